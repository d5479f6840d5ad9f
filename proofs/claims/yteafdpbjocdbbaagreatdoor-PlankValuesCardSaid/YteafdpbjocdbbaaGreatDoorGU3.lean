/- Walks of functions, plain laws, the table. -/
import Derived.Test.YteafdpbjocdbbaaGreatDoorGU2
import Derived.Test.YteafdpbjocdbbaaGreatDoorGD
import Derived.Test.YteafdpbjocdbbaaGreatDoorGU1
import Derived.Test.YteafdpbjocdbbaaGreatDoorGU0
import Derived.Test.YteafdpbjocdbbaaGreatDoorGF
set_option linter.all false
section
set_option maxRecDepth 100000
namespace Go.A.Pk
variable {T:Nat→Option AFunc}
def asgVa:ACode:=(.region [g 13 (.new [(.int .i64 0),(.int .i64 0)]),⟨none, .store 2 (t 13) (t 44),none⟩] [7,8,9,10,12,13])
def bodyVa:ACode:=(.block 1 (.seq (.draw [g 45 (.load none (t 12)),g 46 (.load (some 2) (t 13)),g 47 (.load none (t 7)),g 48 (.iaddrA 2 1 (t 13) (.const (.int .i64 0))),g 49 (.load none (t 48)),g 50 (.bin (.num .sub) (t 49) (.const (.int .i64 1))),g 51 (.iaddrS 1 (t 47) (t 50)),g 52 (.load none (t 51)),g 53 (.iaddrA 2 1 (t 13) (.const (.int .i64 1))),g 54 (.load none (t 53)),g 55 (.bin (.num .sub) (t 54) (.const (.int .i64 1))),g 56 (.iaddrS 1 (t 52) (t 55)),g 57 (.load none (t 56)),⟨none, .mapUp true [.i .i64, .i .i64] (t 45) (t 46) (t 57),none⟩] [0,1,2,3,4,5,6,7,8,9,10,11,12,13] [0,0,0,0,8,24,60,124,0,256,768,2044,4092,8191] [8,9,10,12,13])
 (.seq (.region [g 58 (.load none (t 12)),g 59 (.load (some 2) (t 13)),g 60 (.lookup true [.i .i64, .i .i64] (.int .i64 0) false (t 58) (t 59)),g 61 (.call (.func 77) [(t 60),(.const (.int .i64 0)),(.const (.int .i64 1000000000))]),g 14 (.new [(.bool false)]),⟨none, .store 1 (t 14) (t 61),none⟩] [8,9,10,12,13,14])
 (.seq (.seq (.region [g 62 (.load none (t 10)),g 63 (.load (some 2) (t 13)),g 64 (.call (.func 104) [(t 62),(t 63)])] [8,9,10,12,13,14,64])
 (.block 2 (.rangeFunc (t 64) [65] (.region [g 15 (.new [(.int .u8 0),(.int .i64 0)]),⟨none, .store 2 (t 15) (t 65),none⟩] [10,12,13,14,15]) (.block 3 (.draw [g 66 (.load none (t 14)),g 67 (.mov (t 66)),⟨some 68, .load none (t 12),(some (67,true))⟩,⟨some 69, .load (some 2) (t 13),(some (67,true))⟩,⟨some 70, .lookup true [.i .i64, .i .i64] (.int .i64 0) false (t 68) (t 69),(some (67,true))⟩,⟨some 71, .load none (t 10),(some (67,true))⟩,⟨some 72, .nilchk (t 71),(some (67,true))⟩,⟨some 73, .faddr 2 (t 72),(some (67,true))⟩,⟨some 74, .load none (t 73),(some (67,true))⟩,⟨some 75, .faddr 1 (t 15),(some (67,true))⟩,⟨some 76, .load none (t 75),(some (67,true))⟩,⟨some 77, .iaddrS 1 (t 74) (t 76),(some (67,true))⟩,⟨some 78, .load none (t 77),(some (67,true))⟩,⟨some 79, .bin (.num .geq) (t 70) (t 78),(some (67,true))⟩,g 80 (.pick (t 67) (t 79) (.const (.bool false))),⟨none, .store 1 (t 14) (t 80),none⟩] [0,1,2,3,4,5,6,7,8,9,10,11,12,13,14,15] [0,1,3,3,15,3,35,99,227,3,515,2019,4067,8191,16383,32767] [])))))
 (.seq (.seq (.region [g 81 (.load none (t 10)),g 82 (.load (some 2) (t 13)),g 83 (.call (.func 105) [(t 81),(t 82)])] [8,9,10,12,13,14,83])
 (.block 4 (.rangeFunc (t 83) [84] (.region [g 16 (.new [(.int .u8 0),(.int .i64 0)]),⟨none, .store 2 (t 16) (t 84),none⟩] [10,12,13,14,16]) (.block 5 (.seq (.region [g 86 (.load none (t 10)),g 87 (.load (some 2) (t 13)),g 88 (.load (some 2) (t 16)),g 89 (.call (.func 106) [(t 86),(t 87),(t 88)]),g 85 (.mov (t 89)),g 90 (.extract (t 85) 0),g 91 (.extract (t 85) 1),g 17 (.new [(.int .i64 0),(.int .i64 0)]),g 18 (.new [(.int .i64 0),(.int .i64 0)]),⟨none, .store 2 (t 17) (t 90),none⟩,⟨none, .store 2 (t 18) (t 91),none⟩] [12,13,14,17,18])
 (.draw [g 92 (.load none (t 14)),g 93 (.mov (t 92)),⟨some 94, .load none (t 12),(some (93,true))⟩,⟨some 95, .load (some 2) (t 13),(some (93,true))⟩,⟨some 96, .lookup true [.i .i64, .i .i64] (.int .i64 0) false (t 94) (t 95),(some (93,true))⟩,⟨some 97, .load none (t 12),(some (93,true))⟩,⟨some 98, .load (some 2) (t 17),(some (93,true))⟩,⟨some 99, .lookup true [.i .i64, .i .i64] (.int .i64 0) false (t 97) (t 98),(some (93,true))⟩,⟨some 100, .load none (t 12),(some (93,true))⟩,⟨some 101, .load (some 2) (t 18),(some (93,true))⟩,⟨some 102, .lookup true [.i .i64, .i .i64] (.int .i64 0) false (t 100) (t 101),(some (93,true))⟩,⟨some 103, .bin (.num .add) (t 99) (t 102),(some (93,true))⟩,⟨some 104, .bin (.num .geq) (t 96) (t 103),(some (93,true))⟩,g 105 (.pick (t 93) (t 104) (.const (.bool false))),⟨none, .store 1 (t 14) (t 105),none⟩] [0,1,2,3,4,5,6,7,8,9,10,11,12,13,14] [0,1,3,3,15,3,3,99,3,3,771,2019,4095,8191,16383] []))))))
 (.seq (.region [g 106 (.load none (t 14)),g 107 (.un .not (t 106))] [8,9,107])
 (.cond (t 107) (.seq (.region [⟨none, .store 1 (t 8) (.const (.bool false)),none⟩,⟨none, .store 1 (t 9) (.const (.int .i64 0)),none⟩] [])
 .ret) .skip)))))))
def asgVb:ACode:=(.region [g 15 (.new [(.int .u8 0),(.int .i64 0)]),⟨none, .store 2 (t 15) (t 65),none⟩] [10,12,13,14,15])
def bodyVb:ACode:=(.block 3 (.draw [g 66 (.load none (t 14)),g 67 (.mov (t 66)),⟨some 68, .load none (t 12),(some (67,true))⟩,⟨some 69, .load (some 2) (t 13),(some (67,true))⟩,⟨some 70, .lookup true [.i .i64, .i .i64] (.int .i64 0) false (t 68) (t 69),(some (67,true))⟩,⟨some 71, .load none (t 10),(some (67,true))⟩,⟨some 72, .nilchk (t 71),(some (67,true))⟩,⟨some 73, .faddr 2 (t 72),(some (67,true))⟩,⟨some 74, .load none (t 73),(some (67,true))⟩,⟨some 75, .faddr 1 (t 15),(some (67,true))⟩,⟨some 76, .load none (t 75),(some (67,true))⟩,⟨some 77, .iaddrS 1 (t 74) (t 76),(some (67,true))⟩,⟨some 78, .load none (t 77),(some (67,true))⟩,⟨some 79, .bin (.num .geq) (t 70) (t 78),(some (67,true))⟩,g 80 (.pick (t 67) (t 79) (.const (.bool false))),⟨none, .store 1 (t 14) (t 80),none⟩] [0,1,2,3,4,5,6,7,8,9,10,11,12,13,14,15] [0,1,3,3,15,3,35,99,227,3,515,2019,4067,8191,16383,32767] []))
def asgVc:ACode:=(.region [g 16 (.new [(.int .u8 0),(.int .i64 0)]),⟨none, .store 2 (t 16) (t 84),none⟩] [10,12,13,14,16])
def bodyVc:ACode:=(.block 5 (.seq (.region [g 86 (.load none (t 10)),g 87 (.load (some 2) (t 13)),g 88 (.load (some 2) (t 16)),g 89 (.call (.func 106) [(t 86),(t 87),(t 88)]),g 85 (.mov (t 89)),g 90 (.extract (t 85) 0),g 91 (.extract (t 85) 1),g 17 (.new [(.int .i64 0),(.int .i64 0)]),g 18 (.new [(.int .i64 0),(.int .i64 0)]),⟨none, .store 2 (t 17) (t 90),none⟩,⟨none, .store 2 (t 18) (t 91),none⟩] [12,13,14,17,18])
 (.draw [g 92 (.load none (t 14)),g 93 (.mov (t 92)),⟨some 94, .load none (t 12),(some (93,true))⟩,⟨some 95, .load (some 2) (t 13),(some (93,true))⟩,⟨some 96, .lookup true [.i .i64, .i .i64] (.int .i64 0) false (t 94) (t 95),(some (93,true))⟩,⟨some 97, .load none (t 12),(some (93,true))⟩,⟨some 98, .load (some 2) (t 17),(some (93,true))⟩,⟨some 99, .lookup true [.i .i64, .i .i64] (.int .i64 0) false (t 97) (t 98),(some (93,true))⟩,⟨some 100, .load none (t 12),(some (93,true))⟩,⟨some 101, .load (some 2) (t 18),(some (93,true))⟩,⟨some 102, .lookup true [.i .i64, .i .i64] (.int .i64 0) false (t 100) (t 101),(some (93,true))⟩,⟨some 103, .bin (.num .add) (t 99) (t 102),(some (93,true))⟩,⟨some 104, .bin (.num .geq) (t 96) (t 103),(some (93,true))⟩,g 105 (.pick (t 93) (t 104) (.const (.bool false))),⟨none, .store 1 (t 14) (t 105),none⟩] [0,1,2,3,4,5,6,7,8,9,10,11,12,13,14] [0,1,3,3,15,3,3,99,3,3,771,2019,4095,8191,16383] [])))
set_option maxHeartbeats 8000000 in
theorem vleaf_round(hp:primAS T){H:Heap}(hr:Rdy H){q p10 p12 p13 bb mb l2 n wc a b:Nat}{v8 v9 fv s1 s2:Value}{wa:Option Addr}{own:Bool}{ws:List Int}{t:Tab}{x:Nat×Nat}{o r:Bool}(ho:r=(o&&decide (ws.getD x.2 0≤look t (a,b))))(hx:x.2<n)(gl:H.get l2=some (.loop [(8,v8),(9,v9),(10, .pointer (some ⟨p10,0,none⟩)),(12, .pointer (some ⟨p12,0,none⟩)),(13, .pointer (some ⟨p13,0,none⟩)),(14, .pointer (some ⟨q,0,none⟩)),(64,fv)] [65] asgVb bodyVb 0 .normal))
 (gq:H.get q=some (.cells [.bool o] true 1))(g10:H.get p10=some (.cells [.pointer (some ⟨bb,0,none⟩)] true 1))(g12:H.get p12=some (.cells [.map (some mb)] true 1))(g13:H.get p13=some (.cells [.int .i64 a, .int .i64 b] true 1))(gm:H.get mb=some (.map (ents t)))(gb:H.get bb=some (.cells [s1,s2, .slice wa n wc] own 1))(hws:SliceOf H 1 (.slice wa n wc) n (ints ws)):
 FW T (.yield l2) [nodeV x] H fun r' H'=>r'= .ret (.bool true)∧(∀z∈H'.log,q≤z∧z<q+1)∧(∀z,z<H.next→z≠q→H'.get z=H.get z)∧H'.get q=some (.cells [.bool r] true 1):=by
 have hlen:ws.length=n:=by have:=hws.len;simp[ints]at this;omega
 rcases hws.inv with⟨_,_,h0,_⟩|⟨b0,o0,cap,hv,s,hcap⟩
 ·omega
 cases hv
 obtain⟨vs,own',t0,g5,g6⟩:=slice_elem1 s (ints_get (l:=ws) (i:=x.2) (by omega))
 clear s
 have n1:=ne_loop gq gl
 have n2:=ne_loop g10 gl
 have n3:=ne_loop g12 gl
 have n4:=ne_loop g13 gl
 have n5:=ne_loop gb gl
 have n6:=ne_loop g5 gl
 have n7:=ne_map gm gl
 have k1:=WF.get_lt hr.wf gq
 have k2:=WF.get_lt hr.wf g10
 have k3:=WF.get_lt hr.wf g12
 have k4:=WF.get_lt hr.wf g13
 have k5:=WF.get_lt hr.wf gb
 have k6:=WF.get_lt hr.wf g5
 have k7:=WF.get_lt hr.wf gm
 have k8:=WF.get_lt hr.wf gl
 refine FW.yieldN hp (R:=fun H'=>(∀z,z<H.next→z≠q→H'.get z=H.get z)∧H'.get q=some (.cells [.bool r] true 1)) gl rfl k8 ?_
 unfold asgVb nodeV
 refine wE_region ?_;refine wO_val a_new ?_;refine yS ?_;refine wO_nil ?_
 refine y1 ?_
 refine⟨rfl,by(simp(disch:=first|omega|(simp only[z1,z2];omega))only[z3,z4,z5,z6,z7,z1,z2, *];exact rfl),?_⟩
 unfold bodyVb
 cases o with
 |false=>
  obtain rfl:r=false:=ho
  refine wE_block ?_;refine wE_draw ?_;refine qL ?_
  refine qM ?_;refine wD_off rfl rfl rfl (by exact rfl) ?_;refine wD_off rfl rfl rfl (by exact rfl) ?_;refine wD_off rfl rfl rfl (by exact rfl) ?_;refine wD_off rfl rfl rfl (by exact rfl) ?_;refine wD_off rfl rfl rfl (by exact rfl) ?_;refine wD_off rfl rfl rfl (by exact rfl) ?_
  refine wD_off rfl rfl rfl (by exact rfl) ?_;refine wD_off rfl rfl rfl (by exact rfl) ?_;refine wD_off rfl rfl rfl (by exact rfl) ?_;refine wD_off rfl rfl rfl (by exact rfl) ?_;refine wD_off rfl rfl rfl (by exact rfl) ?_;refine wD_off rfl rfl rfl (by exact rfl) ?_;refine wD_quiet rfl rfl rfl (by exact rfl) (by exact rfl) (by exact rfl) (a_pickF (by exact rfl) (by exact rfl)) ?_
  refine wD_storeA (ws:=[.bool false]) rfl rfl rfl (by exact rfl) (by exact rfl) (by exact rfl) (by(simp(disch:=first|omega|(simp only[z1,z2];omega))only[z3,z4,z5,z6,z7,z1,z2, *];exact rfl)) (by exact rfl) (by exact rfl) (by(simp only[z1,z2];omega)) (by apply ra_dropC rfl;apply ra_dropC rfl;apply ra_dropC rfl;apply ra_dropC rfl;apply ra_dropC rfl;apply ra_dropC rfl;apply ra_dropC rfl;apply ra_dropC rfl;apply ra_dropC rfl;apply ra_dropC rfl;apply ra_dropC rfl;apply ra_dropC rfl;apply ra_dropC rfl;apply ra_dropC rfl;apply ra_dropC rfl;exact ra_nil) ?_
  refine wD_nil ?_;refine y1 ?_;refine kB_n ?_
  refine⟨rfl,⟨_,by(simp(disch:=first|omega|(simp only[z1,z2];omega))only[z3,z4,z5,z6,z7,z1,z2, *];exact rfl),rfl⟩,?_,?_⟩
  ·intro z hz
   rw[log_wr_q (by simp(disch:=first|omega|(simp only[z1,z2];omega))only[Heap.log_wr_new,Heap.log_push];exact hr.log) k1]at hz
   simp at hz;omega
  ·intro h5 hn hag hl5
   refine⟨fun z hz hne=> ?_,(hag q k1 n1).trans (by(simp(disch:=first|omega|(simp only[z1,z2];omega))only[z3,z4,z5,z6,z7,z1,z2, *];done))⟩
   by_cases hz2:z=l2
   ·rw[hz2];exact hl5.trans gl.symm
   ·exact(hag z hz hz2).trans (by simp(disch:=first|omega|(simp only[z1,z2];omega))only[z5,z4])
 |true=>
  by_cases hc:ws.getD x.2 0≤look t (a,b)
  ·obtain rfl:r=true:=by rw[ho,decide_eq_true hc];rfl
   clear ho
   generalize hA:look t ((a:Int),(b:Int))=A at*
   generalize ws.getD x.2 0=B at*
   refine wE_block ?_;refine wE_draw ?_;refine qL ?_
   refine qM ?_
   refine qL ?_
   refine qN ?_
   refine wD_quiet rfl rfl rfl (by exact rfl) (by exact rfl) (by exact rfl) (a_lookup (x:=((a:Int),(b:Int))) (by exact rfl) (by exact rfl) (by(simp(disch:=first|omega|(simp only[z1,z2];omega))only[z3,z4,z5,z6,z7,z1,z2, *];exact rfl))) ?_
   rw[hA]
   refine qL ?_
   refine wD_quiet rfl rfl rfl (by exact rfl) (by exact rfl) (by exact rfl) (a_nilchk (by exact rfl)) ?_;refine qF ?_
   refine qL ?_
   refine qF ?_
   refine qL ?_
   refine wD_quiet rfl rfl rfl (by exact rfl) (by exact rfl) (by exact rfl) (a_iaddrS (by exact rfl) (by exact rfl) (by omega)) ?_
   refine wD_quiet rfl rfl rfl (by exact rfl) (by exact rfl) (by exact rfl) (a_load (by exact rfl) (by(simp(disch:=first|omega|(simp only[z1,z2];omega))only[z3,z4,z5,z6,z7,z1,z2, *];exact rfl)) (by assumption)) ?_
   refine wD_quiet rfl rfl rfl (by exact rfl) (by exact rfl) (by exact rfl) (a_num (by exact rfl) (by exact rfl) (by exact m_geqT (by omega))) ?_;refine wD_quiet rfl rfl rfl (by exact rfl) (by exact rfl) (by exact rfl) (a_pickT (by exact rfl) (by exact rfl)) ?_
   refine wD_storeA (ws:=[.bool true]) rfl rfl rfl (by exact rfl) (by exact rfl) (by exact rfl) (by(simp(disch:=first|omega|(simp only[z1,z2];omega))only[z3,z4,z5,z6,z7,z1,z2, *];exact rfl)) (by exact rfl) (by exact rfl) (by(simp only[z1,z2];omega)) (by apply ra_dropC rfl;apply ra_dropC rfl;apply ra_dropC rfl;apply ra_dropC rfl;apply ra_dropC rfl;apply ra_dropC rfl;apply ra_dropC rfl;apply ra_dropC rfl;apply ra_dropC rfl;apply ra_dropC rfl;apply ra_dropC rfl;apply ra_dropC rfl;apply ra_dropC rfl;apply ra_dropC rfl;apply ra_dropC rfl;exact ra_nil) ?_
   refine wD_nil ?_;refine y1 ?_;refine kB_n ?_
   refine⟨rfl,⟨_,by(simp(disch:=first|omega|(simp only[z1,z2];omega))only[z3,z4,z5,z6,z7,z1,z2, *];exact rfl),rfl⟩,?_,?_⟩
   ·intro z hz
    rw[log_wr_q (by simp(disch:=first|omega|(simp only[z1,z2];omega))only[Heap.log_wr_new,Heap.log_push];exact hr.log) k1]at hz
    simp at hz;omega
   ·intro h5 hn hag hl5
    refine⟨fun z hz hne=> ?_,(hag q k1 n1).trans (by(simp(disch:=first|omega|(simp only[z1,z2];omega))only[z3,z4,z5,z6,z7,z1,z2, *];done))⟩
    by_cases hz2:z=l2
    ·rw[hz2];exact hl5.trans gl.symm
    ·exact(hag z hz hz2).trans (by simp(disch:=first|omega|(simp only[z1,z2];omega))only[z5,z4])
  ·obtain rfl:r=false:=by rw[ho,decide_eq_false hc];rfl
   clear ho
   generalize hA:look t ((a:Int),(b:Int))=A at*
   generalize ws.getD x.2 0=B at*
   refine wE_block ?_;refine wE_draw ?_;refine qL ?_
   refine qM ?_
   refine qL ?_
   refine qN ?_
   refine wD_quiet rfl rfl rfl (by exact rfl) (by exact rfl) (by exact rfl) (a_lookup (x:=((a:Int),(b:Int))) (by exact rfl) (by exact rfl) (by(simp(disch:=first|omega|(simp only[z1,z2];omega))only[z3,z4,z5,z6,z7,z1,z2, *];exact rfl))) ?_
   rw[hA]
   refine qL ?_
   refine wD_quiet rfl rfl rfl (by exact rfl) (by exact rfl) (by exact rfl) (a_nilchk (by exact rfl)) ?_;refine qF ?_
   refine qL ?_
   refine qF ?_
   refine qL ?_
   refine wD_quiet rfl rfl rfl (by exact rfl) (by exact rfl) (by exact rfl) (a_iaddrS (by exact rfl) (by exact rfl) (by omega)) ?_
   refine wD_quiet rfl rfl rfl (by exact rfl) (by exact rfl) (by exact rfl) (a_load (by exact rfl) (by(simp(disch:=first|omega|(simp only[z1,z2];omega))only[z3,z4,z5,z6,z7,z1,z2, *];exact rfl)) (by assumption)) ?_
   refine wD_quiet rfl rfl rfl (by exact rfl) (by exact rfl) (by exact rfl) (a_num (by exact rfl) (by exact rfl) (by exact m_geqF (by omega))) ?_;refine wD_quiet rfl rfl rfl (by exact rfl) (by exact rfl) (by exact rfl) (a_pickT (by exact rfl) (by exact rfl)) ?_
   refine wD_storeA (ws:=[.bool false]) rfl rfl rfl (by exact rfl) (by exact rfl) (by exact rfl) (by(simp(disch:=first|omega|(simp only[z1,z2];omega))only[z3,z4,z5,z6,z7,z1,z2, *];exact rfl)) (by exact rfl) (by exact rfl) (by(simp only[z1,z2];omega)) (by apply ra_dropC rfl;apply ra_dropC rfl;apply ra_dropC rfl;apply ra_dropC rfl;apply ra_dropC rfl;apply ra_dropC rfl;apply ra_dropC rfl;apply ra_dropC rfl;apply ra_dropC rfl;apply ra_dropC rfl;apply ra_dropC rfl;apply ra_dropC rfl;apply ra_dropC rfl;apply ra_dropC rfl;apply ra_dropC rfl;exact ra_nil) ?_
   refine wD_nil ?_;refine y1 ?_;refine kB_n ?_
   refine⟨rfl,⟨_,by(simp(disch:=first|omega|(simp only[z1,z2];omega))only[z3,z4,z5,z6,z7,z1,z2, *];exact rfl),rfl⟩,?_,?_⟩
   ·intro z hz
    rw[log_wr_q (by simp(disch:=first|omega|(simp only[z1,z2];omega))only[Heap.log_wr_new,Heap.log_push];exact hr.log) k1]at hz
    simp at hz;omega
   ·intro h5 hn hag hl5
    refine⟨fun z hz hne=> ?_,(hag q k1 n1).trans (by(simp(disch:=first|omega|(simp only[z1,z2];omega))only[z3,z4,z5,z6,z7,z1,z2, *];done))⟩
    by_cases hz2:z=l2
    ·rw[hz2];exact hl5.trans gl.symm
    ·exact(hag z hz hz2).trans (by simp(disch:=first|omega|(simp only[z1,z2];omega))only[z5,z4])
set_option maxHeartbeats 8000000 in
theorem vcut_round(hp:primAS T)(f106:T 106=some f106){H:Heap}(hr:Rdy H){q p10 p12 p13 bb mb l2 a b:Nat}{v8 v9 fv s1 s3:Value}{own:Bool}{kerf:Int}{t:Tab}{x:Nat×Nat}{o r:Bool}(ho:r=(o&&decide (look t (oneB x a b)+look t (twoB kerf x a b)≤look t (a,b))))(hx:x.1=3∨x.1=4)(hx2:x.2<1000)(ha:a<1000)(hb:b<1000)(hk:0≤kerf∧kerf≤100)
 (hsum: -4611686018427387904≤look t (oneB x a b)+look t (twoB kerf x a b)∧look t (oneB x a b)+look t (twoB kerf x a b)≤4611686018427387904)(gl:H.get l2=some (.loop [(8,v8),(9,v9),(10, .pointer (some ⟨p10,0,none⟩)),(12, .pointer (some ⟨p12,0,none⟩)),(13, .pointer (some ⟨p13,0,none⟩)),(14, .pointer (some ⟨q,0,none⟩)),(83,fv)] [84] asgVc bodyVc 0 .normal))
 (gq:H.get q=some (.cells [.bool o] true 1))(g10:H.get p10=some (.cells [.pointer (some ⟨bb,0,none⟩)] true 1))(g12:H.get p12=some (.cells [.map (some mb)] true 1))(g13:H.get p13=some (.cells [.int .i64 a, .int .i64 b] true 1))(gm:H.get mb=some (.map (ents t)))(gb:H.get bb=some (.cells [s1, .int .i64 kerf,s3] own 1)):
 FW T (.yield l2) [nodeV x] H fun r' H'=>r'= .ret (.bool true)∧(∀z∈H'.log,q≤z∧z<q+1)∧(∀z,z<H.next→z≠q→H'.get z=H.get z)∧H'.get q=some (.cells [.bool r] true 1):=by
 have n1:=ne_loop gq gl
 have n2:=ne_loop g10 gl
 have n3:=ne_loop g12 gl
 have n4:=ne_loop g13 gl
 have n5:=ne_loop gb gl
 have n7:=ne_map gm gl
 have k1:=WF.get_lt hr.wf gq
 have k2:=WF.get_lt hr.wf g10
 have k3:=WF.get_lt hr.wf g12
 have k4:=WF.get_lt hr.wf g13
 have k5:=WF.get_lt hr.wf gb
 have k7:=WF.get_lt hr.wf gm
 have k8:=WF.get_lt hr.wf gl
 refine FW.yieldN hp (R:=fun H'=>(∀z,z<H.next→z≠q→H'.get z=H.get z)∧H'.get q=some (.cells [.bool r] true 1)) gl rfl k8 ?_
 unfold asgVc
 refine wE_region ?_;refine wO_val a_new ?_;refine yS ?_;refine wO_nil ?_
 refine y1 ?_
 refine⟨rfl,by(simp(disch:=first|omega|(simp only[z1,z2];omega))only[z3,z4,z5,z6,z7,z1,z2, *];exact rfl),?_⟩
 unfold bodyVc
 refine wE_block ?_;refine y4 ?_;refine yL ?_
 refine yN ?_
 refine yN ?_
 refine yC ?_
 have gB:(((H.push (.cells [.int .u8 0, .int .i64 0] true 1)).wr H.next H.next (.cells [.int .u8 x.1, .int .i64 x.2] true 1)).wr 0 l2 (.loop [(8,v8),(9,v9),(10, .pointer (some ⟨p10,0,none⟩)),(12, .pointer (some ⟨p12,0,none⟩)),(13, .pointer (some ⟨p13,0,none⟩)),(14, .pointer (some ⟨q,0,none⟩)),(83,fv)] [84] asgVc bodyVc 1 .normal)).get bb=some (.cells [s1, .int .i64 kerf,s3] own 1):=by(simp(disch:=first|omega|(simp only[z1,z2];omega))only[z3,z4,z5,z6,z7,z1,z2, *];done)
 have hw:WF (((H.push (.cells [.int .u8 0, .int .i64 0] true 1)).wr H.next H.next (.cells [.int .u8 x.1, .int .i64 x.2] true 1)).wr 0 l2 (.loop [(8,v8),(9,v9),(10, .pointer (some ⟨p10,0,none⟩)),(12, .pointer (some ⟨p12,0,none⟩)),(13, .pointer (some ⟨p13,0,none⟩)),(14, .pointer (some ⟨q,0,none⟩)),(83,fv)] [84] asgVc bodyVc 1 .normal)):=((hr.wf.push _).as (AS.wr _ _ _ _)).as (AS.wr _ _ _ _)
 refine FW.pu (split106 hp f106 (.of hw) gB (Nat.lt_succ_of_lt k5) hk hx hx2 ha hb) ?_
 clear gB hw
 cases o with
 |false=>
  obtain rfl:r=false:=ho
  refine yM ?_;refine yE ?_;refine yE ?_;refine wO_val a_new ?_;refine wO_val a_new ?_
  refine yS ?_
  refine yS ?_;refine y3 ?_;refine wE_draw ?_
  refine qL ?_
  refine qM ?_;refine wD_off rfl rfl rfl (by exact rfl) ?_;refine wD_off rfl rfl rfl (by exact rfl) ?_;refine wD_off rfl rfl rfl (by exact rfl) ?_;refine wD_off rfl rfl rfl (by exact rfl) ?_;refine wD_off rfl rfl rfl (by exact rfl) ?_;refine wD_off rfl rfl rfl (by exact rfl) ?_
  refine wD_off rfl rfl rfl (by exact rfl) ?_;refine wD_off rfl rfl rfl (by exact rfl) ?_;refine wD_off rfl rfl rfl (by exact rfl) ?_;refine wD_off rfl rfl rfl (by exact rfl) ?_;refine wD_off rfl rfl rfl (by exact rfl) ?_;refine wD_quiet rfl rfl rfl (by exact rfl) (by exact rfl) (by exact rfl) (a_pickF (by exact rfl) (by exact rfl)) ?_
  refine wD_storeA (ws:=[.bool false]) rfl rfl rfl (by exact rfl) (by exact rfl) (by exact rfl) (by(simp(disch:=first|omega|(simp only[z1,z2];omega))only[z3,z4,z5,z6,z7,z1,z2, *];exact rfl)) (by exact rfl) (by exact rfl) (by(simp only[z1,z2];omega)) (by apply ra_dropC rfl;apply ra_dropC rfl;apply ra_dropC rfl;apply ra_dropC rfl;apply ra_dropC rfl;apply ra_dropC rfl;apply ra_dropC rfl;apply ra_dropC rfl;apply ra_dropC rfl;apply ra_dropC rfl;apply ra_dropC rfl;apply ra_dropC rfl;apply ra_dropC rfl;apply ra_dropC rfl;exact ra_nil) ?_
  refine wD_nil ?_;refine y1 ?_;refine kB_n ?_
  refine⟨rfl,⟨_,by(simp(disch:=first|omega|(simp only[z1,z2];omega))only[z3,z4,z5,z6,z7,z1,z2, *];exact rfl),rfl⟩,?_,?_⟩
  ·intro z hz
   rw[log_wr_q (by simp(disch:=first|omega|(simp only[z1,z2];omega))only[Heap.log_wr_new,Heap.log_push];exact hr.log) k1]at hz
   simp at hz;omega
  ·intro h5 hn hag hl5
   refine⟨fun z hz hne=> ?_,(hag q k1 n1).trans (by(simp(disch:=first|omega|(simp only[z1,z2];omega))only[z3,z4,z5,z6,z7,z1,z2, *];done))⟩
   by_cases hz2:z=l2
   ·rw[hz2];exact hl5.trans gl.symm
   ·exact(hag z hz hz2).trans (by simp(disch:=first|omega|(simp only[z1,z2];omega))only[z5,z4])
 |true=>
  have hadd:=m_add (k:= .i64) (a:=look t (oneB x a b)) (b:=look t (twoB kerf x a b)) (wrapA_i64 (by omega) (by omega))
  by_cases hc:look t (oneB x a b)+look t (twoB kerf x a b)≤look t (a,b)
  ·obtain rfl:r=true:=by rw[ho,decide_eq_true hc];rfl
   clear ho
   refine yM ?_;refine yE ?_;refine yE ?_;refine wO_val a_new ?_;refine wO_val a_new ?_
   refine yS ?_
   refine yS ?_;refine y3 ?_;refine wE_draw ?_
   refine qL ?_
   refine qM ?_
   refine qL ?_
   refine qN ?_
   refine wD_quiet rfl rfl rfl (by exact rfl) (by exact rfl) (by exact rfl) (a_lookup (x:=((a:Int),(b:Int))) (by exact rfl) (by exact rfl) (by(simp(disch:=first|omega|(simp only[z1,z2];omega))only[z3,z4,z5,z6,z7,z1,z2, *];exact rfl))) ?_
   refine qL ?_
   refine qN ?_
   refine wD_quiet rfl rfl rfl (by exact rfl) (by exact rfl) (by exact rfl) (a_lookup (x:=oneB x a b) (by exact rfl) (by exact rfl) (by(simp(disch:=first|omega|(simp only[z1,z2];omega))only[z3,z4,z5,z6,z7,z1,z2, *];exact rfl))) ?_
   refine qL ?_
   refine qN ?_
   refine wD_quiet rfl rfl rfl (by exact rfl) (by exact rfl) (by exact rfl) (a_lookup (x:=twoB kerf x a b) (by exact rfl) (by exact rfl) (by(simp(disch:=first|omega|(simp only[z1,z2];omega))only[z3,z4,z5,z6,z7,z1,z2, *];exact rfl))) ?_
   refine wD_quiet rfl rfl rfl (by exact rfl) (by exact rfl) (by exact rfl) (a_num (by exact rfl) (by exact rfl) hadd) ?_
   refine wD_quiet rfl rfl rfl (by exact rfl) (by exact rfl) (by exact rfl) (a_num (by exact rfl) (by exact rfl) (by exact m_geqT (by omega))) ?_;refine wD_quiet rfl rfl rfl (by exact rfl) (by exact rfl) (by exact rfl) (a_pickT (by exact rfl) (by exact rfl)) ?_
   refine wD_storeA (ws:=[.bool true]) rfl rfl rfl (by exact rfl) (by exact rfl) (by exact rfl) (by(simp(disch:=first|omega|(simp only[z1,z2];omega))only[z3,z4,z5,z6,z7,z1,z2, *];exact rfl)) (by exact rfl) (by exact rfl) (by(simp only[z1,z2];omega)) (by apply ra_dropC rfl;apply ra_dropC rfl;apply ra_dropC rfl;apply ra_dropC rfl;apply ra_dropC rfl;apply ra_dropC rfl;apply ra_dropC rfl;apply ra_dropC rfl;apply ra_dropC rfl;apply ra_dropC rfl;apply ra_dropC rfl;apply ra_dropC rfl;apply ra_dropC rfl;apply ra_dropC rfl;exact ra_nil) ?_
   refine wD_nil ?_;refine y1 ?_;refine kB_n ?_
   refine⟨rfl,⟨_,by(simp(disch:=first|omega|(simp only[z1,z2];omega))only[z3,z4,z5,z6,z7,z1,z2, *];exact rfl),rfl⟩,?_,?_⟩
   ·intro z hz
    rw[log_wr_q (by simp(disch:=first|omega|(simp only[z1,z2];omega))only[Heap.log_wr_new,Heap.log_push];exact hr.log) k1]at hz
    simp at hz;omega
   ·intro h5 hn hag hl5
    refine⟨fun z hz hne=> ?_,(hag q k1 n1).trans (by(simp(disch:=first|omega|(simp only[z1,z2];omega))only[z3,z4,z5,z6,z7,z1,z2, *];done))⟩
    by_cases hz2:z=l2
    ·rw[hz2];exact hl5.trans gl.symm
    ·exact(hag z hz hz2).trans (by simp(disch:=first|omega|(simp only[z1,z2];omega))only[z5,z4])
  ·obtain rfl:r=false:=by rw[ho,decide_eq_false hc];rfl
   clear ho
   refine yM ?_;refine yE ?_;refine yE ?_;refine wO_val a_new ?_;refine wO_val a_new ?_
   refine yS ?_
   refine yS ?_;refine y3 ?_;refine wE_draw ?_
   refine qL ?_
   refine qM ?_
   refine qL ?_
   refine qN ?_
   refine wD_quiet rfl rfl rfl (by exact rfl) (by exact rfl) (by exact rfl) (a_lookup (x:=((a:Int),(b:Int))) (by exact rfl) (by exact rfl) (by(simp(disch:=first|omega|(simp only[z1,z2];omega))only[z3,z4,z5,z6,z7,z1,z2, *];exact rfl))) ?_
   refine qL ?_
   refine qN ?_
   refine wD_quiet rfl rfl rfl (by exact rfl) (by exact rfl) (by exact rfl) (a_lookup (x:=oneB x a b) (by exact rfl) (by exact rfl) (by(simp(disch:=first|omega|(simp only[z1,z2];omega))only[z3,z4,z5,z6,z7,z1,z2, *];exact rfl))) ?_
   refine qL ?_
   refine qN ?_
   refine wD_quiet rfl rfl rfl (by exact rfl) (by exact rfl) (by exact rfl) (a_lookup (x:=twoB kerf x a b) (by exact rfl) (by exact rfl) (by(simp(disch:=first|omega|(simp only[z1,z2];omega))only[z3,z4,z5,z6,z7,z1,z2, *];exact rfl))) ?_
   refine wD_quiet rfl rfl rfl (by exact rfl) (by exact rfl) (by exact rfl) (a_num (by exact rfl) (by exact rfl) hadd) ?_
   refine wD_quiet rfl rfl rfl (by exact rfl) (by exact rfl) (by exact rfl) (a_num (by exact rfl) (by exact rfl) (by exact m_geqF (by omega))) ?_;refine wD_quiet rfl rfl rfl (by exact rfl) (by exact rfl) (by exact rfl) (a_pickT (by exact rfl) (by exact rfl)) ?_
   refine wD_storeA (ws:=[.bool false]) rfl rfl rfl (by exact rfl) (by exact rfl) (by exact rfl) (by(simp(disch:=first|omega|(simp only[z1,z2];omega))only[z3,z4,z5,z6,z7,z1,z2, *];exact rfl)) (by exact rfl) (by exact rfl) (by(simp only[z1,z2];omega)) (by apply ra_dropC rfl;apply ra_dropC rfl;apply ra_dropC rfl;apply ra_dropC rfl;apply ra_dropC rfl;apply ra_dropC rfl;apply ra_dropC rfl;apply ra_dropC rfl;apply ra_dropC rfl;apply ra_dropC rfl;apply ra_dropC rfl;apply ra_dropC rfl;apply ra_dropC rfl;apply ra_dropC rfl;exact ra_nil) ?_
   refine wD_nil ?_;refine y1 ?_;refine kB_n ?_
   refine⟨rfl,⟨_,by(simp(disch:=first|omega|(simp only[z1,z2];omega))only[z3,z4,z5,z6,z7,z1,z2, *];exact rfl),rfl⟩,?_,?_⟩
   ·intro z hz
    rw[log_wr_q (by simp(disch:=first|omega|(simp only[z1,z2];omega))only[Heap.log_wr_new,Heap.log_push];exact hr.log) k1]at hz
    simp at hz;omega
   ·intro h5 hn hag hl5
    refine⟨fun z hz hne=> ?_,(hag q k1 n1).trans (by(simp(disch:=first|omega|(simp only[z1,z2];omega))only[z3,z4,z5,z6,z7,z1,z2, *];done))⟩
    by_cases hz2:z=l2
    ·rw[hz2];exact hl5.trans gl.symm
    ·exact(hag z hz hz2).trans (by simp(disch:=first|omega|(simp only[z1,z2];omega))only[z5,z4])
end Go.A.Pk
end
section
set_option maxRecDepth 100000
namespace Go.A.Pk
variable {T:Nat→Option AFunc}
structure YldB (T:Nat→Option AFunc) (lo N l:Nat) (V:Nat×Nat→Value) (all:List (Nat×Nat)) (P:List (Nat×Nat)→Heap→Prop):Prop where
 yields:∀done x H,x∈all→Rdy H→N≤H.next→P done H→FW T (.yield l) [V x] H fun r H'=>r= .ret (.bool true)∧(∀z∈H'.log,lo≤z)∧P (done++[x]) H'
 stable:∀done H H',P done H→N≤H'.next→(∀x,x<N→H'.get x=H.get x)→P done H'
theorem YldB.call(hp:primAS T){lo N l:Nat}{V:Nat×Nat→Value}{all:List (Nat×Nat)}{P:List (Nat×Nat)→Heap→Prop}(Y:YldB T lo N l V all P){base:Nat}{Q:XQ}{e:Env}{ds:Dfs}{h:Heap}{K:Env→Dfs→Heap→Prop}{dst:Option Nat}{done:List (Nat×Nat)}{x:Nat×Nat}(hx:x∈all)(hw:WF h)(hlo:lo≤h.next)(hN:N≤h.next)(hP:P done h)
 (hK:∀h',Lk lo h h'→P (done++[x]) h'→K (dstE e dst (.bool true)) ds h'):FW T (.yield l) [V x] {h with log:=[]} (KO K Q base dst e ds h.log):=by
 refine FW.mono' (FW.withAS hp (Y.yields done x _ hx (.of hw) hN (Y.stable _ _ _ hP hN fun _ _=>rfl)) rfl) ?_
 rintro r h2 ⟨hA,rfl,hl,hq⟩
 have hk:Lk lo {h with log:=[]} h2:=Lk.of_as hA hlo fun z hz=>hl z hz
 exact⟨hK _ hk.call (Y.stable _ _ _ hq (Nat.le_trans hN hA.next) fun _ _=>rfl)⟩
end Go.A.Pk
end
section
set_option maxRecDepth 100000
namespace Go.A
variable {T:Nat→Option AFunc}
structure OwnC (lo:Nat) (h:Heap) (sz:Nat) (v:Value) (n:Nat) (cs:List Value):Prop where
 ex:∃q c,v= .slice (some ⟨q,0,none⟩) n c∧lo≤q∧q<h.next∧h.get q=some (.cells cs true sz)∧cs.length=n*sz∧(c=UNK∨c=n)
theorem OwnC.keep{lo sz n:Nat}{h h':Heap}{v:Value}{cs:List Value}(s:OwnC lo h sz v n cs)(hn:h.next≤h'.next)(ha:∀z,lo≤z→z<h.next→h'.get z=h.get z):OwnC lo h' sz v n cs:=by
 obtain⟨q,c,h1,h2,h3,h4,h5⟩:=s.ex
 exact⟨q,c,h1,h2,by omega,(ha _ h2 h3).trans h4,h5⟩
theorem OwnC.low{lo lo' sz n:Nat}{h:Heap}{v:Value}{cs:List Value}(s:OwnC lo h sz v n cs)(hl:lo'≤lo):OwnC lo' h sz v n cs:=by
 obtain⟨q,c,h1,h2,h3⟩:=s.ex
 exact⟨q,c,h1,by omega,h3⟩
theorem OwnC.slice{lo sz n:Nat}{h:Heap}{v:Value}{cs:List Value}(s:OwnC lo h sz v n cs)(hn:n<4000000):SliceOf h sz v n cs:=by
 obtain⟨q,c,rfl,h2,h3,h4,h5,h6⟩:=s.ex
 refine .mem ⟨h3,⟨_,_,_,h4,?_⟩,h5⟩ (by unfold UNK at h6;omega)
 rw[ltake_eq,ldrop_eq,List.drop_zero,List.take_of_length_le (by omega)]
end Go.A
namespace Go.A.Pk
variable {T:Nat→Option AFunc}
end Go.A.Pk
end
section
set_option maxRecDepth 100000
namespace Go.A.Pk
variable {T:Nat→Option AFunc}
theorem in77E(hp:primAS T)(hf:T 77=some f77){h:Heap}(hr:Rdy h){n a b:Int}:Pu T 77 [.int .i64 n, .int .i64 a, .int .i64 b] h (.bool (decide (a≤n∧n≤b))):=by
 by_cases q:a≤n∧n≤b
 ·rw[decide_eq_true q];exact in77T hp hf hr q
 ·rw[decide_eq_false q];exact in77F hp hf hr q
end Go.A.Pk
end
section
set_option maxRecDepth 100000
namespace Go.A.Pk
variable {T:Nat→Option AFunc}
theorem inner_rangeL{base:Nat}{rnd:Option Nat}{e:Env}{ds:Dfs}{Q:XQ}{h1:Heap}{f:Operand}{g q:Nat}{first cap:Array Value}{ps:List Nat}{asg body:ACode}{all:List (Nat×Nat)}{O:List (Nat×Nat)→AObj}(hr:roundA h1 rnd=true)(hf:ev h1 e f=some (.func (.func g) first cap))(hnc:notCode (T g)=false)
 (hB:base≤h1.next)(hq:base≤q)(w1:WF h1)
 (HG:Gr T g (lcat first.toList (lcat [.func (.yield h1.next) #[] #[]] cap.toList)) {h1.push (.loop e ps asg body 0 .normal)with log:=[]} q fun v h'=>v= .tuple #[]∧PW h1.next q h1 (.loop e ps asg body 0 .normal) O all h')(hqn:q<h1.next)
 (K:∀h3,h3.log=h1.log→WF h3→h1.next≤h3.next→(∀z,z<h1.next→z≠q→h3.get z=h1.get z)→h3.get q=some (O all)→Q .normal e ds h3):WE T base rnd (.rangeFunc f ps asg body) Q e ds h1:=by
 refine wE_range hr hf hnc (CW.mono HG ?_)
 rintro r h2 ⟨hk,v,rfl,rfl,hP⟩
 refine⟨_,rfl,_,_,_,_,_,_,hP.loop,rfl,?_⟩
 have hl2:LogGe base h2.log:=fun z hz=>Nat.le_trans hq (hk.log (LogGe.nil _) z hz)
 refine K _ ?_ ?_ ?_ (fun z hz hne=> ?_) ?_
 ·rw[Heap.log_wr_new hB]
  show mergeLog base h1.log h2.log=h1.log
  rw[mergeLog_ge hl2]
 ·exact((hk.wf ((w1.push _).log _)).log _).as (AS.wr _ _ _ _)
 ·have:=hk.next
  have e1:h1.next+1≤h2.next:=this
  show h1.next≤h2.next
  omega
 ·exact(z5 (by omega)).trans (hP.old z hz hne)
 ·exact(z5 (by omega)).trans hP.obj
def okL(ws:List Int)(v:Int)(xs:List (Nat×Nat))(o:Bool):Bool:=xs.foldl (fun o x=>o&&decide (ws.getD x.2 0≤v)) o
def okC(kerf:Int)(t:Tab)(v:Int)(a b:Nat)(xs:List (Nat×Nat))(o:Bool):Bool:=xs.foldl (fun o x=>o&&decide (look t (oneB x a b)+look t (twoB kerf x a b)≤v)) o
theorem okL_snoc(ws:List Int)(v:Int)(xs:List (Nat×Nat))(x:Nat×Nat)(o:Bool):okL ws v (xs++[x]) o=(okL ws v xs o&&decide (ws.getD x.2 0≤v)):=by simp[okL]
theorem okC_snoc(kerf:Int)(t:Tab)(v:Int)(a b:Nat)(xs:List (Nat×Nat))(x:Nat×Nat)(o:Bool):okC kerf t v a b (xs++[x]) o=(okC kerf t v a b xs o&&decide (look t (oneB x a b)+look t (twoB kerf x a b)≤v)):=by simp[okC]
def bok(kerf:Int)(ws:List Int)(kl:List Kd)(t:Tab)(a b:Nat)(v:Int):Bool:=okC kerf (upd t (a,b) v) v a b (cutsL a b) (okL ws v (leavesL a b kl 0) (decide (0≤v∧v≤1000000000)))
set_option maxHeartbeats 16000000 in
theorem vboard_round(F:FnsV T)(hf77:T 77=some f77){H:Heap}(hr:Rdy H){lo N p7 p8 p9 p10 p12 mb bb l n c wc i j vc:Nat}{sa wa va:Option Addr}{fv o8 o9:Value}{kerf v0:Int}{ws:List Int}{kl:List Kd}{t:Tab}{rows:List (List Int)}{r0:List Int}(ha:i<999)(hb:j<999)(hn:n<1000)(hk:0≤kerf∧kerf≤100)
 (hsum:∀x∈cutsL (i+1) (j+1), -4611686018427387904≤look (upd t (i+1,j+1) v0) (oneB x (i+1) (j+1))+look (upd t (i+1,j+1) v0) (twoB kerf x (i+1) (j+1))∧look (upd t (i+1,j+1) v0) (oneB x (i+1) (j+1))+look (upd t (i+1,j+1) v0) (twoB kerf x (i+1) (j+1))≤4611686018427387904)(gl:H.get l=some (.loop [(7, .pointer (some ⟨p7,0,none⟩)),(8, .pointer (some ⟨p8,0,none⟩)),(9, .pointer (some ⟨p9,0,none⟩)),(10, .pointer (some ⟨p10,0,none⟩)),(12, .pointer (some ⟨p12,0,none⟩)),(43,fv)] [44] asgVa bodyVa 0 .normal))
 (g7:H.get p7=some (.cells [.slice va rows.length vc] true 1))(g8:H.get p8=some (.cells [o8] true 1))(g9:H.get p9=some (.cells [o9] true 1))(g10:H.get p10=some (.cells [.pointer (some ⟨bb,0,none⟩)] true 1))(g12:H.get p12=some (.cells [.map (some mb)] true 1))(gm:H.get mb=some (.map (ents t)))(gb:H.get bb=some (.cells [.slice sa n c, .int .i64 kerf, .slice wa n wc] true 1))(hks:SliceOf H 5 (.slice sa n c) n (kcs kl))(hws:SliceOf H 1 (.slice wa n wc) n (ints ws))
 (hv:ListsW H (.slice va rows.length vc) rows)(hri:rows[i]? =some r0)(hrj:r0[j]? =some v0)(hrl:rows.length<1000000∧r0.length<1000000)(h89:p8≠p9)(hlo:lo≤mb∧lo≤p8∧lo≤p9∧lo≤l)(hN:mb<N∧p8<N∧p9<N∧l<N):
 FW T (.yield l) [boardV (i+1,j+1)] H fun r H'=>(∀z∈H'.log,lo≤z∧z<N)∧
  (r= .ret (.bool true)∧((∀z,z<H.next→z≠mb→H'.get z=H.get z)∧H'.get mb=some (.map (ents (upd t (i+1,j+1) v0)))∧H.next≤H'.next∧bok kerf ws kl t (i+1) (j+1) v0=true)∨
   r= .ret (.bool false)∧l∈H'.log∧(H'.get l=some (.loop [(7, .pointer (some ⟨p7,0,none⟩)),(8, .pointer (some ⟨p8,0,none⟩)),(9, .pointer (some ⟨p9,0,none⟩)),(10, .pointer (some ⟨p10,0,none⟩)),(12, .pointer (some ⟨p12,0,none⟩)),(43,fv)] [44] asgVa bodyVa 2 .ret)∧H'.get p8=some (.cells [.bool false] true 1)∧H'.get p9=some (.cells [.int .i64 0] true 1)∧bok kerf ws kl t (i+1) (j+1) v0=false)):=by
 obtain⟨b1,o1,vs1,own1,t1,xa,xc,rfl,g1,kb1,f1,s1⟩:=hv.elem hri
 have hil:=(List.getElem?_eq_some_iff.1 hri).1
 have hjl:=(List.getElem?_eq_some_iff.1 hrj).1
 rcases(s1 (by intro q;rw[q]at hjl;simp at hjl)).inv with⟨_,_,h0,_⟩|⟨b2,o2,cap2,hv2,s2,hcap2⟩
 ·omega
 cases hv2
 have hzi:(ints r0)[j]? =some (.int .i64 v0):=by simp[ints,hrj]
 obtain⟨vs2,own2,t2,g3,f3⟩:=slice_elem1 s2 hzi
 have kb2:=s2.lt
 have n1:=ne_loop g1 gl
 have n2:=ne_loop g3 gl
 have n3:=ne_loop gb gl
 have n4:=ne_loop g7 gl
 have n5:=ne_loop g8 gl
 have n6:=ne_loop g9 gl
 have n7:=ne_loop g10 gl
 have n8:=ne_loop g12 gl
 have n9:=ne_map gm gl
 have m1:=ne_cm g8 gm
 have m2:=ne_cm g9 gm
 have m3:=ne_cm gb gm
 have m4:=ne_cm g10 gm
 have m5:=ne_cm g12 gm
 have k3:=WF.get_lt hr.wf gb
 have k4:=WF.get_lt hr.wf g7
 have k5:=WF.get_lt hr.wf g8
 have k6:=WF.get_lt hr.wf g9
 have k7:=WF.get_lt hr.wf g10
 have k8:=WF.get_lt hr.wf g12
 have k9:=WF.get_lt hr.wf gm
 have kl':=WF.get_lt hr.wf gl
 clear s2 hv hri hrj hzi
 have hsub:numOp .sub (.int .i64 ((i+1:Nat):Int)) (.int .i64 1)=some (.int .i64 ((i:Nat):Int)):=m_sub (by rw[wrapA_i64]<;>omega)
 have hsub2:numOp .sub (.int .i64 ((j+1:Nat):Int)) (.int .i64 1)=some (.int .i64 ((j:Nat):Int)):=m_sub (by rw[wrapA_i64]<;>omega)
 refine FW.yieldX F.p (R:=fun H'=>(∀z,z<H.next→z≠mb→H'.get z=H.get z)∧H'.get mb=some (.map (ents (upd t (i+1,j+1) v0)))∧H.next≤H'.next∧bok kerf ws kl t (i+1) (j+1) v0=true)
  (S:=fun H'=>H'.get l=some (.loop [(7, .pointer (some ⟨p7,0,none⟩)),(8, .pointer (some ⟨p8,0,none⟩)),(9, .pointer (some ⟨p9,0,none⟩)),(10, .pointer (some ⟨p10,0,none⟩)),(12, .pointer (some ⟨p12,0,none⟩)),(43,fv)] [44] asgVa bodyVa 2 .ret)∧H'.get p8=some (.cells [.bool false] true 1)∧H'.get p9=some (.cells [.int .i64 0] true 1)∧bok kerf ws kl t (i+1) (j+1) v0=false) gl rfl kl' ⟨hlo.2.2.2,hN.2.2.2⟩ ?_
 unfold asgVa boardV
 dsimp only
 refine wE_region ?_;refine wO_val a_new ?_;refine yS ?_;refine wO_nil ?_
 refine y1 ?_
 refine⟨rfl,by(simp(disch:=first|omega|(simp only[z1,z2];omega))only[z3,z4,z5,z6,z7,z1,z2, *];exact rfl),?_⟩
 unfold bodyVa
 refine wE_block ?_;refine wE_seq ?_;refine wE_draw ?_;refine qL ?_
 refine qN ?_
 refine qL ?_
 refine wD_quiet rfl rfl rfl (by exact rfl) (by exact rfl) (by exact rfl) (a_iaddrA (i:=0) (by exact rfl) (by exact rfl) (by omega)) ?_
 refine qL ?_
 refine wD_quiet rfl rfl rfl (by exact rfl) (by exact rfl) (by exact rfl) (a_num (by exact rfl) (by exact rfl) (by with_reducible assumption)) ?_;refine wD_quiet rfl rfl rfl (by exact rfl) (by exact rfl) (by exact rfl) (a_iaddrS (by exact rfl) (by exact rfl) (by omega)) ?_
 refine wD_quiet rfl rfl rfl (by exact rfl) (by exact rfl) (by exact rfl) (a_load (by exact rfl) (by(simp(disch:=first|omega|(simp only[z1,z2];omega))only[z3,z4,z5,z6,z7,z1,z2, *];exact rfl)) (by assumption)) ?_
 refine wD_quiet rfl rfl rfl (by exact rfl) (by exact rfl) (by exact rfl) (a_iaddrA (i:=1) (by exact rfl) (by exact rfl) (by omega)) ?_
 refine qL ?_
 refine wD_quiet rfl rfl rfl (by exact rfl) (by exact rfl) (by exact rfl) (a_num (by exact rfl) (by exact rfl) (by with_reducible assumption)) ?_;refine wD_quiet rfl rfl rfl (by exact rfl) (by exact rfl) (by exact rfl) (a_iaddrS (by exact rfl) (by exact rfl) (by omega)) ?_
 refine wD_quiet rfl rfl rfl (by exact rfl) (by exact rfl) (by exact rfl) (a_load (by exact rfl) (by(simp(disch:=first|omega|(simp only[z1,z2];omega))only[z3,z4,z5,z6,z7,z1,z2, *];exact rfl)) (by assumption)) ?_
 refine wD_mapUp (x:=(i+1,j+1)) (z:=v0) (r:=mb) (t:=t) rfl rfl rfl (by exact rfl) (by exact rfl) (by exact rfl) (by exact rfl) (by(simp(disch:=first|omega|(simp only[z1,z2];omega))only[z3,z4,z5,z6,z7,z1,z2, *];done)) (by(simp only[z1,z2];omega)) (by apply ra_dropC rfl;apply ra_dropC rfl;apply ra_dropC rfl;apply ra_dropC rfl;apply ra_dropC rfl;apply ra_dropC rfl;apply ra_dropC rfl;apply ra_dropC rfl;apply ra_dropC rfl;apply ra_dropC rfl;apply ra_dropC rfl;apply ra_dropC rfl;apply ra_dropC rfl;exact ra_nil) ?_
 refine wD_nil ?_;refine y1 ?_;refine kS_n ?_;refine y4 ?_
 refine yL ?_
 refine yN ?_
 refine WO.gen ?_
 intro hA hAe
 have A1:∀z,z<H.next→z≠l→z≠mb→hA.get z=H.get z:=fun z hz hne hne2=>by rw[hAe];simp(disch:=first|omega|(simp only[z1,z2];omega))only[z5,z4]
 have A2:hA.get l=some (.loop [(7, .pointer (some ⟨p7,0,none⟩)),(8, .pointer (some ⟨p8,0,none⟩)),(9, .pointer (some ⟨p9,0,none⟩)),(10, .pointer (some ⟨p10,0,none⟩)),(12, .pointer (some ⟨p12,0,none⟩)),(43,fv)] [44] asgVa bodyVa 1 .normal):=by rw[hAe];(simp(disch:=first|omega|(simp only[z1,z2];omega))only[z3,z4,z5,z6,z7,z1,z2, *];exact rfl)
 have A3:hA.get H.next=some (.cells [.int .i64 ((i+1:Nat):Int), .int .i64 ((j+1:Nat):Int)] true 1):=by rw[hAe];(simp(disch:=first|omega|(simp only[z1,z2];omega))only[z3,z4,z5,z6,z7,z1,z2, *];exact rfl)
 have A4:hA.get mb=some (.map (ents (upd t (i+1,j+1) v0))):=by rw[hAe];(simp(disch:=first|omega|(simp only[z1,z2];omega))only[z3,z4,z5,z6,z7,z1,z2, *];done)
 have A5:hA.next=H.next+1:=by rw[hAe];rfl
 have A6:hA.log=[mb]:=by rw[hAe];exact log_wr_q (by simp(disch:=first|omega|(simp only[z1,z2];omega))only[Heap.log_wr_new,Heap.log_push];exact hr.log) k9
 have A7:WF hA:=by rw[hAe];exact(((hr.wf.push _).as (AS.wr _ _ _ _)).as (AS.wr _ _ _ _)).as (AS.wr _ _ _ _)
 have A10:=(A1 p10 k7 n7 m4.symm.symm).trans g10
 have A12:=(A1 p12 k8 n8 m5).trans g12
 clear hAe g1 g3 f1 f3 s1 hsub hsub2
 refine wO_val (a_lookup (x:=(((i+1:Nat):Int),((j+1:Nat):Int))) (by exact rfl) (by exact rfl) A4) ?_
 have hlk:look (upd t (i+1,j+1) v0) (((i+1:Nat):Int),((j+1:Nat):Int))=v0:=by rw[look_upd];exact if_pos rfl
 rw[hlk]
 skip
 refine yC ?_
 refine FW.pu (in77E F.p hf77 (.of A7) (n:=v0) (a:=0) (b:=1000000000)) ?_
 refine wO_val a_new ?_;refine yS ?_
 refine y3 ?_;refine wE_seq ?_;refine y4 ?_
 refine yL ?_
 refine yN ?_
 refine WO.gen ?_
 intro hB hBe
 have B1:∀z,z<H.next+1→hB.get z=hA.get z:=fun z hz=>by rw[hBe];simp(disch:=first|omega|(simp only[z1,z2];omega))only[z5,z4]
 have B4:hB.get (H.next+1)=some (.cells [.bool (decide (0≤v0∧v0≤1000000000))] true 1):=by rw[hBe,←A5];(simp(disch:=first|omega|(simp only[z1,z2];omega)|(simp only[z1,z2];done)|fail)only[z8,z4,z5,z9,z7,z1,z2, *];exact rfl)
 have B5:hB.next=H.next+2:=by rw[hBe];show hA.next+1=_;omega
 have B6:hB.log=[mb]:=by rw[hBe];rw[Heap.log_wr_new (by omega)];exact A6
 have B7:WF hB:=by rw[hBe];exact(A7.push _).as (AS.wr _ _ _ _)
 have B2:=(B1 l (by omega)).trans A2
 have B3:=(B1 _ (Nat.lt_succ_self _)).trans A3
 have B10:=(B1 p10 (by omega)).trans A10
 have B12:=(B1 p12 (by omega)).trans A12
 have Bm:=(B1 mb (by omega)).trans A4
 have Bo:∀z,z<H.next→z≠l→z≠mb→hB.get z=H.get z:=fun z hz q1 q2=>(B1 z (by omega)).trans (A1 z hz q1 q2)
 have eA:H.next+1=hA.next:=A5.symm
 rw[A5]
 clear hBe A1 A2 A3 A4 A6 A7 A10 A12 B1
 generalize hok0:decide (0≤v0∧v0≤1000000000)=ok0 at*
 skip
 refine yC ?_
 refine FW.al (leaves104 F.p F.f104 (.of B7) bb ((i+1:Nat):Int) ((j+1:Nat):Int)) (fun _ _ _ q=>q) ?_
 rintro _ h1 hx1 ⟨rfl,hn1,gp,gx⟩
 have eB:({hB with log:=[]}:Heap).next=H.next+2:=B5
 rw[eB]at hn1 gp gx
 rw[eB]
 have C0:∀z,z<H.next+2→h1.get z=hB.get z:=fun z hz=>hx1.old z (by omega)
 have Co:∀z,z<H.next→z≠l→z≠mb→h1.get z=H.get z:=fun z hz q1 q2=>(C0 z (by omega)).trans (Bo z hz q1 q2)
 have C2:=(C0 l (by omega)).trans B2
 have C3:=(C0 _ (by omega)).trans B3
 have C4:=(C0 _ (by omega)).trans B4
 have Cm:=(C0 mb (by omega)).trans Bm
 have C10:=(C0 p10 (by omega)).trans B10
 have C12:=(C0 p12 (by omega)).trans B12
 have C6:h1.log=[mb]:=hx1.log.trans B6
 have C7:WF h1:=hx1.wf B7
 have hlen:kl.length=n:=by have:=hks.len;rw[kcs_length]at this;omega
 clear hx1 B2 B3 B4 B6 B7 B10 B12 Bm Bo C0
 refine y3 ?_;refine wE_block ?_
 refine inner_rangeL (q:=H.next+1) (all:=leavesL (i+1) (j+1) kl 0) (O:=fun d=> .cells [.bool (okL ws v0 d ok0)] true 1) (round_ok C2) (by rfl) (by rw[F.f140];rfl) (by omega) (by omega) C7 ?_ (by omega) ?_
 ·refine leaves140 F.p F.f140 (.of (C7.push _)) (pb:=H.next+2) (bb:=bb) (px:=H.next+3) (l':=h1.next) (N:=h1.next+1) (lo:=H.next+1) (a:=i+1) (b:=j+1) (n:=n) (c:=c) (sa:=sa) (l:=kl) (v1:= .int .i64 kerf) (v2:= .slice wa n wc) (Nat.le_refl _) (by show H.next+1≤h1.next+1;omega) hn
   (PW.yld F.p (by omega) fun done x H' hx hr' hlt hP=> ?_) ((z4 (by omega)).trans gp) ((z4 (by omega)).trans ((Co bb k3 n3 m3).trans gb)) (fun d H' hP=> ?_) (fun d H' hP=>(hP.old _ (by omega) (by omega)).trans gx) ⟨fun z hz _=>z4 hz,(z4 (by omega)).trans C4,z3 _ _,Nat.lt_succ_self _⟩
  ·refine FW.mono' (vleaf_round F.p hr' (x:=x) (n:=n) (a:=i+1) (b:=j+1) (t:=upd t (i+1,j+1) v0) (o:=okL ws v0 done ok0) (r:=okL ws v0 (done++[x]) ok0) (by rw[hlk];exact okL_snoc ..) (by have:=leaves_idx x hx;omega) hP.loop hP.obj ((hP.old p10 (by omega) (by omega)).trans C10) ((hP.old p12 (by omega) (by omega)).trans C12) ((hP.old H.next (by omega) (by omega)).trans C3) ((hP.old mb (by omega) (by omega)).trans Cm) ((hP.old bb (by omega) (by omega)).trans ((Co bb k3 n3 m3).trans gb)) (SliceOf.agree hws (by omega) fun b0 vs o t hb he=>(hP.old b0 (by omega) (by omega)).trans (Co b0 hb (ne_loop he gl) (ne_cm he gm)))) ?_
   rintro r H'' ⟨q1,q2,q3,q4⟩
   exact⟨q1,q2,q3,q4⟩
  ·have:=hP.nx
   exact SliceOf.agree hks (by omega) fun b0 vs o t hb he=>(hP.old b0 (by omega) (by omega)).trans (Co b0 hb (ne_loop he gl) (ne_cm he gm))
 intro h3 c1 c2 c3 c4 c5
 have Do:∀z,z<H.next→z≠l→z≠mb→h3.get z=H.get z:=fun z hz q1 q2=>(c4 z (by omega) (by omega)).trans (Co z hz q1 q2)
 have D2:=(c4 l (by omega) (by omega)).trans C2
 have D3:=(c4 _ (by omega) (by omega)).trans C3
 have D10:=(c4 p10 (by omega) (by omega)).trans C10
 have D12:=(c4 p12 (by omega) (by omega)).trans C12
 have Dm:=(c4 mb (by omega) (by omega)).trans Cm
 have D6:=c1.trans C6
 clear C2 C3 C4 C6 C7 C10 C12 Cm Co c4 gp gx
 refine kB_n ?_;refine kS_n ?_;refine wE_seq ?_;refine y4 ?_;refine yL ?_;refine yN ?_
 refine yC ?_
 refine FW.al (cuts105 F.p F.f105 (.of c2) _ ((i+1:Nat):Int) ((j+1:Nat):Int)) (fun _ _ _ q=>q) ?_
 rintro _ h4 hx4 ⟨rfl,hn4,gx4⟩
 have e3:({h3 with log:=[]}:Heap).next=h3.next:=rfl
 rw[e3]at hn4 gx4
 rw[e3]
 have Eo:∀z,z<H.next→z≠l→z≠mb→h4.get z=H.get z:=fun z hz q1 q2=>(hx4.old z (by omega)).trans (Do z hz q1 q2)
 have E2:=(hx4.old l (by omega)).trans D2
 have E3:=(hx4.old _ (by omega)).trans D3
 have E4:=(hx4.old _ (by omega)).trans c5
 have E10:=(hx4.old _ (by omega)).trans D10
 have E12:=(hx4.old _ (by omega)).trans D12
 have Em:=(hx4.old _ (by omega)).trans Dm
 have E6:h4.log=[mb]:=hx4.log.trans D6
 have E7:WF h4:=hx4.wf c2
 clear hx4 Do D2 D3 D6 D10 D12 Dm c1 c2 c5
 refine y3 ?_;refine wE_block ?_
 refine inner_rangeL (q:=H.next+1) (all:=cutsL (i+1) (j+1)) (O:=fun d=> .cells [.bool (okC kerf (upd t (i+1,j+1) v0) v0 (i+1) (j+1) d (okL ws v0 (leavesL (i+1) (j+1) kl 0) ok0))] true 1) (round_ok E2) (by rfl) (by rw[F.f141];rfl) (by omega) (by omega) E7 ?_ (by omega) ?_
 ·refine cuts141 F.p F.f141 (.of (E7.push _)) (bx:=h3.next) (l:=h4.next) (N:=h4.next+1) (lo:=H.next+1) (a:=i+1) (b:=j+1) (Nat.le_refl _) (by show H.next+1≤h4.next+1;omega) (by omega) (by omega)
   (PW.yld F.p (by omega) fun done x H' hx hr' hlt hP=> ?_) (fun d H' hP=>(hP.old _ (by omega) (by omega)).trans gx4) ⟨fun z hz _=>z4 hz,(z4 (by omega)).trans E4,z3 _ _,Nat.lt_succ_self _⟩
  have hxc:=cuts_of hx
  refine FW.mono' (vcut_round F.p F.f106 hr' (x:=x) (t:=upd t (i+1,j+1) v0) (o:=okC kerf (upd t (i+1,j+1) v0) v0 (i+1) (j+1) done (okL ws v0 (leavesL (i+1) (j+1) kl 0) ok0)) (r:=okC kerf (upd t (i+1,j+1) v0) v0 (i+1) (j+1) (done++[x]) (okL ws v0 (leavesL (i+1) (j+1) kl 0) ok0)) (by rw[hlk];exact okC_snoc ..) (by omega) (by omega) (by omega) (by omega) hk (hsum x hx) hP.loop hP.obj ((hP.old p10 (by omega) (by omega)).trans E10) ((hP.old p12 (by omega) (by omega)).trans E12) ((hP.old H.next (by omega) (by omega)).trans E3) ((hP.old mb (by omega) (by omega)).trans Em) ((hP.old bb (by omega) (by omega)).trans ((Eo bb k3 n3 m3).trans gb))) ?_
  rintro r H'' ⟨q1,q2,q3,q4⟩
  exact⟨q1,q2,q3,q4⟩
 intro h5 c1 c2 c3 c4 c5
 have Go:∀z,z<H.next→z≠l→z≠mb→h5.get z=H.get z:=fun z hz q1 q2=>(c4 z (by omega) (by omega)).trans (Eo z hz q1 q2)
 have G2:=(c4 l (by omega) (by omega)).trans E2
 have Gm:=(c4 mb (by omega) (by omega)).trans Em
 have G6:=c1.trans E6
 have G8:=(Go p8 k5 n5 m1).trans g8
 have G9:=(Go p9 k6 n6 m2).trans g9
 have c3':H.next≤h5.next:=by omega
 have hbk:okC kerf (upd t (i+1,j+1) v0) v0 (i+1) (j+1) (cutsL (i+1) (j+1)) (okL ws v0 (leavesL (i+1) (j+1) kl 0) ok0)=bok kerf ws kl t (i+1) (j+1) v0:=by unfold bok;rw[hok0]
 rw[hbk]at c5
 clear E2 E3 E4 E6 E7 E10 E12 Em Eo c4 gx4 hbk g7 g10 g12 gb hks hws hok0 hlk hsum
 generalize bok kerf ws kl t (i+1) (j+1) v0=ok at*
 cases ok with
 |true=>
  refine kB_n ?_;refine kS_n ?_;refine y4 ?_;refine yL ?_;refine yA ?_;refine y3 ?_;refine yX ?_;refine wE_skip ?_;refine kB_n ?_
  refine⟨⟨_,G2,rfl⟩,fun z hz=> ?_, .inl ⟨rfl,?_⟩⟩
  ·rw[G6,List.mem_singleton]at hz
   rw[hz];exact⟨hlo.1,hN.1⟩
  ·intro h6 hn6 hag hl6
   refine⟨fun z hz hne=> ?_,(hag mb k9 n9).trans Gm,hn6,rfl⟩
   by_cases hz2:z=l
   ·rw[hz2];exact hl6.trans gl.symm
   ·exact(hag z hz hz2).trans (Go z hz hz2 hne)
 |false=>
  refine kB_n ?_;refine kS_n ?_;refine y4 ?_;refine yL ?_;refine yA ?_;refine y3 ?_;refine yY ?_;refine y4 ?_
  refine yS ?_
  refine yS ?_;refine y3 ?_;refine wE_ret ?_;refine kB_r ?_
  refine⟨⟨_,by(simp(disch:=first|omega|(simp only[z1,z2];omega))only[z3,z4,z5,z6,z7,z1,z2, *];exact rfl),rfl⟩,fun z hz=> ?_, .inr ⟨rfl,?_⟩⟩
  ·rcases wr_log_old hz with rfl|hz
   ·exact⟨hlo.2.2.1,hN.2.2.1⟩
   ·rcases wr_log_old hz with rfl|hz
    ·exact⟨hlo.2.1,hN.2.1⟩
    ·rw[G6,List.mem_singleton]at hz
     rw[hz];exact⟨hlo.1,hN.1⟩
  ·intro h6 hn6 hag hl6
   exact⟨hl6,(hag p8 n5).trans (by(simp(disch:=first|omega|(simp only[z1,z2];omega))only[z3,z4,z5,z6,z7,z1,z2, *];exact rfl)),(hag p9 n6).trans (by(simp(disch:=first|omega|(simp only[z1,z2];omega))only[z3,z4,z5,z6,z7,z1,z2, *];exact rfl)),rfl⟩
end Go.A.Pk
end
section
namespace Go.A.Pk
def pos(t:Tab):Tab:=t.map fun e=>(e.1,if e.2<0 then 0 else e.2)
structure Bw (W:Int) (t:Tab):Prop where
 up:Bd W (pos t)
 low:∀e∈t,never≤e.2
end Go.A.Pk
end
section
set_option maxRecDepth 100000
namespace Go.A.Pk
variable {T:Nat→Option AFunc}
theorem pos_upd(x:Nat×Nat)(v:Int):∀t:Tab,pos (upd t x v)=upd (pos t) x (if v<0 then 0 else v)
 |[]=>rfl
 |e::t=>by
  have hk:isKey (x.1,x.2) (e.1,if e.2<0 then 0 else e.2)=isKey (x.1,x.2) e:=rfl
  simp only[upd,pos,List.map_cons,hk]
  split
  ·rfl
  ·simp only[List.map_cons]
   exact congrArg _ (pos_upd x v t)
theorem mem_upd{x:Nat×Nat}{v:Int}:∀{t:Tab} {e:(Nat×Nat)×Int},e∈upd t x v→e=(x,v)∨e∈t
 |[],e,h=>by simp only[upd,List.mem_singleton]at h;exact .inl h
 |e0::t,e,h=>by
  simp only[upd]at h
  split at h
  ·rcases List.mem_cons.1 h with h|h
   ·exact .inl h
   ·exact .inr (List.mem_cons_of_mem _ h)
  ·rcases List.mem_cons.1 h with h|h
   ·exact .inr (h▸List.mem_cons_self ..)
   ·exact(mem_upd h).imp id (List.mem_cons_of_mem _)
theorem Bw.upd{W:Int}{t:Tab}{x:Nat×Nat}{v:Int}(h:Bw W t)(hW:0≤W)(hx:1≤x.1∧1≤x.2)(hv:never≤v∧v≤W*((x.1:Int)*(x.2:Int))):Bw W (Pk.upd t x v)where
 up:=by
  rw[pos_upd]
  have h0:0≤W*((x.1:Int)*(x.2:Int)):=Int.mul_nonneg hW (Int.mul_nonneg (by omega) (by omega))
  exact upd_bd hx (by split<;>omega) h.up
 low:=fun e he=>by
  rcases mem_upd he with rfl|he
  ·exact hv.1
  ·exact h.low e he
end Go.A.Pk
end
section
namespace Go.A.Pk
def UF(kerf:Int)(ws:List Int)(kl:List Kd)(kind:Nat):Nat→Int×Int→Int
 |0,_=>never
 |n+1,p=>if 1≤p.1∧1≤p.2 then foldM (fun x=>mx (UF kerf ws kl kind n (oneB x p.1.toNat p.2.toNat)+V kerf ws kl (twoB kerf x p.1.toNat p.2.toNat)) (V kerf ws kl (oneB x p.1.toNat p.2.toNat)+UF kerf ws kl kind n (twoB kerf x p.1.toNat p.2.toNat))) (cutsL p.1.toNat p.2.toNat) (foldM (leafW ws kind) (leavesL p.1.toNat p.2.toNat kl 0) never)else never
variable {kerf:Int} {ws ws':List Int} {kl:List Kd} {kind:Nat}
def U(kerf:Int)(ws:List Int)(kl:List Kd)(kind:Nat)(p:Int×Int):Int:=UF kerf ws kl kind (sz p) p
structure More (kind:Nat) (d:Int) (ws ws':List Int):Prop where
 pos:0≤d
 here:ws'.getD kind 0=ws.getD kind 0+d
 other:∀i,i≠kind→ws'.getD i 0=ws.getD i 0
theorem More.set{d:Int}(h0:0≤d)(hk:kind<ws.length):More kind d ws (ws.set kind (ws.getD kind 0+d))where
 pos:=h0
 here:=by simp[List.getD,hk]
 other:=fun i hi=>by simp[List.getD,List.getElem?_set_ne (Ne.symm hi)]
end Go.A.Pk
end
section
set_option maxRecDepth 100000
namespace Go.A.Pk
variable {T:Nat→Option AFunc}
theorem ints_len(l:List Int):(ints l).length=l.length:=by simp[ints]
end Go.A.Pk
end
section
namespace Go.A.Pk
def wsOf(l:List Kd):List Int:=l.map (·.worth)
def wsM(l:List Kd)(kind:Nat)(more:Int):List Int:=(wsOf l).set kind ((wsOf l).getD kind 0+more)
def kw(kerf:Int)(l:List Kd)(kind:Nat)(p:Int×Int)(more:Int):Int:=U kerf (wsM l kind more) l kind p
def kb(kerf:Int)(l:List Kd)(kind:Nat)(p:Int×Int)(more:Int):Int:=V kerf (wsM l kind more) l p
end Go.A.Pk
end
section
set_option maxRecDepth 100000
namespace Go.A.Pk
variable {T:Nat→Option AFunc}
def IntsQ(er:Int)(xs:List Int)(v:Value)(h:Heap):Prop:=∃a c,v= .tuple #[.slice a xs.length c, .int .i64 er]∧SliceOf h 1 (.slice a xs.length c) xs.length (ints xs)
theorem IntsQ.log{er:Int}{xs:List Int}(v:Value)(h':Heap)(m:List Nat)(q:IntsQ er xs v h'):IntsQ er xs v {h' with log:=m}:=by
 obtain⟨a,c,h1,h2⟩:=q
 exact⟨a,c,h1,h2.log m⟩
theorem IntsQ.gc{er:Int}{xs:List Int}{h:Heap}(v:Value)(h1:Heap)(hv:noRef v=true)(q:IntsQ er xs v h1):IntsQ er xs v h:=by
 obtain⟨a,c,rfl,h2⟩:=q
 refine⟨a,c,rfl,?_⟩
 generalize xs.length=n at*
 generalize ints xs=cs at*
 cases h2 with
 |nil=>exact .nil
 |mem s _=>simp[noRef,flatL,flat,scalL,scal,scal1]at hv
theorem IntsQ.ret{er:Int}{xs:List Int}{s:Value}{h:Heap}(hs:SliceOf h 1 s xs.length (ints xs)):IntsQ er xs (.tuple #[s, .int .i64 er]) h:=by
 have hi:=hs.inv
 rcases hi with⟨c,rfl,h0,_⟩|⟨b,o,c,rfl,_,_⟩
 ·refine⟨none,c,?_,?_⟩
  ·rw[h0]
  ·rw[h0]at hs⊢;exact hs
 ·exact⟨_,_,rfl,hs⟩
end Go.A.Pk
end
section
set_option maxRecDepth 100000
namespace Go.A.Pk
variable {T:Nat→Option AFunc}
def grid(f:Nat→Nat→Int):List Int:=(List.range 289).map fun i=>f (i / 17) (i % 17)
def updF(f:Nat→Nat→Int)(a b:Nat)(z:Int)(x y:Nat):Int:=if x=a∧y=b then z else f x y
theorem grid_len(f:Nat→Nat→Int):(grid f).length=289:=by simp[grid]
theorem grid_congr{f g:Nat→Nat→Int}(h:∀x y,x<17→y<17→f x y=g x y):grid f=grid g:=by
 unfold grid
 apply List.map_congr_left
 intro i hi
 have:=List.mem_range.1 hi
 exact h _ _ (by omega) (by omega)
theorem grid_get{f:Nat→Nat→Int}{a b:Nat}(ha:a<17)(hb:b<17):lget (ints (grid f)) (0+a*17+b*1)=some (.int .i64 (f a b)):=by
 rw[lget_eq]
 have h:(ints (grid f))[a*17+b]? =some (.int .i64 (f a b)):=by
  unfold ints grid
  rw[List.getElem?_map,List.getElem?_map,List.getElem?_range (by omega)]
  have e1:(a*17+b) / 17=a:=by omega
  have e2:(a*17+b) % 17=b:=by omega
  simp only[z7,e1,e2]
 rw[show 0+a*17+b*1=a*17+b by omega]
 exact h
theorem grid_set{f:Nat→Nat→Int}{a b:Nat}(hb:b<17)(z:Int):(grid f).set (a*17+b) z=grid (updF f a b z):=by
 apply List.ext_getElem?
 intro i
 unfold grid
 rw[List.getElem?_set,List.getElem?_map,List.getElem?_map]
 by_cases hi:i<289
 ·rw[List.getElem?_range hi]
  unfold updF
  by_cases e:a*17+b=i
  ·rw[if_pos e,if_pos (by simp;omega)]
   simp only[z7]
   rw[if_pos (by omega)]
  ·rw[if_neg e]
   simp only[z7]
   rw[if_neg (by omega)]
 ·have hn:(List.range 289)[i]? =none:=List.getElem?_eq_none (by simp;omega)
  rw[hn]
  by_cases e:a*17+b=i
  ·rw[if_pos e,if_neg (by simp;omega)];rfl
  ·rw[if_neg e];rfl
theorem grid_put{f:Nat→Nat→Int}{a b:Nat}(hb:b<17)(z:Int):lputs (ints (grid f)) (0+a*17+b*1) (cellsOf (.int .i64 z))=ints (grid (updF f a b z)):=by
 rw[←grid_set hb]
 simp[cellsOf,lputs,lset_eq,ints,List.map_set]
theorem grid_st{f:Nat→Nat→Int}{a b:Nat}{z:Int}(ha:a<17)(hb:b<17):(Nat.beq (llen (cellsOf (.int .i64 z))) 1&&Nat.ble (0+a*17+b*1+1) (llen (ints (grid f)))&&ones (cellsOf (.int .i64 z)))=true:=by
 have h1:(ints (grid f)).length=289:=by rw[ints_len,grid_len]
 simp[cellsOf,ones,llen_eq,h1]
 omega
theorem grid_zero:lrep 289 (Value.int .i64 0)=ints (grid fun _ _=>0):=by
 have h:∀n,lrep n (Value.int .i64 0)=ints ((List.range n).map fun _=>(0:Int)):=by
  intro n
  induction n with
  |zero=>rfl
  |succ n ih=>
   rw[lrep,ih]
   simp[ints,List.range_succ_eq_map]
 exact h 289
theorem leaves_at{a b:Nat}:∀{l:List Kd} {i:Nat} {x:Nat×Nat},x∈leavesL a b l i→i≤x.2∧∃k,l[x.2-i]? =some k∧x∈leafAt k x.2 a b
 |[],_,_,h=>by cases h
 |k::l,i,x,h=>by
  simp only[leavesL,List.mem_append]at h
  rcases h with h|h
  ·have e:=leafAt_idx x h
   refine⟨by omega,k,by rw[e,Nat.sub_self];rfl,by rw[e];exact h⟩
  ·obtain⟨h1,k',h2,h3⟩:=leaves_at h
   refine⟨by omega,k',?_,h3⟩
   rw[show x.2-i=(x.2-(i+1))+1 by omega]
   exact h2
def plankB(k:Kd)(a b:Nat):Bool:=decide (k.w=a∧k.h=b∨k.turn=true∧k.h=a∧k.w=b)
set_option maxHeartbeats 4000000 in
theorem plank112(hp:primAS T)(hf:T 112=some f112){h:Heap}(hr:Rdy h)(k:Kd)(a b:Nat):Pu T 112 [.agg (kc k).toArray, .int .i64 a, .int .i64 b] h (.bool (plankB k a b)):=by
 refine .of hp hf hr rfl ?_
 obtain⟨id,kw,kh,wo,tu⟩:=k
 unfold plankB kc
 simp only
 by_cases c1:¬kw≠a
 ·by_cases c2:¬kh≠b
  ·rw[decide_eq_true (by omega)]
   refine y4 ?_;refine yB ?_;refine yM ?_;refine y3 ?_;refine y4 ?_;refine yF ?_
   refine yL ?_;refine yM ?_
   refine yt ?_;refine yM ?_;refine yO ?_;refine yF ?_;refine yO ?_
   refine yL ?_;refine yO ?_;refine yM ?_;refine yO ?_
   refine yt ?_;refine yT ?_;refine yM ?_;refine yP ?_;refine yP ?_;refine yP ?_;refine wO_off2 (by exact rfl) ?_;refine wO_off2 (by exact rfl) ?_
   refine wO_off2 (by exact rfl) ?_;refine wO_off2 (by exact rfl) ?_;refine yP ?_;refine yP ?_;refine wO_off2 (by exact rfl) ?_;refine wO_off2 (by exact rfl) ?_;refine wO_off2 (by exact rfl) ?_;refine wO_off2 (by exact rfl) ?_;refine yP ?_
   refine yT ?_;refine yM ?_;refine y3 ?_;refine wE_ret ?_
   exact endP_ret hr.log rfl rfl
  ·cases tu with
   |false=>
    rw[decide_eq_false (by simp;omega)]
    refine y4 ?_;refine yB ?_;refine yM ?_;refine y3 ?_;refine y4 ?_;refine yF ?_
    refine yL ?_;refine yM ?_
    refine yt ?_;refine yM ?_;refine yO ?_;refine yF ?_;refine yO ?_
    refine yL ?_;refine yO ?_;refine yM ?_;refine yO ?_
    refine yf ?_;refine yT ?_;refine yM ?_;refine yO ?_;refine yF ?_;refine yO ?_
    refine yL ?_;refine yO ?_;refine yM ?_
    refine yP ?_;refine yP ?_;refine yP ?_;refine yP ?_;refine yO ?_;refine yU ?_;refine yO ?_;refine yM ?_;refine yP ?_
    refine yP ?_;refine yP ?_;refine yP ?_;refine yO ?_;refine yU ?_;refine yU ?_;refine yM ?_;refine y3 ?_;refine wE_ret ?_
    exact endP_ret hr.log rfl rfl
   |true=>
    by_cases c3:¬kh≠a
    ·by_cases c4:¬kw≠b
     ·rw[decide_eq_true (by simp;omega)]
      refine y4 ?_;refine yB ?_;refine yM ?_;refine y3 ?_;refine y4 ?_;refine yF ?_
      refine yL ?_;refine yM ?_
      refine yt ?_;refine yM ?_;refine yO ?_;refine yF ?_;refine yO ?_
      refine yL ?_;refine yO ?_
      refine yM ?_;refine yO ?_;refine yt ?_;refine yT ?_;refine yM ?_;refine yP ?_;refine yP ?_;refine yP ?_
      refine wO_off2 (by exact rfl) ?_;refine wO_off2 (by exact rfl) ?_;refine wO_off2 (by exact rfl) ?_;refine wO_off2 (by exact rfl) ?_;refine yP ?_;refine yP ?_;refine wO_off2 (by exact rfl) ?_;refine wO_off2 (by exact rfl) ?_;refine wO_off2 (by exact rfl) ?_;refine wO_off2 (by exact rfl) ?_
      refine yP ?_;refine yT ?_;refine yM ?_;refine y3 ?_;refine wE_ret ?_
      exact endP_ret hr.log rfl rfl
     ·rw[decide_eq_false (by simp;omega)]
      refine y4 ?_;refine yB ?_;refine yM ?_;refine y3 ?_;refine y4 ?_;refine yF ?_
      refine yL ?_;refine yM ?_
      refine yt ?_;refine yM ?_;refine yO ?_;refine yF ?_;refine yO ?_
      refine yL ?_;refine yO ?_;refine yM ?_;refine yO ?_
      refine yf ?_;refine yT ?_;refine yM ?_;refine yO ?_;refine yF ?_;refine yO ?_
      refine yL ?_;refine yO ?_;refine yM ?_;refine yO ?_
      refine yF ?_;refine yO ?_;refine yL ?_;refine yO ?_
      refine yM ?_;refine yO ?_;refine yt ?_;refine yO ?_;refine yT ?_;refine yO ?_;refine yM ?_;refine yO ?_;refine yF ?_
      refine yO ?_;refine yL ?_;refine yO ?_;refine yM ?_
      refine yO ?_;refine yf ?_;refine yO ?_;refine yT ?_;refine yU ?_;refine yM ?_;refine y3 ?_;refine wE_ret ?_
      exact endP_ret hr.log rfl rfl
    ·rw[decide_eq_false (by simp;omega)]
     refine y4 ?_;refine yB ?_;refine yM ?_;refine y3 ?_;refine y4 ?_;refine yF ?_
     refine yL ?_;refine yM ?_
     refine yt ?_;refine yM ?_;refine yO ?_;refine yF ?_;refine yO ?_
     refine yL ?_;refine yO ?_;refine yM ?_;refine yO ?_
     refine yf ?_;refine yT ?_;refine yM ?_;refine yO ?_;refine yF ?_;refine yO ?_
     refine yL ?_;refine yO ?_;refine yM ?_;refine yO ?_
     refine yF ?_;refine yO ?_;refine yL ?_;refine yO ?_
     refine yM ?_;refine yO ?_;refine yf ?_;refine yO ?_;refine yT ?_;refine yO ?_;refine yM ?_;refine yP ?_
     refine yP ?_;refine yP ?_;refine yP ?_;refine yO ?_;refine yU ?_;refine yU ?_;refine yM ?_;refine y3 ?_;refine wE_ret ?_
     exact endP_ret hr.log rfl rfl
 ·cases tu with
  |false=>
   rw[decide_eq_false (by simp;omega)]
   refine y4 ?_;refine yB ?_;refine yM ?_;refine y3 ?_;refine y4 ?_;refine yF ?_
   refine yL ?_;refine yM ?_
   refine yf ?_;refine yM ?_;refine yP ?_;refine yP ?_;refine yP ?_;refine yP ?_;refine yU ?_
   refine yM ?_;refine yO ?_;refine yF ?_;refine yO ?_
   refine yL ?_;refine yO ?_;refine yM ?_
   refine yP ?_;refine yP ?_;refine yP ?_;refine yP ?_;refine yO ?_;refine yU ?_;refine yO ?_;refine yM ?_;refine yP ?_
   refine yP ?_;refine yP ?_;refine yP ?_;refine yO ?_;refine yU ?_;refine yU ?_;refine yM ?_;refine y3 ?_;refine wE_ret ?_
   exact endP_ret hr.log rfl rfl
  |true=>
   by_cases c3:¬kh≠a
   ·by_cases c4:¬kw≠b
    ·rw[decide_eq_true (by simp;omega)]
     refine y4 ?_;refine yB ?_;refine yM ?_;refine y3 ?_;refine y4 ?_;refine yF ?_
     refine yL ?_;refine yM ?_
     refine yf ?_;refine yM ?_;refine yP ?_;refine yP ?_;refine yP ?_;refine yP ?_;refine yU ?_
     refine yM ?_;refine yO ?_;refine yF ?_;refine yO ?_
     refine yL ?_;refine yO ?_;refine yM ?_;refine yO ?_
     refine yF ?_;refine yO ?_;refine yL ?_;refine yO ?_
     refine yM ?_;refine yO ?_;refine yt ?_;refine yO ?_;refine yT ?_;refine yO ?_;refine yM ?_;refine yO ?_;refine yF ?_
     refine yO ?_;refine yL ?_;refine yO ?_;refine yM ?_
     refine yO ?_;refine yt ?_;refine yO ?_;refine yT ?_;refine yU ?_;refine yM ?_;refine y3 ?_;refine wE_ret ?_
     exact endP_ret hr.log rfl rfl
    ·rw[decide_eq_false (by simp;omega)]
     refine y4 ?_;refine yB ?_;refine yM ?_;refine y3 ?_;refine y4 ?_;refine yF ?_
     refine yL ?_;refine yM ?_
     refine yf ?_;refine yM ?_;refine yP ?_;refine yP ?_;refine yP ?_;refine yP ?_;refine yU ?_
     refine yM ?_;refine yO ?_;refine yF ?_;refine yO ?_
     refine yL ?_;refine yO ?_;refine yM ?_;refine yO ?_
     refine yF ?_;refine yO ?_;refine yL ?_;refine yO ?_
     refine yM ?_;refine yO ?_;refine yt ?_;refine yO ?_;refine yT ?_;refine yO ?_;refine yM ?_;refine yO ?_;refine yF ?_
     refine yO ?_;refine yL ?_;refine yO ?_;refine yM ?_
     refine yO ?_;refine yf ?_;refine yO ?_;refine yT ?_;refine yU ?_;refine yM ?_;refine y3 ?_;refine wE_ret ?_
     exact endP_ret hr.log rfl rfl
   ·rw[decide_eq_false (by simp;omega)]
    refine y4 ?_;refine yB ?_;refine yM ?_;refine y3 ?_;refine y4 ?_;refine yF ?_
    refine yL ?_;refine yM ?_
    refine yf ?_;refine yM ?_;refine yP ?_;refine yP ?_;refine yP ?_;refine yP ?_;refine yU ?_
    refine yM ?_;refine yO ?_;refine yF ?_;refine yO ?_
    refine yL ?_;refine yO ?_;refine yM ?_;refine yO ?_
    refine yF ?_;refine yO ?_;refine yL ?_;refine yO ?_
    refine yM ?_;refine yO ?_;refine yf ?_;refine yO ?_;refine yT ?_;refine yO ?_;refine yM ?_;refine yP ?_
    refine yP ?_;refine yP ?_;refine yP ?_;refine yO ?_;refine yU ?_;refine yU ?_;refine yM ?_;refine y3 ?_;refine wE_ret ?_
    exact endP_ret hr.log rfl rfl
end Go.A.Pk
end
section
set_option maxRecDepth 100000
namespace Go.A.Pk
variable {T:Nat→Option AFunc}
structure Vt (q:Nat) (hA h':Heap) (f:Nat→Nat→Int):Prop where
 old:∀z,z<q→h'.get z=hA.get z
 obj:h'.get q=some (.cells (ints (grid f)) true 1)
 log:h'.log=[]
 wf:WF h'
 nx:q<h'.next
theorem Vt.wr{q:Nat}{hA h':Heap}{f:Nat→Nat→Int}(v:Vt q hA h' f){base a b:Nat}(z:Int)(hb:base≤q):Vt q hA (h'.wr base q (.cells (ints (grid (updF f a b z))) true 1)) (updF f a b z):=
 ⟨fun y hy=>(z5 (by omega)).trans (v.old y hy),Heap.get_wr_new v.obj,(Heap.log_wr_new hb).trans v.log,v.wf.as (AS.wr _ _ _ _),v.nx⟩
theorem Vt.congr{q:Nat}{hA h':Heap}{f g:Nat→Nat→Int}(v:Vt q hA h' f)(h:∀x y,x<17→y<17→f x y=g x y):Vt q hA h' g:=
 ⟨v.old,by rw[←grid_congr h];exact v.obj,v.log,v.wf,v.nx⟩
theorem updF_self(f:Nat→Nat→Int)(a b:Nat)(z:Int):updF f a b z a b=z:=by unfold updF;rw[if_pos ⟨rfl,rfl⟩]
end Go.A.Pk
end
