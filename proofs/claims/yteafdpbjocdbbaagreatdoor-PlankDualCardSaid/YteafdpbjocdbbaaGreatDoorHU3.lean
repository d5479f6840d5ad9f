/- Walks of functions, plain laws, the table. -/
import Derived.Test.YteafdpbjocdbbaaGreatDoorHU2
import Derived.Test.YteafdpbjocdbbaaGreatDoorHD
import Derived.Test.YteafdpbjocdbbaaGreatDoorHU1
import Derived.Test.YteafdpbjocdbbaaGreatDoorHU0
import Derived.Test.YteafdpbjocdbbaaGreatDoorHF
set_option linter.all false
section
set_option maxRecDepth 100000
namespace Go.A.Pk
variable {T:Nat→Option ah}
def ql:aJ:=(.region [g 13 (.new [(.int .i64 0),(.int .i64 0)]),⟨none, .store 2 (t 13) (t 44),none⟩] [7,8,9,10,12,13])
def mh:aJ:=(.block 1 (.seq (.draw [g 45 (.load none (t 12)),g 46 (.load (some 2) (t 13)),g 47 (.load none (t 7)),g 48 (.cQ 2 1 (t 13) (.const (.int .i64 0))),g 49 (.load none (t 48)),g 50 (.bin (.num .sub) (t 49) (.const (.int .i64 1))),g 51 (.bp 1 (t 47) (t 50)),g 52 (.load none (t 51)),g 53 (.cQ 2 1 (t 13) (.const (.int .i64 1))),g 54 (.load none (t 53)),g 55 (.bin (.num .sub) (t 54) (.const (.int .i64 1))),g 56 (.bp 1 (t 52) (t 55)),g 57 (.load none (t 56)),⟨none, .iJ true [.i .i64, .i .i64] (t 45) (t 46) (t 57),none⟩] [0,1,2,3,4,5,6,7,8,9,10,11,12,13] [0,0,0,0,8,24,60,124,0,256,768,2044,4092,8191] [8,9,10,12,13])
 (.seq (.region [g 58 (.load none (t 12)),g 59 (.load (some 2) (t 13)),g 60 (.lookup true [.i .i64, .i .i64] (.int .i64 0) false (t 58) (t 59)),g 61 (.call (.func 77) [(t 60),(.const (.int .i64 0)),(.const (.int .i64 1000000000))]),g 14 (.new [(.bool false)]),⟨none, .store 1 (t 14) (t 61),none⟩] [8,9,10,12,13,14])
 (.seq (.seq (.region [g 62 (.load none (t 10)),g 63 (.load (some 2) (t 13)),g 64 (.call (.func 104) [(t 62),(t 63)])] [8,9,10,12,13,14,64])
 (.block 2 (.rangeFunc (t 64) [65] (.region [g 15 (.new [(.int .u8 0),(.int .i64 0)]),⟨none, .store 2 (t 15) (t 65),none⟩] [10,12,13,14,15]) (.block 3 (.draw [g 66 (.load none (t 14)),g 67 (.mov (t 66)),⟨some 68, .load none (t 12),(some (67,true))⟩,⟨some 69, .load (some 2) (t 13),(some (67,true))⟩,⟨some 70, .lookup true [.i .i64, .i .i64] (.int .i64 0) false (t 68) (t 69),(some (67,true))⟩,⟨some 71, .load none (t 10),(some (67,true))⟩,⟨some 72, .cz (t 71),(some (67,true))⟩,⟨some 73, .cH 2 (t 72),(some (67,true))⟩,⟨some 74, .load none (t 73),(some (67,true))⟩,⟨some 75, .cH 1 (t 15),(some (67,true))⟩,⟨some 76, .load none (t 75),(some (67,true))⟩,⟨some 77, .bp 1 (t 74) (t 76),(some (67,true))⟩,⟨some 78, .load none (t 77),(some (67,true))⟩,⟨some 79, .bin (.num .geq) (t 70) (t 78),(some (67,true))⟩,g 80 (.pick (t 67) (t 79) (.const (.bool false))),⟨none, .store 1 (t 14) (t 80),none⟩] [0,1,2,3,4,5,6,7,8,9,10,11,12,13,14,15] [0,1,3,3,15,3,35,99,227,3,515,2019,4067,8191,16383,32767] [])))))
 (.seq (.seq (.region [g 81 (.load none (t 10)),g 82 (.load (some 2) (t 13)),g 83 (.call (.func 105) [(t 81),(t 82)])] [8,9,10,12,13,14,83])
 (.block 4 (.rangeFunc (t 83) [84] (.region [g 16 (.new [(.int .u8 0),(.int .i64 0)]),⟨none, .store 2 (t 16) (t 84),none⟩] [10,12,13,14,16]) (.block 5 (.seq (.region [g 86 (.load none (t 10)),g 87 (.load (some 2) (t 13)),g 88 (.load (some 2) (t 16)),g 89 (.call (.func 106) [(t 86),(t 87),(t 88)]),g 85 (.mov (t 89)),g 90 (.extract (t 85) 0),g 91 (.extract (t 85) 1),g 17 (.new [(.int .i64 0),(.int .i64 0)]),g 18 (.new [(.int .i64 0),(.int .i64 0)]),⟨none, .store 2 (t 17) (t 90),none⟩,⟨none, .store 2 (t 18) (t 91),none⟩] [12,13,14,17,18])
 (.draw [g 92 (.load none (t 14)),g 93 (.mov (t 92)),⟨some 94, .load none (t 12),(some (93,true))⟩,⟨some 95, .load (some 2) (t 13),(some (93,true))⟩,⟨some 96, .lookup true [.i .i64, .i .i64] (.int .i64 0) false (t 94) (t 95),(some (93,true))⟩,⟨some 97, .load none (t 12),(some (93,true))⟩,⟨some 98, .load (some 2) (t 17),(some (93,true))⟩,⟨some 99, .lookup true [.i .i64, .i .i64] (.int .i64 0) false (t 97) (t 98),(some (93,true))⟩,⟨some 100, .load none (t 12),(some (93,true))⟩,⟨some 101, .load (some 2) (t 18),(some (93,true))⟩,⟨some 102, .lookup true [.i .i64, .i .i64] (.int .i64 0) false (t 100) (t 101),(some (93,true))⟩,⟨some 103, .bin (.num .add) (t 99) (t 102),(some (93,true))⟩,⟨some 104, .bin (.num .geq) (t 96) (t 103),(some (93,true))⟩,g 105 (.pick (t 93) (t 104) (.const (.bool false))),⟨none, .store 1 (t 14) (t 105),none⟩] [0,1,2,3,4,5,6,7,8,9,10,11,12,13,14] [0,1,3,3,15,3,3,99,3,3,771,2019,4095,8191,16383] []))))))
 (.seq (.region [g 106 (.load none (t 14)),g 107 (.un .not (t 106))] [8,9,107])
 (.cond (t 107) (.seq (.region [⟨none, .store 1 (t 8) (.const (.bool false)),none⟩,⟨none, .store 1 (t 9) (.const (.int .i64 0)),none⟩] [])
 .ret) .skip)))))))
def II:aJ:=(.region [g 15 (.new [(.int .u8 0),(.int .i64 0)]),⟨none, .store 2 (t 15) (t 65),none⟩] [10,12,13,14,15])
def CN:aJ:=(.block 3 (.draw [g 66 (.load none (t 14)),g 67 (.mov (t 66)),⟨some 68, .load none (t 12),(some (67,true))⟩,⟨some 69, .load (some 2) (t 13),(some (67,true))⟩,⟨some 70, .lookup true [.i .i64, .i .i64] (.int .i64 0) false (t 68) (t 69),(some (67,true))⟩,⟨some 71, .load none (t 10),(some (67,true))⟩,⟨some 72, .cz (t 71),(some (67,true))⟩,⟨some 73, .cH 2 (t 72),(some (67,true))⟩,⟨some 74, .load none (t 73),(some (67,true))⟩,⟨some 75, .cH 1 (t 15),(some (67,true))⟩,⟨some 76, .load none (t 75),(some (67,true))⟩,⟨some 77, .bp 1 (t 74) (t 76),(some (67,true))⟩,⟨some 78, .load none (t 77),(some (67,true))⟩,⟨some 79, .bin (.num .geq) (t 70) (t 78),(some (67,true))⟩,g 80 (.pick (t 67) (t 79) (.const (.bool false))),⟨none, .store 1 (t 14) (t 80),none⟩] [0,1,2,3,4,5,6,7,8,9,10,11,12,13,14,15] [0,1,3,3,15,3,35,99,227,3,515,2019,4067,8191,16383,32767] []))
def zV:aJ:=(.region [g 16 (.new [(.int .u8 0),(.int .i64 0)]),⟨none, .store 2 (t 16) (t 84),none⟩] [10,12,13,14,16])
def vF:aJ:=(.block 5 (.seq (.region [g 86 (.load none (t 10)),g 87 (.load (some 2) (t 13)),g 88 (.load (some 2) (t 16)),g 89 (.call (.func 106) [(t 86),(t 87),(t 88)]),g 85 (.mov (t 89)),g 90 (.extract (t 85) 0),g 91 (.extract (t 85) 1),g 17 (.new [(.int .i64 0),(.int .i64 0)]),g 18 (.new [(.int .i64 0),(.int .i64 0)]),⟨none, .store 2 (t 17) (t 90),none⟩,⟨none, .store 2 (t 18) (t 91),none⟩] [12,13,14,17,18])
 (.draw [g 92 (.load none (t 14)),g 93 (.mov (t 92)),⟨some 94, .load none (t 12),(some (93,true))⟩,⟨some 95, .load (some 2) (t 13),(some (93,true))⟩,⟨some 96, .lookup true [.i .i64, .i .i64] (.int .i64 0) false (t 94) (t 95),(some (93,true))⟩,⟨some 97, .load none (t 12),(some (93,true))⟩,⟨some 98, .load (some 2) (t 17),(some (93,true))⟩,⟨some 99, .lookup true [.i .i64, .i .i64] (.int .i64 0) false (t 97) (t 98),(some (93,true))⟩,⟨some 100, .load none (t 12),(some (93,true))⟩,⟨some 101, .load (some 2) (t 18),(some (93,true))⟩,⟨some 102, .lookup true [.i .i64, .i .i64] (.int .i64 0) false (t 100) (t 101),(some (93,true))⟩,⟨some 103, .bin (.num .add) (t 99) (t 102),(some (93,true))⟩,⟨some 104, .bin (.num .geq) (t 96) (t 103),(some (93,true))⟩,g 105 (.pick (t 93) (t 104) (.const (.bool false))),⟨none, .store 1 (t 14) (t 105),none⟩] [0,1,2,3,4,5,6,7,8,9,10,11,12,13,14] [0,1,3,3,15,3,3,99,3,3,771,2019,4095,8191,16383] [])))
set_option maxHeartbeats 8000000 in
theorem wO(hp:bC T){H:Heap}(hr:Rdy H){q p10 p12 p13 bb mb l2 n wc a b:Nat}{v8 v9 fv s1 s2:Value}{wa:Option Addr}{own:Bool}{ws:List Int}{t:Tab}{x:Nat×Nat}{o r:Bool}(ho:r=(o&&decide (ws.getD x.2 0≤look t (a,b))))(hx:x.2<n)(gl:H.get l2=some (.loop [(8,v8),(9,v9),(10, .pointer (some ⟨p10,0,none⟩)),(12, .pointer (some ⟨p12,0,none⟩)),(13, .pointer (some ⟨p13,0,none⟩)),(14, .pointer (some ⟨q,0,none⟩)),(64,fv)] [65] II CN 0 .normal))
 (gq:H.get q=some (.cells [.bool o] true 1))(g10:H.get p10=some (.cells [.pointer (some ⟨bb,0,none⟩)] true 1))(g12:H.get p12=some (.cells [.map (some mb)] true 1))(g13:H.get p13=some (.cells [.int .i64 a, .int .i64 b] true 1))(gm:H.get mb=some (.map (dI t)))(gb:H.get bb=some (.cells [s1,s2, .slice wa n wc] own 1))(hws:aA H 1 (.slice wa n wc) n (ints ws)):
 FW T (.yield l2) [eI x] H fun r' H'=>r'= .ret (.bool true)∧(∀z∈H'.log,q≤z∧z<q+1)∧(∀z,z<H.next→z≠q→H'.get z=H.get z)∧H'.get q=some (.cells [.bool r] true 1):=by
 have hlen:ws.length=n:=by have:=hws.len;simp[ints]at this;omega
 rcases hws.inv with⟨_,_,h0,_⟩|⟨b0,o0,cap,hv,s,hcap⟩
 ·omega
 cases hv
 obtain⟨vs,own',t0,g5,g6⟩:=ff s (sU (l:=ws) (i:=x.2) (by omega))
 clear s
 have n1:=bF gq gl
 have n2:=bF g10 gl
 have n3:=bF g12 gl
 have n4:=bF g13 gl
 have n5:=bF gb gl
 have n6:=bF g5 gl
 have n7:=mW gm gl
 have k1:=WF.aT hr.wf gq
 have k2:=WF.aT hr.wf g10
 have k3:=WF.aT hr.wf g12
 have k4:=WF.aT hr.wf g13
 have k5:=WF.aT hr.wf gb
 have k6:=WF.aT hr.wf g5
 have k7:=WF.aT hr.wf gm
 have k8:=WF.aT hr.wf gl
 refine FW.rP hp (R:=fun H'=>(∀z,z<H.next→z≠q→H'.get z=H.get z)∧H'.get q=some (.cells [.bool r] true 1)) gl rfl k8 ?_
 unfold II eI
 refine aD ?_;refine af cN ?_;refine yS ?_;refine fo ?_
 refine y1 ?_
 refine⟨rfl,by(simp(disch:=first|omega|(simp only[z1,z2];omega))only[z3,z4,z5,z6,z7,z1,z2, *];exact rfl),?_⟩
 unfold CN
 cases o with
 |false=>
  obtain rfl:r=false:=ho
  refine aC ?_;refine cG ?_;refine qL ?_
  refine qM ?_;refine aG rfl rfl rfl (by exact rfl) ?_;refine aG rfl rfl rfl (by exact rfl) ?_;refine aG rfl rfl rfl (by exact rfl) ?_;refine aG rfl rfl rfl (by exact rfl) ?_;refine aG rfl rfl rfl (by exact rfl) ?_;refine aG rfl rfl rfl (by exact rfl) ?_
  refine aG rfl rfl rfl (by exact rfl) ?_;refine aG rfl rfl rfl (by exact rfl) ?_;refine aG rfl rfl rfl (by exact rfl) ?_;refine aG rfl rfl rfl (by exact rfl) ?_;refine aG rfl rfl rfl (by exact rfl) ?_;refine aG rfl rfl rfl (by exact rfl) ?_;refine ak rfl rfl rfl (by exact rfl) (by exact rfl) (by exact rfl) (lP (by exact rfl) (by exact rfl)) ?_
  refine eX (ws:=[.bool false]) rfl rfl rfl (by exact rfl) (by exact rfl) (by exact rfl) (by(simp(disch:=first|omega|(simp only[z1,z2];omega))only[z3,z4,z5,z6,z7,z1,z2, *];exact rfl)) (by exact rfl) (by exact rfl) (by(simp only[z1,z2];omega)) (by apply aa rfl;apply aa rfl;apply aa rfl;apply aa rfl;apply aa rfl;apply aa rfl;apply aa rfl;apply aa rfl;apply aa rfl;apply aa rfl;apply aa rfl;apply aa rfl;apply aa rfl;apply aa rfl;apply aa rfl;exact bT) ?_
  refine cF ?_;refine y1 ?_;refine cZ ?_
  refine⟨rfl,⟨_,by(simp(disch:=first|omega|(simp only[z1,z2];omega))only[z3,z4,z5,z6,z7,z1,z2, *];exact rfl),rfl⟩,?_,?_⟩
  ·intro z hz
   rw[gX (by simp(disch:=first|omega|(simp only[z1,z2];omega))only[Heap.aI,Heap.cM];exact hr.log) k1]at hz
   simp at hz;omega
  ·intro h5 hn hag hl5
   refine⟨fun z hz hne=> ?_,(hag q k1 n1).trans (by(simp(disch:=first|omega|(simp only[z1,z2];omega))only[z3,z4,z5,z6,z7,z1,z2, *];done))⟩
   by_cases hz2:z=l2
   ·rw[hz2];exact hl5.trans gl.symm
   ·exact(hag z hz hz2).trans (by simp(disch:=first|omega|(simp only[z1,z2];omega))only[z5,z4])
 |true=>
  by_cases hc:ws.getD x.2 0≤look t (a,b)
  ·obtain rfl:r=true:=by rw[ho,decide_eq_true hc];rfl
   clear ho
   generalize hA:look t ((a:Int),(b:Int))=A at*
   generalize ws.getD x.2 0=B at*
   refine aC ?_;refine cG ?_;refine qL ?_
   refine qM ?_
   refine qL ?_
   refine qN ?_
   refine ak rfl rfl rfl (by exact rfl) (by exact rfl) (by exact rfl) (dH (x:=((a:Int),(b:Int))) (by exact rfl) (by exact rfl) (by(simp(disch:=first|omega|(simp only[z1,z2];omega))only[z3,z4,z5,z6,z7,z1,z2, *];exact rfl))) ?_
   rw[hA]
   refine qL ?_
   refine ak rfl rfl rfl (by exact rfl) (by exact rfl) (by exact rfl) (cC (by exact rfl)) ?_;refine qF ?_
   refine qL ?_
   refine qF ?_
   refine qL ?_
   refine ak rfl rfl rfl (by exact rfl) (by exact rfl) (by exact rfl) (aN (by exact rfl) (by exact rfl) (by omega)) ?_
   refine ak rfl rfl rfl (by exact rfl) (by exact rfl) (by exact rfl) (bt (by exact rfl) (by(simp(disch:=first|omega|(simp only[z1,z2];omega))only[z3,z4,z5,z6,z7,z1,z2, *];exact rfl)) (by assumption)) ?_
   refine ak rfl rfl rfl (by exact rfl) (by exact rfl) (by exact rfl) (cE (by exact rfl) (by exact rfl) (by exact yR (by omega))) ?_;refine ak rfl rfl rfl (by exact rfl) (by exact rfl) (by exact rfl) (jI (by exact rfl) (by exact rfl)) ?_
   refine eX (ws:=[.bool true]) rfl rfl rfl (by exact rfl) (by exact rfl) (by exact rfl) (by(simp(disch:=first|omega|(simp only[z1,z2];omega))only[z3,z4,z5,z6,z7,z1,z2, *];exact rfl)) (by exact rfl) (by exact rfl) (by(simp only[z1,z2];omega)) (by apply aa rfl;apply aa rfl;apply aa rfl;apply aa rfl;apply aa rfl;apply aa rfl;apply aa rfl;apply aa rfl;apply aa rfl;apply aa rfl;apply aa rfl;apply aa rfl;apply aa rfl;apply aa rfl;apply aa rfl;exact bT) ?_
   refine cF ?_;refine y1 ?_;refine cZ ?_
   refine⟨rfl,⟨_,by(simp(disch:=first|omega|(simp only[z1,z2];omega))only[z3,z4,z5,z6,z7,z1,z2, *];exact rfl),rfl⟩,?_,?_⟩
   ·intro z hz
    rw[gX (by simp(disch:=first|omega|(simp only[z1,z2];omega))only[Heap.aI,Heap.cM];exact hr.log) k1]at hz
    simp at hz;omega
   ·intro h5 hn hag hl5
    refine⟨fun z hz hne=> ?_,(hag q k1 n1).trans (by(simp(disch:=first|omega|(simp only[z1,z2];omega))only[z3,z4,z5,z6,z7,z1,z2, *];done))⟩
    by_cases hz2:z=l2
    ·rw[hz2];exact hl5.trans gl.symm
    ·exact(hag z hz hz2).trans (by simp(disch:=first|omega|(simp only[z1,z2];omega))only[z5,z4])
  ·obtain rfl:r=false:=by rw[ho,decide_eq_false hc];rfl
   clear ho
   generalize hA:look t ((a:Int),(b:Int))=A at*
   generalize ws.getD x.2 0=B at*
   refine aC ?_;refine cG ?_;refine qL ?_
   refine qM ?_
   refine qL ?_
   refine qN ?_
   refine ak rfl rfl rfl (by exact rfl) (by exact rfl) (by exact rfl) (dH (x:=((a:Int),(b:Int))) (by exact rfl) (by exact rfl) (by(simp(disch:=first|omega|(simp only[z1,z2];omega))only[z3,z4,z5,z6,z7,z1,z2, *];exact rfl))) ?_
   rw[hA]
   refine qL ?_
   refine ak rfl rfl rfl (by exact rfl) (by exact rfl) (by exact rfl) (cC (by exact rfl)) ?_;refine qF ?_
   refine qL ?_
   refine qF ?_
   refine qL ?_
   refine ak rfl rfl rfl (by exact rfl) (by exact rfl) (by exact rfl) (aN (by exact rfl) (by exact rfl) (by omega)) ?_
   refine ak rfl rfl rfl (by exact rfl) (by exact rfl) (by exact rfl) (bt (by exact rfl) (by(simp(disch:=first|omega|(simp only[z1,z2];omega))only[z3,z4,z5,z6,z7,z1,z2, *];exact rfl)) (by assumption)) ?_
   refine ak rfl rfl rfl (by exact rfl) (by exact rfl) (by exact rfl) (cE (by exact rfl) (by exact rfl) (by exact zg (by omega))) ?_;refine ak rfl rfl rfl (by exact rfl) (by exact rfl) (by exact rfl) (jI (by exact rfl) (by exact rfl)) ?_
   refine eX (ws:=[.bool false]) rfl rfl rfl (by exact rfl) (by exact rfl) (by exact rfl) (by(simp(disch:=first|omega|(simp only[z1,z2];omega))only[z3,z4,z5,z6,z7,z1,z2, *];exact rfl)) (by exact rfl) (by exact rfl) (by(simp only[z1,z2];omega)) (by apply aa rfl;apply aa rfl;apply aa rfl;apply aa rfl;apply aa rfl;apply aa rfl;apply aa rfl;apply aa rfl;apply aa rfl;apply aa rfl;apply aa rfl;apply aa rfl;apply aa rfl;apply aa rfl;apply aa rfl;exact bT) ?_
   refine cF ?_;refine y1 ?_;refine cZ ?_
   refine⟨rfl,⟨_,by(simp(disch:=first|omega|(simp only[z1,z2];omega))only[z3,z4,z5,z6,z7,z1,z2, *];exact rfl),rfl⟩,?_,?_⟩
   ·intro z hz
    rw[gX (by simp(disch:=first|omega|(simp only[z1,z2];omega))only[Heap.aI,Heap.cM];exact hr.log) k1]at hz
    simp at hz;omega
   ·intro h5 hn hag hl5
    refine⟨fun z hz hne=> ?_,(hag q k1 n1).trans (by(simp(disch:=first|omega|(simp only[z1,z2];omega))only[z3,z4,z5,z6,z7,z1,z2, *];done))⟩
    by_cases hz2:z=l2
    ·rw[hz2];exact hl5.trans gl.symm
    ·exact(hag z hz hz2).trans (by simp(disch:=first|omega|(simp only[z1,z2];omega))only[z5,z4])
set_option maxHeartbeats 8000000 in
theorem yK(hp:bC T)(f106:T 106=some f106){H:Heap}(hr:Rdy H){q p10 p12 p13 bb mb l2 a b:Nat}{v8 v9 fv s1 s3:Value}{own:Bool}{kerf:Int}{t:Tab}{x:Nat×Nat}{o r:Bool}(ho:r=(o&&decide (look t (cg x a b)+look t (cm kerf x a b)≤look t (a,b))))(hx:x.1=3∨x.1=4)(hx2:x.2<1000)(ha:a<1000)(hb:b<1000)(hk:0≤kerf∧kerf≤100)
 (hsum: -4611686018427387904≤look t (cg x a b)+look t (cm kerf x a b)∧look t (cg x a b)+look t (cm kerf x a b)≤4611686018427387904)(gl:H.get l2=some (.loop [(8,v8),(9,v9),(10, .pointer (some ⟨p10,0,none⟩)),(12, .pointer (some ⟨p12,0,none⟩)),(13, .pointer (some ⟨p13,0,none⟩)),(14, .pointer (some ⟨q,0,none⟩)),(83,fv)] [84] zV vF 0 .normal))
 (gq:H.get q=some (.cells [.bool o] true 1))(g10:H.get p10=some (.cells [.pointer (some ⟨bb,0,none⟩)] true 1))(g12:H.get p12=some (.cells [.map (some mb)] true 1))(g13:H.get p13=some (.cells [.int .i64 a, .int .i64 b] true 1))(gm:H.get mb=some (.map (dI t)))(gb:H.get bb=some (.cells [s1, .int .i64 kerf,s3] own 1)):
 FW T (.yield l2) [eI x] H fun r' H'=>r'= .ret (.bool true)∧(∀z∈H'.log,q≤z∧z<q+1)∧(∀z,z<H.next→z≠q→H'.get z=H.get z)∧H'.get q=some (.cells [.bool r] true 1):=by
 have n1:=bF gq gl
 have n2:=bF g10 gl
 have n3:=bF g12 gl
 have n4:=bF g13 gl
 have n5:=bF gb gl
 have n7:=mW gm gl
 have k1:=WF.aT hr.wf gq
 have k2:=WF.aT hr.wf g10
 have k3:=WF.aT hr.wf g12
 have k4:=WF.aT hr.wf g13
 have k5:=WF.aT hr.wf gb
 have k7:=WF.aT hr.wf gm
 have k8:=WF.aT hr.wf gl
 refine FW.rP hp (R:=fun H'=>(∀z,z<H.next→z≠q→H'.get z=H.get z)∧H'.get q=some (.cells [.bool r] true 1)) gl rfl k8 ?_
 unfold zV
 refine aD ?_;refine af cN ?_;refine yS ?_;refine fo ?_
 refine y1 ?_
 refine⟨rfl,by(simp(disch:=first|omega|(simp only[z1,z2];omega))only[z3,z4,z5,z6,z7,z1,z2, *];exact rfl),?_⟩
 unfold vF
 refine aC ?_;refine y4 ?_;refine yL ?_
 refine yN ?_
 refine yN ?_
 refine yC ?_
 have gB:(((H.push (.cells [.int .u8 0, .int .i64 0] true 1)).wr H.next H.next (.cells [.int .u8 x.1, .int .i64 x.2] true 1)).wr 0 l2 (.loop [(8,v8),(9,v9),(10, .pointer (some ⟨p10,0,none⟩)),(12, .pointer (some ⟨p12,0,none⟩)),(13, .pointer (some ⟨p13,0,none⟩)),(14, .pointer (some ⟨q,0,none⟩)),(83,fv)] [84] zV vF 1 .normal)).get bb=some (.cells [s1, .int .i64 kerf,s3] own 1):=by(simp(disch:=first|omega|(simp only[z1,z2];omega))only[z3,z4,z5,z6,z7,z1,z2, *];done)
 have hw:WF (((H.push (.cells [.int .u8 0, .int .i64 0] true 1)).wr H.next H.next (.cells [.int .u8 x.1, .int .i64 x.2] true 1)).wr 0 l2 (.loop [(8,v8),(9,v9),(10, .pointer (some ⟨p10,0,none⟩)),(12, .pointer (some ⟨p12,0,none⟩)),(13, .pointer (some ⟨p13,0,none⟩)),(14, .pointer (some ⟨q,0,none⟩)),(83,fv)] [84] zV vF 1 .normal)):=((hr.wf.push _).as (AS.wr _ _ _ _)).as (AS.wr _ _ _ _)
 refine FW.pu (oR hp f106 (.of hw) gB (Nat.lt_succ_of_lt k5) hk hx hx2 ha hb) ?_
 clear gB hw
 cases o with
 |false=>
  obtain rfl:r=false:=ho
  refine yM ?_;refine yE ?_;refine yE ?_;refine af cN ?_;refine af cN ?_
  refine yS ?_
  refine yS ?_;refine y3 ?_;refine cG ?_
  refine qL ?_
  refine qM ?_;refine aG rfl rfl rfl (by exact rfl) ?_;refine aG rfl rfl rfl (by exact rfl) ?_;refine aG rfl rfl rfl (by exact rfl) ?_;refine aG rfl rfl rfl (by exact rfl) ?_;refine aG rfl rfl rfl (by exact rfl) ?_;refine aG rfl rfl rfl (by exact rfl) ?_
  refine aG rfl rfl rfl (by exact rfl) ?_;refine aG rfl rfl rfl (by exact rfl) ?_;refine aG rfl rfl rfl (by exact rfl) ?_;refine aG rfl rfl rfl (by exact rfl) ?_;refine aG rfl rfl rfl (by exact rfl) ?_;refine ak rfl rfl rfl (by exact rfl) (by exact rfl) (by exact rfl) (lP (by exact rfl) (by exact rfl)) ?_
  refine eX (ws:=[.bool false]) rfl rfl rfl (by exact rfl) (by exact rfl) (by exact rfl) (by(simp(disch:=first|omega|(simp only[z1,z2];omega))only[z3,z4,z5,z6,z7,z1,z2, *];exact rfl)) (by exact rfl) (by exact rfl) (by(simp only[z1,z2];omega)) (by apply aa rfl;apply aa rfl;apply aa rfl;apply aa rfl;apply aa rfl;apply aa rfl;apply aa rfl;apply aa rfl;apply aa rfl;apply aa rfl;apply aa rfl;apply aa rfl;apply aa rfl;apply aa rfl;exact bT) ?_
  refine cF ?_;refine y1 ?_;refine cZ ?_
  refine⟨rfl,⟨_,by(simp(disch:=first|omega|(simp only[z1,z2];omega))only[z3,z4,z5,z6,z7,z1,z2, *];exact rfl),rfl⟩,?_,?_⟩
  ·intro z hz
   rw[gX (by simp(disch:=first|omega|(simp only[z1,z2];omega))only[Heap.aI,Heap.cM];exact hr.log) k1]at hz
   simp at hz;omega
  ·intro h5 hn hag hl5
   refine⟨fun z hz hne=> ?_,(hag q k1 n1).trans (by(simp(disch:=first|omega|(simp only[z1,z2];omega))only[z3,z4,z5,z6,z7,z1,z2, *];done))⟩
   by_cases hz2:z=l2
   ·rw[hz2];exact hl5.trans gl.symm
   ·exact(hag z hz hz2).trans (by simp(disch:=first|omega|(simp only[z1,z2];omega))only[z5,z4])
 |true=>
  have hadd:=rQ (k:= .i64) (a:=look t (cg x a b)) (b:=look t (cm kerf x a b)) (bY (by omega) (by omega))
  by_cases hc:look t (cg x a b)+look t (cm kerf x a b)≤look t (a,b)
  ·obtain rfl:r=true:=by rw[ho,decide_eq_true hc];rfl
   clear ho
   refine yM ?_;refine yE ?_;refine yE ?_;refine af cN ?_;refine af cN ?_
   refine yS ?_
   refine yS ?_;refine y3 ?_;refine cG ?_
   refine qL ?_
   refine qM ?_
   refine qL ?_
   refine qN ?_
   refine ak rfl rfl rfl (by exact rfl) (by exact rfl) (by exact rfl) (dH (x:=((a:Int),(b:Int))) (by exact rfl) (by exact rfl) (by(simp(disch:=first|omega|(simp only[z1,z2];omega))only[z3,z4,z5,z6,z7,z1,z2, *];exact rfl))) ?_
   refine qL ?_
   refine qN ?_
   refine ak rfl rfl rfl (by exact rfl) (by exact rfl) (by exact rfl) (dH (x:=cg x a b) (by exact rfl) (by exact rfl) (by(simp(disch:=first|omega|(simp only[z1,z2];omega))only[z3,z4,z5,z6,z7,z1,z2, *];exact rfl))) ?_
   refine qL ?_
   refine qN ?_
   refine ak rfl rfl rfl (by exact rfl) (by exact rfl) (by exact rfl) (dH (x:=cm kerf x a b) (by exact rfl) (by exact rfl) (by(simp(disch:=first|omega|(simp only[z1,z2];omega))only[z3,z4,z5,z6,z7,z1,z2, *];exact rfl))) ?_
   refine ak rfl rfl rfl (by exact rfl) (by exact rfl) (by exact rfl) (cE (by exact rfl) (by exact rfl) hadd) ?_
   refine ak rfl rfl rfl (by exact rfl) (by exact rfl) (by exact rfl) (cE (by exact rfl) (by exact rfl) (by exact yR (by omega))) ?_;refine ak rfl rfl rfl (by exact rfl) (by exact rfl) (by exact rfl) (jI (by exact rfl) (by exact rfl)) ?_
   refine eX (ws:=[.bool true]) rfl rfl rfl (by exact rfl) (by exact rfl) (by exact rfl) (by(simp(disch:=first|omega|(simp only[z1,z2];omega))only[z3,z4,z5,z6,z7,z1,z2, *];exact rfl)) (by exact rfl) (by exact rfl) (by(simp only[z1,z2];omega)) (by apply aa rfl;apply aa rfl;apply aa rfl;apply aa rfl;apply aa rfl;apply aa rfl;apply aa rfl;apply aa rfl;apply aa rfl;apply aa rfl;apply aa rfl;apply aa rfl;apply aa rfl;apply aa rfl;exact bT) ?_
   refine cF ?_;refine y1 ?_;refine cZ ?_
   refine⟨rfl,⟨_,by(simp(disch:=first|omega|(simp only[z1,z2];omega))only[z3,z4,z5,z6,z7,z1,z2, *];exact rfl),rfl⟩,?_,?_⟩
   ·intro z hz
    rw[gX (by simp(disch:=first|omega|(simp only[z1,z2];omega))only[Heap.aI,Heap.cM];exact hr.log) k1]at hz
    simp at hz;omega
   ·intro h5 hn hag hl5
    refine⟨fun z hz hne=> ?_,(hag q k1 n1).trans (by(simp(disch:=first|omega|(simp only[z1,z2];omega))only[z3,z4,z5,z6,z7,z1,z2, *];done))⟩
    by_cases hz2:z=l2
    ·rw[hz2];exact hl5.trans gl.symm
    ·exact(hag z hz hz2).trans (by simp(disch:=first|omega|(simp only[z1,z2];omega))only[z5,z4])
  ·obtain rfl:r=false:=by rw[ho,decide_eq_false hc];rfl
   clear ho
   refine yM ?_;refine yE ?_;refine yE ?_;refine af cN ?_;refine af cN ?_
   refine yS ?_
   refine yS ?_;refine y3 ?_;refine cG ?_
   refine qL ?_
   refine qM ?_
   refine qL ?_
   refine qN ?_
   refine ak rfl rfl rfl (by exact rfl) (by exact rfl) (by exact rfl) (dH (x:=((a:Int),(b:Int))) (by exact rfl) (by exact rfl) (by(simp(disch:=first|omega|(simp only[z1,z2];omega))only[z3,z4,z5,z6,z7,z1,z2, *];exact rfl))) ?_
   refine qL ?_
   refine qN ?_
   refine ak rfl rfl rfl (by exact rfl) (by exact rfl) (by exact rfl) (dH (x:=cg x a b) (by exact rfl) (by exact rfl) (by(simp(disch:=first|omega|(simp only[z1,z2];omega))only[z3,z4,z5,z6,z7,z1,z2, *];exact rfl))) ?_
   refine qL ?_
   refine qN ?_
   refine ak rfl rfl rfl (by exact rfl) (by exact rfl) (by exact rfl) (dH (x:=cm kerf x a b) (by exact rfl) (by exact rfl) (by(simp(disch:=first|omega|(simp only[z1,z2];omega))only[z3,z4,z5,z6,z7,z1,z2, *];exact rfl))) ?_
   refine ak rfl rfl rfl (by exact rfl) (by exact rfl) (by exact rfl) (cE (by exact rfl) (by exact rfl) hadd) ?_
   refine ak rfl rfl rfl (by exact rfl) (by exact rfl) (by exact rfl) (cE (by exact rfl) (by exact rfl) (by exact zg (by omega))) ?_;refine ak rfl rfl rfl (by exact rfl) (by exact rfl) (by exact rfl) (jI (by exact rfl) (by exact rfl)) ?_
   refine eX (ws:=[.bool false]) rfl rfl rfl (by exact rfl) (by exact rfl) (by exact rfl) (by(simp(disch:=first|omega|(simp only[z1,z2];omega))only[z3,z4,z5,z6,z7,z1,z2, *];exact rfl)) (by exact rfl) (by exact rfl) (by(simp only[z1,z2];omega)) (by apply aa rfl;apply aa rfl;apply aa rfl;apply aa rfl;apply aa rfl;apply aa rfl;apply aa rfl;apply aa rfl;apply aa rfl;apply aa rfl;apply aa rfl;apply aa rfl;apply aa rfl;apply aa rfl;exact bT) ?_
   refine cF ?_;refine y1 ?_;refine cZ ?_
   refine⟨rfl,⟨_,by(simp(disch:=first|omega|(simp only[z1,z2];omega))only[z3,z4,z5,z6,z7,z1,z2, *];exact rfl),rfl⟩,?_,?_⟩
   ·intro z hz
    rw[gX (by simp(disch:=first|omega|(simp only[z1,z2];omega))only[Heap.aI,Heap.cM];exact hr.log) k1]at hz
    simp at hz;omega
   ·intro h5 hn hag hl5
    refine⟨fun z hz hne=> ?_,(hag q k1 n1).trans (by(simp(disch:=first|omega|(simp only[z1,z2];omega))only[z3,z4,z5,z6,z7,z1,z2, *];done))⟩
    by_cases hz2:z=l2
    ·rw[hz2];exact hl5.trans gl.symm
    ·exact(hag z hz hz2).trans (by simp(disch:=first|omega|(simp only[z1,z2];omega))only[z5,z4])
end Go.A.Pk
end
section
set_option maxRecDepth 100000
namespace Go.A.Pk
variable {T:Nat→Option ah}
structure MU (T:Nat→Option ah) (lo N l:Nat) (V:Nat×Nat→Value) (all:List (Nat×Nat)) (P:List (Nat×Nat)→Heap→Prop):Prop where
 nN:∀done x H,x∈all→Rdy H→N≤H.next→P done H→FW T (.yield l) [V x] H fun r H'=>r= .ret (.bool true)∧(∀z∈H'.log,lo≤z)∧P (done++[x]) H'
 eF:∀done H H',P done H→N≤H'.next→(∀x,x<N→H'.get x=H.get x)→P done H'
end Go.A.Pk
end
section
set_option maxRecDepth 100000
namespace Go.A
variable {T:Nat→Option ah}
structure MV (lo:Nat) (h:Heap) (sz:Nat) (v:Value) (n:Nat) (cs:List Value):Prop where
 ex:∃q c,v= .slice (some ⟨q,0,none⟩) n c∧lo≤q∧q<h.next∧h.get q=some (.cells cs true sz)∧cs.length=n*sz∧(c=UNK∨c=n)
end Go.A
namespace Go.A.Pk
variable {T:Nat→Option ah}
end Go.A.Pk
end
section
namespace Go.A.Pk
def ShF(kerf:Int)(ws:List Int)(kl:List Kd):Nat→Int×Int→Int
 |0,p=>if 1≤p.1∧1≤p.2 then ig ws (aZ p.1.toNat p.2.toNat kl 0) 0 else 0
 |d+1,p=>if 1≤p.1∧1≤p.2 then foldM (fun x=>ShF kerf ws kl d (cg x p.1.toNat p.2.toNat)+ShF kerf ws kl d (cm kerf x p.1.toNat p.2.toNat)) (dD p.1.toNat p.2.toNat) (ShF kerf ws kl d p)else 0
theorem oY{kerf:Int}{ws:List Int}{kl:List Kd}{p:Int×Int}(h:¬ (1≤p.1∧1≤p.2)):∀d,ShF kerf ws kl d p=0
 |0=>if_neg h
 |_+1=>if_neg h
theorem wj{kerf:Int}{ws:List Int}{kl:List Kd}{a b:Nat}(ha:1≤a)(hb:1≤b):ShF kerf ws kl 0 ((a:Int),(b:Int))=ig ws (aZ a b kl 0) 0:=if_pos (by dsimp only;omega)
theorem w8{kerf:Int}{ws:List Int}{kl:List Kd}{a b:Nat}(ha:1≤a)(hb:1≤b)(d:Nat):ShF kerf ws kl (d+1) ((a:Int),(b:Int))=foldM (fun x=>ShF kerf ws kl d (cg x a b)+ShF kerf ws kl d (cm kerf x a b)) (dD a b) (ShF kerf ws kl d ((a:Int),(b:Int))):=if_pos (by dsimp only;omega)
theorem th{ws:List Int}{ys:List (Nat×Nat)}{m:Int}:m≤ig ws ys m∧∀y∈ys,ws.getD y.2 0≤ig ws ys m:=iH (f:=fun y:Nat×Nat=>ws.getD y.2 0)
theorem Fa{kerf:Int}{ws:List Int}{kl:List Kd}(d:Nat)(p:Int×Int):ShF kerf ws kl d p≤ShF kerf ws kl (d+1) p:=by
 by_cases h:1≤p.1∧1≤p.2
 ·rw[show ShF kerf ws kl (d+1) p=_ from if_pos h]
  exact iH.1
 ·rw[oY h,oY h];exact Int.le_refl _
theorem uz{kerf:Int}{ws:List Int}{kl:List Kd}{d e:Nat}(h:d≤e)(p:Int×Int):ShF kerf ws kl d p≤ShF kerf ws kl e p:=by
 induction h with
 |refl=>exact Int.le_refl _
 |step _ ih=>exact Int.le_trans ih (Fa _ _)
theorem JB{kerf:Int}(hk:0≤kerf){ws:List Int}{kl:List Kd}:∀(d:Nat) (p:Int×Int),ShF kerf ws kl d p≤V kerf ws kl p:=by
 intro d
 induction d with
 |zero=>
  intro p
  by_cases h:1≤p.1∧1≤p.2
  ·obtain⟨y1,y2⟩:=p
   obtain⟨a,rfl⟩:=Int.eq_ofNat_of_zero_le (show 0≤y1 by dsimp only at h;omega)
   obtain⟨b,rfl⟩:=Int.eq_ofNat_of_zero_le (show 0≤y2 by dsimp only at h;omega)
   dsimp only at h
   rw[wj (by omega) (by omega),xJ hk (by omega) (by omega)]
   exact iH.1
  ·rw[oY h,oy h];exact Int.le_refl _
 |succ d ih=>
  intro p
  by_cases h:1≤p.1∧1≤p.2
  ·obtain⟨y1,y2⟩:=p
   obtain⟨a,rfl⟩:=Int.eq_ofNat_of_zero_le (show 0≤y1 by dsimp only at h;omega)
   obtain⟨b,rfl⟩:=Int.eq_ofNat_of_zero_le (show 0≤y2 by dsimp only at h;omega)
   dsimp only at h
   rw[w8 (by omega) (by omega)]
   refine oM (ih _) fun x hx=> ?_
   rw[xJ hk (by omega) (by omega)]
   have h1:=ih (cg x a b)
   have h2:=ih (cm kerf x a b)
   have:=(iH (f:=fun x=>V kerf ws kl (cg x a b)+V kerf ws kl (cm kerf x a b)) (xs:=dD a b) (m:=ig ws (aZ a b kl 0) 0)).2 x hx
   omega
  ·rw[oY h,oy h];exact Int.le_refl _
theorem tg{kerf:Int}{ws:List Int}{kl:List Kd}(d:Nat)(p:Int×Int):0≤ShF kerf ws kl d p:=by
 refine Int.le_trans ?_ (uz (Nat.zero_le d) p)
 by_cases h:1≤p.1∧1≤p.2
 ·rw[show ShF kerf ws kl 0 p=_ from if_pos h];exact th.1
 ·rw[oY h];exact Int.le_refl _
end Go.A.Pk
end
section
set_option maxRecDepth 100000
namespace Go.A.Pk
variable {T:Nat→Option ah}
structure FnsNd (T:Nat→Option ah):Prop extends FnsC T where
 f106:T 106=some f106
 f125:T 125=some f125
 f143:T 143=some f143
 f145:T 145=some f145
 f169:T 169=some f169
 f170:T 170=some f170
 f171:T 171=some f171
 f172:T 172=some f172
 f173:T 173=some f173
theorem ER(hp:bC T)(hf:T 77=some f77){h:Heap}(hr:Rdy h){n a b:Int}:Pu T 77 [.int .i64 n, .int .i64 a, .int .i64 b] h (.bool (decide (a≤n∧n≤b))):=by
 by_cases q:a≤n∧n≤b
 ·rw[decide_eq_true q];exact kZ hp hf hr q
 ·rw[decide_eq_false q];exact oA hp hf hr q
def lX(x:Nat×Int):Value:= .agg #[.int .u8 (x.1:Nat), .int .i64 x.2]
def xM:Value:= .iface 182 (.agg #[])
theorem uN(F:FnsNd T){h:Heap}(hr:Rdy h):Pu T 145 [.bool true] h (.tuple #[]):=by
 refine .of F.toFnsC.p F.f145 hr rfl ?_
 refine y4 ?_;refine yM ?_;refine yA ?_;refine y3 ?_;refine yX ?_;refine aB ?_
 exact⟨⟨.inl rfl,rfl,hr.log,[],rfl,rfl⟩⟩
theorem rm(F:FnsNd T){h:Heap}:CW T 145 [.bool false] h fun r h'=>r= .panic xM∧h'=h:=by
 refine CW.code F.f145 (WE.ok ?_)
 refine y4 ?_;refine yM ?_;refine yA ?_;refine y3 ?_;refine yY ?_;refine aD ?_;refine af (ck (by exact rfl)) ?_
 refine af (show aop h h.next _ (.eT 182 (.tmp 4))=some (.val (.iface 182 (.agg #[])) h)from rfl) ?_
 refine Eu (show aop h h.next _ (.nq (.tmp 5))=some (.panic xM h)from rfl) ?_
 exact yb ⟨rfl,rfl⟩
theorem Im(F:FnsNd T){h:Heap}(hr:Rdy h):Pu T 143 [] h (.agg #[.func (.func 169) #[] #[], .func (.func 170) #[] #[], .func (.func 171) #[] #[], .func (.func 172) #[] #[], .func (.func 173) #[] #[]]):=by
 refine .of F.toFnsC.p F.f143 hr rfl ?_
 refine y4 ?_;refine af cN ?_;refine y3 ?_;refine y4 ?_;refine af (ck (by exact rfl)) ?_
 refine yS ?_;refine y3 ?_;refine aH ?_
 exact aF ((Heap.aI (Nat.le_refl _)).trans hr.log) (jg (b:=h.next) rfl (by(simp(disch:=first|omega|(simp only[z1,z2];omega))only[z3,z4,z5,z6,z7,z1,z2, *];exact rfl)) rfl rfl fP) rfl
theorem wH(F:FnsNd T){h:Heap}(hr:Rdy h)(x:Int×Int):Pu T 125 [cT x] h (.bool (decide (x.1<1∨x.2<1))):=by
 refine .of F.toFnsC.p F.f125 hr rfl ?_
 by_cases c1:x.1<1
 ·rw[decide_eq_true (show x.1<1∨x.2<1 from .inl c1)]
  unfold cT
  refine y4 ?_;refine yB ?_;refine yM ?_;refine y3 ?_;refine y4 ?_;refine af (bz (i:=0) (by exact rfl) (by exact rfl) (by omega)) ?_
  refine yL ?_;refine yt ?_
  refine yM ?_;refine yP ?_;refine yP ?_;refine yP ?_;refine yT ?_;refine yM ?_;refine y3 ?_;refine aH ?_
  exact aF hr.log rfl rfl
 ·by_cases c2:x.2<1
  ·rw[decide_eq_true (show x.1<1∨x.2<1 from .inr c2)]
   unfold cT
   refine y4 ?_;refine yB ?_;refine yM ?_;refine y3 ?_;refine y4 ?_;refine af (bz (i:=0) (by exact rfl) (by exact rfl) (by omega)) ?_
   refine yL ?_;refine yf ?_
   refine yM ?_;refine yO ?_;refine af (bz (i:=1) (by exact rfl) (by exact rfl) (by omega)) ?_;refine yO ?_
   refine yL ?_;refine yO ?_;refine yt ?_
   refine yU ?_;refine yM ?_;refine y3 ?_;refine aH ?_
   exact aF hr.log rfl rfl
  ·rw[decide_eq_false (show¬ (x.1<1∨x.2<1)from fun q=>q.elim c1 c2)]
   unfold cT
   refine y4 ?_;refine yB ?_;refine yM ?_;refine y3 ?_;refine y4 ?_;refine af (bz (i:=0) (by exact rfl) (by exact rfl) (by omega)) ?_
   refine yL ?_;refine yf ?_
   refine yM ?_;refine yO ?_;refine af (bz (i:=1) (by exact rfl) (by exact rfl) (by omega)) ?_;refine yO ?_
   refine yL ?_;refine yO ?_;refine yf ?_
   refine yU ?_;refine yM ?_;refine y3 ?_;refine aH ?_
   exact aF hr.log rfl rfl
theorem zD(F:FnsNd T){h:Heap}(hr:Rdy h)(q:Option Addr)(p:Int×Int)(x:Nat×Int):Pu T 169 [.pointer q,cT p,lX x] h (.bool (decide (x.2=0))):=by
 refine .of F.toFnsC.p F.f169 hr rfl ?_
 obtain⟨p1,p2⟩:=p
 obtain⟨x1,x2⟩:=x
 unfold cT lX
 by_cases hz:x2=0
 ·rw[decide_eq_true hz]
  refine y4 ?_;refine yB ?_;refine yB ?_;refine yM ?_;refine y3 ?_;refine y4 ?_
  refine yF ?_;refine yL ?_
  refine yt ?_;refine yM ?_;refine y3 ?_;refine aH ?_
  exact aF hr.log rfl rfl
 ·rw[decide_eq_false hz]
  refine y4 ?_;refine yB ?_;refine yB ?_;refine yM ?_;refine y3 ?_;refine y4 ?_
  refine yF ?_;refine yL ?_
  refine yf ?_;refine yM ?_;refine y3 ?_;refine aH ?_
  exact aF hr.log rfl rfl
theorem wV(F:FnsNd T){h:Heap}(hr:Rdy h)(q:Option Addr)(p:Int×Int)(x:Nat×Int)(h1:1≤p.1∧p.1≤16):Pu T 172 [.pointer q,cT p,lX x] h (.bool (decide (1≤x.2∧x.2≤p.1-1))):=by
 refine .of F.toFnsC.p F.f172 hr rfl ?_
 have hx:Ext h ((h.push (.cells [.int .i64 p.1, .int .i64 p.2] true 1)).push (.cells [.int .u8 x.1, .int .i64 x.2] true 1)):=((Ext.refl h).push _).push _
 obtain⟨p1,p2⟩:=p
 obtain⟨x1,x2⟩:=x
 dsimp only at h1 hx⊢
 unfold cT lX
 have C:=ER F.toFnsC.p F.toFnsC.f77 (.of (hx.wf hr.wf)) (n:=x2) (a:=1) (b:=p1-1)
 refine y4 ?_;refine yB ?_;refine yB ?_;refine yM ?_;refine y3 ?_;refine y4 ?_
 refine yF ?_;refine yL ?_
 refine af (bz (i:=0) (by exact rfl) (by exact rfl) (by omega)) ?_;refine yL ?_
 refine vS ?_
 refine yC ?_
 refine FW.pu C ?_
 refine yM ?_;refine y3 ?_;refine aH ?_
 exact aF hr.log rfl rfl
theorem yJ(F:FnsNd T){h:Heap}(hr:Rdy h)(q:Option Addr)(p:Int×Int)(x:Nat×Int)(h1:1≤p.2∧p.2≤16):Pu T 173 [.pointer q,cT p,lX x] h (.bool (decide (1≤x.2∧x.2≤p.2-1))):=by
 refine .of F.toFnsC.p F.f173 hr rfl ?_
 have hx:Ext h ((h.push (.cells [.int .i64 p.1, .int .i64 p.2] true 1)).push (.cells [.int .u8 x.1, .int .i64 x.2] true 1)):=((Ext.refl h).push _).push _
 obtain⟨p1,p2⟩:=p
 obtain⟨x1,x2⟩:=x
 dsimp only at h1 hx⊢
 unfold cT lX
 have C:=ER F.toFnsC.p F.toFnsC.f77 (.of (hx.wf hr.wf)) (n:=x2) (a:=1) (b:=p2-1)
 refine y4 ?_;refine yB ?_;refine yB ?_;refine yM ?_;refine y3 ?_;refine y4 ?_
 refine yF ?_;refine yL ?_
 refine af (bz (i:=1) (by exact rfl) (by exact rfl) (by omega)) ?_;refine yL ?_
 refine vS ?_
 refine yC ?_
 refine FW.pu C ?_
 refine yM ?_;refine y3 ?_;refine aH ?_
 exact aF hr.log rfl rfl
end Go.A.Pk
end
section
set_option maxRecDepth 100000
namespace Go.A.Pk
variable {T:Nat→Option ah}
theorem oS{base:Nat}{rnd:Option Nat}{e:Env}{ds:Dfs}{Q:XQ}{h1:Heap}{f:Operand}{g q:Nat}{first cap:Array Value}{ps:List Nat}{asg body:aJ}{all:List (Nat×Nat)}{O:List (Nat×Nat)→bE}(hr:jy h1 rnd=true)(hf:ev h1 e f=some (.func (.func g) first cap))(hnc:fL (T g)=false)
 (hB:base≤h1.next)(hq:base≤q)(w1:WF h1)
 (HG:Gr T g (dg first.toList (dg [.func (.yield h1.next) #[] #[]] cap.toList)) {h1.push (.loop e ps asg body 0 .normal)with log:=[]} q fun v h'=>v= .tuple #[]∧PW h1.next q h1 (.loop e ps asg body 0 .normal) O all h')(hqn:q<h1.next)
 (K:∀h3,h3.log=h1.log→WF h3→h1.next≤h3.next→(∀z,z<h1.next→z≠q→h3.get z=h1.get z)→h3.get q=some (O all)→Q .normal e ds h3):WE T base rnd (.rangeFunc f ps asg body) Q e ds h1:=by
 refine oI hr hf hnc (CW.mono HG ?_)
 rintro r h2 ⟨hk,v,rfl,rfl,hP⟩
 refine⟨_,rfl,_,_,_,_,_,_,hP.loop,rfl,?_⟩
 have hl2:dG base h2.log:=fun z hz=>Nat.le_trans hq (hk.log (dG.nil _) z hz)
 refine K _ ?_ ?_ ?_ (fun z hz hne=> ?_) ?_
 ·rw[Heap.aI hB]
  show ax base h1.log h2.log=h1.log
  rw[mV hl2]
 ·exact((hk.wf ((w1.push _).log _)).log _).as (AS.wr _ _ _ _)
 ·have:=hk.next
  have e1:h1.next+1≤h2.next:=this
  show h1.next≤h2.next
  omega
 ·exact(z5 (by omega)).trans (hP.old z hz hne)
 ·exact(z5 (by omega)).trans hP.obj
def okL(ws:List Int)(v:Int)(xs:List (Nat×Nat))(o:Bool):Bool:=xs.foldl (fun o x=>o&&decide (ws.getD x.2 0≤v)) o
def okC(kerf:Int)(t:Tab)(v:Int)(a b:Nat)(xs:List (Nat×Nat))(o:Bool):Bool:=xs.foldl (fun o x=>o&&decide (look t (cg x a b)+look t (cm kerf x a b)≤v)) o
theorem DX(ws:List Int)(v:Int)(xs:List (Nat×Nat))(x:Nat×Nat)(o:Bool):okL ws v (xs++[x]) o=(okL ws v xs o&&decide (ws.getD x.2 0≤v)):=by simp[okL]
theorem Ec(kerf:Int)(t:Tab)(v:Int)(a b:Nat)(xs:List (Nat×Nat))(x:Nat×Nat)(o:Bool):okC kerf t v a b (xs++[x]) o=(okC kerf t v a b xs o&&decide (look t (cg x a b)+look t (cm kerf x a b)≤v)):=by simp[okC]
def bok(kerf:Int)(ws:List Int)(kl:List Kd)(t:Tab)(a b:Nat)(v:Int):Bool:=okC kerf (upd t (a,b) v) v a b (dD a b) (okL ws v (aZ a b kl 0) (decide (0≤v∧v≤1000000000)))
set_option maxHeartbeats 16000000 in
theorem u7(F:FnsV T)(hf77:T 77=some f77){H:Heap}(hr:Rdy H){lo N p7 p8 p9 p10 p12 mb bb l n c wc i j vc:Nat}{sa wa va:Option Addr}{fv o8 o9:Value}{kerf v0:Int}{ws:List Int}{kl:List Kd}{t:Tab}{rows:List (List Int)}{r0:List Int}(ha:i<999)(hb:j<999)(hn:n<1000)(hk:0≤kerf∧kerf≤100)
 (hsum:∀x∈dD (i+1) (j+1), -4611686018427387904≤look (upd t (i+1,j+1) v0) (cg x (i+1) (j+1))+look (upd t (i+1,j+1) v0) (cm kerf x (i+1) (j+1))∧look (upd t (i+1,j+1) v0) (cg x (i+1) (j+1))+look (upd t (i+1,j+1) v0) (cm kerf x (i+1) (j+1))≤4611686018427387904)(gl:H.get l=some (.loop [(7, .pointer (some ⟨p7,0,none⟩)),(8, .pointer (some ⟨p8,0,none⟩)),(9, .pointer (some ⟨p9,0,none⟩)),(10, .pointer (some ⟨p10,0,none⟩)),(12, .pointer (some ⟨p12,0,none⟩)),(43,fv)] [44] ql mh 0 .normal))
 (g7:H.get p7=some (.cells [.slice va rows.length vc] true 1))(g8:H.get p8=some (.cells [o8] true 1))(g9:H.get p9=some (.cells [o9] true 1))(g10:H.get p10=some (.cells [.pointer (some ⟨bb,0,none⟩)] true 1))(g12:H.get p12=some (.cells [.map (some mb)] true 1))(gm:H.get mb=some (.map (dI t)))(gb:H.get bb=some (.cells [.slice sa n c, .int .i64 kerf, .slice wa n wc] true 1))(hks:aA H 5 (.slice sa n c) n (kcs kl))(hws:aA H 1 (.slice wa n wc) n (ints ws))
 (hv:dO H (.slice va rows.length vc) rows)(hri:rows[i]? =some r0)(hrj:r0[j]? =some v0)(hrl:rows.length<1000000∧r0.length<1000000)(h89:p8≠p9)(hlo:lo≤mb∧lo≤p8∧lo≤p9∧lo≤l)(hN:mb<N∧p8<N∧p9<N∧l<N):
 FW T (.yield l) [dV (i+1,j+1)] H fun r H'=>(∀z∈H'.log,lo≤z∧z<N)∧
  (r= .ret (.bool true)∧((∀z,z<H.next→z≠mb→H'.get z=H.get z)∧H'.get mb=some (.map (dI (upd t (i+1,j+1) v0)))∧H.next≤H'.next∧bok kerf ws kl t (i+1) (j+1) v0=true)∨
   r= .ret (.bool false)∧l∈H'.log∧(H'.get l=some (.loop [(7, .pointer (some ⟨p7,0,none⟩)),(8, .pointer (some ⟨p8,0,none⟩)),(9, .pointer (some ⟨p9,0,none⟩)),(10, .pointer (some ⟨p10,0,none⟩)),(12, .pointer (some ⟨p12,0,none⟩)),(43,fv)] [44] ql mh 2 .ret)∧H'.get p8=some (.cells [.bool false] true 1)∧H'.get p9=some (.cells [.int .i64 0] true 1)∧bok kerf ws kl t (i+1) (j+1) v0=false)):=by
 obtain⟨b1,o1,vs1,own1,t1,xa,xc,rfl,g1,kb1,f1,s1⟩:=hv.elem hri
 have hil:=(List.getElem?_eq_some_iff.1 hri).1
 have hjl:=(List.getElem?_eq_some_iff.1 hrj).1
 rcases(s1 (by intro q;rw[q]at hjl;simp at hjl)).inv with⟨_,_,h0,_⟩|⟨b2,o2,cap2,hv2,s2,hcap2⟩
 ·omega
 cases hv2
 have hzi:(ints r0)[j]? =some (.int .i64 v0):=by simp[ints,hrj]
 obtain⟨vs2,own2,t2,g3,f3⟩:=ff s2 hzi
 have kb2:=s2.lt
 have n1:=bF g1 gl
 have n2:=bF g3 gl
 have n3:=bF gb gl
 have n4:=bF g7 gl
 have n5:=bF g8 gl
 have n6:=bF g9 gl
 have n7:=bF g10 gl
 have n8:=bF g12 gl
 have n9:=mW gm gl
 have m1:=mD g8 gm
 have m2:=mD g9 gm
 have m3:=mD gb gm
 have m4:=mD g10 gm
 have m5:=mD g12 gm
 have k3:=WF.aT hr.wf gb
 have k4:=WF.aT hr.wf g7
 have k5:=WF.aT hr.wf g8
 have k6:=WF.aT hr.wf g9
 have k7:=WF.aT hr.wf g10
 have k8:=WF.aT hr.wf g12
 have k9:=WF.aT hr.wf gm
 have kl':=WF.aT hr.wf gl
 clear s2 hv hri hrj hzi
 have hsub:cV .sub (.int .i64 ((i+1:Nat):Int)) (.int .i64 1)=some (.int .i64 ((i:Nat):Int)):=iX (by rw[bY]<;>omega)
 have hsub2:cV .sub (.int .i64 ((j+1:Nat):Int)) (.int .i64 1)=some (.int .i64 ((j:Nat):Int)):=iX (by rw[bY]<;>omega)
 refine FW.yq F.p (R:=fun H'=>(∀z,z<H.next→z≠mb→H'.get z=H.get z)∧H'.get mb=some (.map (dI (upd t (i+1,j+1) v0)))∧H.next≤H'.next∧bok kerf ws kl t (i+1) (j+1) v0=true)
  (S:=fun H'=>H'.get l=some (.loop [(7, .pointer (some ⟨p7,0,none⟩)),(8, .pointer (some ⟨p8,0,none⟩)),(9, .pointer (some ⟨p9,0,none⟩)),(10, .pointer (some ⟨p10,0,none⟩)),(12, .pointer (some ⟨p12,0,none⟩)),(43,fv)] [44] ql mh 2 .ret)∧H'.get p8=some (.cells [.bool false] true 1)∧H'.get p9=some (.cells [.int .i64 0] true 1)∧bok kerf ws kl t (i+1) (j+1) v0=false) gl rfl kl' ⟨hlo.2.2.2,hN.2.2.2⟩ ?_
 unfold ql dV
 dsimp only
 refine aD ?_;refine af cN ?_;refine yS ?_;refine fo ?_
 refine y1 ?_
 refine⟨rfl,by(simp(disch:=first|omega|(simp only[z1,z2];omega))only[z3,z4,z5,z6,z7,z1,z2, *];exact rfl),?_⟩
 unfold mh
 refine aC ?_;refine aq ?_;refine cG ?_;refine qL ?_
 refine qN ?_
 refine qL ?_
 refine ak rfl rfl rfl (by exact rfl) (by exact rfl) (by exact rfl) (bz (i:=0) (by exact rfl) (by exact rfl) (by omega)) ?_
 refine qL ?_
 refine ak rfl rfl rfl (by exact rfl) (by exact rfl) (by exact rfl) (cE (by exact rfl) (by exact rfl) (by with_reducible assumption)) ?_;refine ak rfl rfl rfl (by exact rfl) (by exact rfl) (by exact rfl) (aN (by exact rfl) (by exact rfl) (by omega)) ?_
 refine ak rfl rfl rfl (by exact rfl) (by exact rfl) (by exact rfl) (bt (by exact rfl) (by(simp(disch:=first|omega|(simp only[z1,z2];omega))only[z3,z4,z5,z6,z7,z1,z2, *];exact rfl)) (by assumption)) ?_
 refine ak rfl rfl rfl (by exact rfl) (by exact rfl) (by exact rfl) (bz (i:=1) (by exact rfl) (by exact rfl) (by omega)) ?_
 refine qL ?_
 refine ak rfl rfl rfl (by exact rfl) (by exact rfl) (by exact rfl) (cE (by exact rfl) (by exact rfl) (by with_reducible assumption)) ?_;refine ak rfl rfl rfl (by exact rfl) (by exact rfl) (by exact rfl) (aN (by exact rfl) (by exact rfl) (by omega)) ?_
 refine ak rfl rfl rfl (by exact rfl) (by exact rfl) (by exact rfl) (bt (by exact rfl) (by(simp(disch:=first|omega|(simp only[z1,z2];omega))only[z3,z4,z5,z6,z7,z1,z2, *];exact rfl)) (by assumption)) ?_
 refine Es (x:=(i+1,j+1)) (z:=v0) (r:=mb) (t:=t) rfl rfl rfl (by exact rfl) (by exact rfl) (by exact rfl) (by exact rfl) (by(simp(disch:=first|omega|(simp only[z1,z2];omega))only[z3,z4,z5,z6,z7,z1,z2, *];done)) (by(simp only[z1,z2];omega)) (by apply aa rfl;apply aa rfl;apply aa rfl;apply aa rfl;apply aa rfl;apply aa rfl;apply aa rfl;apply aa rfl;apply aa rfl;apply aa rfl;apply aa rfl;apply aa rfl;apply aa rfl;exact bT) ?_
 refine cF ?_;refine y1 ?_;refine aP ?_;refine y4 ?_
 refine yL ?_
 refine yN ?_
 refine WO.gen ?_
 intro hA hAe
 have A1:∀z,z<H.next→z≠l→z≠mb→hA.get z=H.get z:=fun z hz hne hne2=>by rw[hAe];simp(disch:=first|omega|(simp only[z1,z2];omega))only[z5,z4]
 have A2:hA.get l=some (.loop [(7, .pointer (some ⟨p7,0,none⟩)),(8, .pointer (some ⟨p8,0,none⟩)),(9, .pointer (some ⟨p9,0,none⟩)),(10, .pointer (some ⟨p10,0,none⟩)),(12, .pointer (some ⟨p12,0,none⟩)),(43,fv)] [44] ql mh 1 .normal):=by rw[hAe];(simp(disch:=first|omega|(simp only[z1,z2];omega))only[z3,z4,z5,z6,z7,z1,z2, *];exact rfl)
 have A3:hA.get H.next=some (.cells [.int .i64 ((i+1:Nat):Int), .int .i64 ((j+1:Nat):Int)] true 1):=by rw[hAe];(simp(disch:=first|omega|(simp only[z1,z2];omega))only[z3,z4,z5,z6,z7,z1,z2, *];exact rfl)
 have A4:hA.get mb=some (.map (dI (upd t (i+1,j+1) v0))):=by rw[hAe];(simp(disch:=first|omega|(simp only[z1,z2];omega))only[z3,z4,z5,z6,z7,z1,z2, *];done)
 have A5:hA.next=H.next+1:=by rw[hAe];rfl
 have A6:hA.log=[mb]:=by rw[hAe];exact gX (by simp(disch:=first|omega|(simp only[z1,z2];omega))only[Heap.aI,Heap.cM];exact hr.log) k9
 have A7:WF hA:=by rw[hAe];exact(((hr.wf.push _).as (AS.wr _ _ _ _)).as (AS.wr _ _ _ _)).as (AS.wr _ _ _ _)
 have A10:=(A1 p10 k7 n7 m4.symm.symm).trans g10
 have A12:=(A1 p12 k8 n8 m5).trans g12
 clear hAe g1 g3 f1 f3 s1 hsub hsub2
 refine af (dH (x:=(((i+1:Nat):Int),((j+1:Nat):Int))) (by exact rfl) (by exact rfl) A4) ?_
 have hlk:look (upd t (i+1,j+1) v0) (((i+1:Nat):Int),((j+1:Nat):Int))=v0:=by rw[jr];exact if_pos rfl
 rw[hlk]
 skip
 refine yC ?_
 refine FW.pu (ER F.p hf77 (.of A7) (n:=v0) (a:=0) (b:=1000000000)) ?_
 refine af cN ?_;refine yS ?_
 refine y3 ?_;refine aq ?_;refine y4 ?_
 refine yL ?_
 refine yN ?_
 refine WO.gen ?_
 intro hB hBe
 have B1:∀z,z<H.next+1→hB.get z=hA.get z:=fun z hz=>by rw[hBe];simp(disch:=first|omega|(simp only[z1,z2];omega))only[z5,z4]
 have B4:hB.get (H.next+1)=some (.cells [.bool (decide (0≤v0∧v0≤1000000000))] true 1):=by rw[hBe,←A5];(simp(disch:=first|omega|(simp only[z1,z2];omega)|(simp only[z1,z2];done)|fail)only[z8,z4,z5,z9,z7,z1,z2, *];exact rfl)
 have B5:hB.next=H.next+2:=by rw[hBe];show hA.next+1=_;omega
 have B6:hB.log=[mb]:=by rw[hBe];rw[Heap.aI (by omega)];exact A6
 have B7:WF hB:=by rw[hBe];exact(A7.push _).as (AS.wr _ _ _ _)
 have B2:=(B1 l (by omega)).trans A2
 have B3:=(B1 _ (Nat.lt_succ_self _)).trans A3
 have B10:=(B1 p10 (by omega)).trans A10
 have B12:=(B1 p12 (by omega)).trans A12
 have Bm:=(B1 mb (by omega)).trans A4
 have Bo:∀z,z<H.next→z≠l→z≠mb→hB.get z=H.get z:=fun z hz q1 q2=>(B1 z (by omega)).trans (A1 z hz q1 q2)
 have eA:H.next+1=hA.next:=A5.symm
 rw[A5]
 clear hBe A1 A2 A3 A4 A6 A7 A10 A12 B1
 generalize hok0:decide (0≤v0∧v0≤1000000000)=ok0 at*
 skip
 refine yC ?_
 refine FW.al (pR F.p F.f104 (.of B7) bb ((i+1:Nat):Int) ((j+1:Nat):Int)) (fun _ _ _ q=>q) ?_
 rintro _ h1 hx1 ⟨rfl,hn1,gp,gx⟩
 have eB:({hB with log:=[]}:Heap).next=H.next+2:=B5
 rw[eB]at hn1 gp gx
 rw[eB]
 have C0:∀z,z<H.next+2→h1.get z=hB.get z:=fun z hz=>hx1.old z (by omega)
 have Co:∀z,z<H.next→z≠l→z≠mb→h1.get z=H.get z:=fun z hz q1 q2=>(C0 z (by omega)).trans (Bo z hz q1 q2)
 have C2:=(C0 l (by omega)).trans B2
 have C3:=(C0 _ (by omega)).trans B3
 have C4:=(C0 _ (by omega)).trans B4
 have Cm:=(C0 mb (by omega)).trans Bm
 have C10:=(C0 p10 (by omega)).trans B10
 have C12:=(C0 p12 (by omega)).trans B12
 have C6:h1.log=[mb]:=hx1.log.trans B6
 have C7:WF h1:=hx1.wf B7
 have hlen:kl.length=n:=by have:=hks.len;rw[cP]at this;omega
 clear hx1 B2 B3 B4 B6 B7 B10 B12 Bm Bo C0
 refine y3 ?_;refine aC ?_
 refine oS (q:=H.next+1) (all:=aZ (i+1) (j+1) kl 0) (O:=fun d=> .cells [.bool (okL ws v0 d ok0)] true 1) (pe C2) (by rfl) (by rw[F.f140];rfl) (by omega) (by omega) C7 ?_ (by omega) ?_
 ·refine uy F.p F.f140 (.of (C7.push _)) (pb:=H.next+2) (bb:=bb) (px:=H.next+3) (l':=h1.next) (N:=h1.next+1) (lo:=H.next+1) (a:=i+1) (b:=j+1) (n:=n) (c:=c) (sa:=sa) (l:=kl) (v1:= .int .i64 kerf) (v2:= .slice wa n wc) (Nat.le_refl _) (by show H.next+1≤h1.next+1;omega) hn
   (PW.yld F.p (by omega) fun done x H' hx hr' hlt hP=> ?_) ((z4 (by omega)).trans gp) ((z4 (by omega)).trans ((Co bb k3 n3 m3).trans gb)) (fun d H' hP=> ?_) (fun d H' hP=>(hP.old _ (by omega) (by omega)).trans gx) ⟨fun z hz _=>z4 hz,(z4 (by omega)).trans C4,z3 _ _,Nat.lt_succ_self _⟩
  ·refine FW.mono' (wO F.p hr' (x:=x) (n:=n) (a:=i+1) (b:=j+1) (t:=upd t (i+1,j+1) v0) (o:=okL ws v0 done ok0) (r:=okL ws v0 (done++[x]) ok0) (by rw[hlk];exact DX ..) (by have:=lK x hx;omega) hP.loop hP.obj ((hP.old p10 (by omega) (by omega)).trans C10) ((hP.old p12 (by omega) (by omega)).trans C12) ((hP.old H.next (by omega) (by omega)).trans C3) ((hP.old mb (by omega) (by omega)).trans Cm) ((hP.old bb (by omega) (by omega)).trans ((Co bb k3 n3 m3).trans gb)) (aA.agree hws (by omega) fun b0 vs o t hb he=>(hP.old b0 (by omega) (by omega)).trans (Co b0 hb (bF he gl) (mD he gm)))) ?_
   rintro r H'' ⟨q1,q2,q3,q4⟩
   exact⟨q1,q2,q3,q4⟩
  ·have:=hP.nx
   exact aA.agree hks (by omega) fun b0 vs o t hb he=>(hP.old b0 (by omega) (by omega)).trans (Co b0 hb (bF he gl) (mD he gm))
 intro h3 c1 c2 c3 c4 c5
 have Do:∀z,z<H.next→z≠l→z≠mb→h3.get z=H.get z:=fun z hz q1 q2=>(c4 z (by omega) (by omega)).trans (Co z hz q1 q2)
 have D2:=(c4 l (by omega) (by omega)).trans C2
 have D3:=(c4 _ (by omega) (by omega)).trans C3
 have D10:=(c4 p10 (by omega) (by omega)).trans C10
 have D12:=(c4 p12 (by omega) (by omega)).trans C12
 have Dm:=(c4 mb (by omega) (by omega)).trans Cm
 have D6:=c1.trans C6
 clear C2 C3 C4 C6 C7 C10 C12 Cm Co c4 gp gx
 refine cZ ?_;refine aP ?_;refine aq ?_;refine y4 ?_;refine yL ?_;refine yN ?_
 refine yC ?_
 refine FW.al (uQ F.p F.f105 (.of c2) _ ((i+1:Nat):Int) ((j+1:Nat):Int)) (fun _ _ _ q=>q) ?_
 rintro _ h4 hx4 ⟨rfl,hn4,gx4⟩
 have e3:({h3 with log:=[]}:Heap).next=h3.next:=rfl
 rw[e3]at hn4 gx4
 rw[e3]
 have Eo:∀z,z<H.next→z≠l→z≠mb→h4.get z=H.get z:=fun z hz q1 q2=>(hx4.old z (by omega)).trans (Do z hz q1 q2)
 have E2:=(hx4.old l (by omega)).trans D2
 have E3:=(hx4.old _ (by omega)).trans D3
 have E4:=(hx4.old _ (by omega)).trans c5
 have E10:=(hx4.old _ (by omega)).trans D10
 have E12:=(hx4.old _ (by omega)).trans D12
 have Em:=(hx4.old _ (by omega)).trans Dm
 have E6:h4.log=[mb]:=hx4.log.trans D6
 have E7:WF h4:=hx4.wf c2
 clear hx4 Do D2 D3 D6 D10 D12 Dm c1 c2 c5
 refine y3 ?_;refine aC ?_
 refine oS (q:=H.next+1) (all:=dD (i+1) (j+1)) (O:=fun d=> .cells [.bool (okC kerf (upd t (i+1,j+1) v0) v0 (i+1) (j+1) d (okL ws v0 (aZ (i+1) (j+1) kl 0) ok0))] true 1) (pe E2) (by rfl) (by rw[F.f141];rfl) (by omega) (by omega) E7 ?_ (by omega) ?_
 ·refine Au F.p F.f141 (.of (E7.push _)) (bx:=h3.next) (l:=h4.next) (N:=h4.next+1) (lo:=H.next+1) (a:=i+1) (b:=j+1) (Nat.le_refl _) (by show H.next+1≤h4.next+1;omega) (by omega) (by omega)
   (PW.yld F.p (by omega) fun done x H' hx hr' hlt hP=> ?_) (fun d H' hP=>(hP.old _ (by omega) (by omega)).trans gx4) ⟨fun z hz _=>z4 hz,(z4 (by omega)).trans E4,z3 _ _,Nat.lt_succ_self _⟩
  have hxc:=fy hx
  refine FW.mono' (yK F.p F.f106 hr' (x:=x) (t:=upd t (i+1,j+1) v0) (o:=okC kerf (upd t (i+1,j+1) v0) v0 (i+1) (j+1) done (okL ws v0 (aZ (i+1) (j+1) kl 0) ok0)) (r:=okC kerf (upd t (i+1,j+1) v0) v0 (i+1) (j+1) (done++[x]) (okL ws v0 (aZ (i+1) (j+1) kl 0) ok0)) (by rw[hlk];exact Ec ..) (by omega) (by omega) (by omega) (by omega) hk (hsum x hx) hP.loop hP.obj ((hP.old p10 (by omega) (by omega)).trans E10) ((hP.old p12 (by omega) (by omega)).trans E12) ((hP.old H.next (by omega) (by omega)).trans E3) ((hP.old mb (by omega) (by omega)).trans Em) ((hP.old bb (by omega) (by omega)).trans ((Eo bb k3 n3 m3).trans gb))) ?_
  rintro r H'' ⟨q1,q2,q3,q4⟩
  exact⟨q1,q2,q3,q4⟩
 intro h5 c1 c2 c3 c4 c5
 have Go:∀z,z<H.next→z≠l→z≠mb→h5.get z=H.get z:=fun z hz q1 q2=>(c4 z (by omega) (by omega)).trans (Eo z hz q1 q2)
 have G2:=(c4 l (by omega) (by omega)).trans E2
 have Gm:=(c4 mb (by omega) (by omega)).trans Em
 have G6:=c1.trans E6
 have G8:=(Go p8 k5 n5 m1).trans g8
 have G9:=(Go p9 k6 n6 m2).trans g9
 have c3':H.next≤h5.next:=by omega
 have hbk:okC kerf (upd t (i+1,j+1) v0) v0 (i+1) (j+1) (dD (i+1) (j+1)) (okL ws v0 (aZ (i+1) (j+1) kl 0) ok0)=bok kerf ws kl t (i+1) (j+1) v0:=by unfold bok;rw[hok0]
 rw[hbk]at c5
 clear E2 E3 E4 E6 E7 E10 E12 Em Eo c4 gx4 hbk g7 g10 g12 gb hks hws hok0 hlk hsum
 generalize bok kerf ws kl t (i+1) (j+1) v0=ok at*
 cases ok with
 |true=>
  refine cZ ?_;refine aP ?_;refine y4 ?_;refine yL ?_;refine yA ?_;refine y3 ?_;refine yX ?_;refine aB ?_;refine cZ ?_
  refine⟨⟨_,G2,rfl⟩,fun z hz=> ?_, .inl ⟨rfl,?_⟩⟩
  ·rw[G6,List.mem_singleton]at hz
   rw[hz];exact⟨hlo.1,hN.1⟩
  ·intro h6 hn6 hag hl6
   refine⟨fun z hz hne=> ?_,(hag mb k9 n9).trans Gm,hn6,rfl⟩
   by_cases hz2:z=l
   ·rw[hz2];exact hl6.trans gl.symm
   ·exact(hag z hz hz2).trans (Go z hz hz2 hne)
 |false=>
  refine cZ ?_;refine aP ?_;refine y4 ?_;refine yL ?_;refine yA ?_;refine y3 ?_;refine yY ?_;refine y4 ?_
  refine yS ?_
  refine yS ?_;refine y3 ?_;refine aH ?_;refine iD ?_
  refine⟨⟨_,by(simp(disch:=first|omega|(simp only[z1,z2];omega))only[z3,z4,z5,z6,z7,z1,z2, *];exact rfl),rfl⟩,fun z hz=> ?_, .inr ⟨rfl,?_⟩⟩
  ·rcases jh hz with rfl|hz
   ·exact⟨hlo.2.2.1,hN.2.2.1⟩
   ·rcases jh hz with rfl|hz
    ·exact⟨hlo.2.1,hN.2.1⟩
    ·rw[G6,List.mem_singleton]at hz
     rw[hz];exact⟨hlo.1,hN.1⟩
  ·intro h6 hn6 hag hl6
   exact⟨hl6,(hag p8 n5).trans (by(simp(disch:=first|omega|(simp only[z1,z2];omega))only[z3,z4,z5,z6,z7,z1,z2, *];exact rfl)),(hag p9 n6).trans (by(simp(disch:=first|omega|(simp only[z1,z2];omega))only[z3,z4,z5,z6,z7,z1,z2, *];exact rfl)),rfl⟩
end Go.A.Pk
end
section
namespace Go.A.Pk
def pos(t:Tab):Tab:=t.map fun e=>(e.1,if e.2<0 then 0 else e.2)
structure Bw (W:Int) (t:Tab):Prop where
 up:Bd W (pos t)
 low:∀e∈t,never≤e.2
end Go.A.Pk
end
section
set_option maxRecDepth 100000
namespace Go.A.Pk
variable {T:Nat→Option ah}
end Go.A.Pk
end
section
namespace Go.A.Pk
def UF(kerf:Int)(ws:List Int)(kl:List Kd)(kind:Nat):Nat→Int×Int→Int
 |0,_=>never
 |n+1,p=>if 1≤p.1∧1≤p.2 then foldM (fun x=>mx (UF kerf ws kl kind n (cg x p.1.toNat p.2.toNat)+V kerf ws kl (cm kerf x p.1.toNat p.2.toNat)) (V kerf ws kl (cg x p.1.toNat p.2.toNat)+UF kerf ws kl kind n (cm kerf x p.1.toNat p.2.toNat))) (dD p.1.toNat p.2.toNat) (foldM (KV ws kind) (aZ p.1.toNat p.2.toNat kl 0) never)else never
variable {kerf:Int} {ws ws':List Int} {kl:List Kd} {kind:Nat}
def U(kerf:Int)(ws:List Int)(kl:List Kd)(kind:Nat)(p:Int×Int):Int:=UF kerf ws kl kind (sz p) p
structure MW (kind:Nat) (d:Int) (ws ws':List Int):Prop where
 pos:0≤d
 here:ws'.getD kind 0=ws.getD kind 0+d
 other:∀i,i≠kind→ws'.getD i 0=ws.getD i 0
end Go.A.Pk
end
section
set_option maxRecDepth 100000
namespace Go.A.Pk
variable {T:Nat→Option ah}
theorem DM(l:List Int):(ints l).length=l.length:=by simp[ints]
theorem EO{xs:List Int}{i:Nat}{z:Int}(hi:i<xs.length):(Nat.beq (cI (cellsOf (.int .i64 z))) 1&&Nat.ble (0+i*1+1) (cI (ints xs))&&fB (cellsOf (.int .i64 z)))=true:=by
 simp[cellsOf,fB,dF,DM];omega
theorem wM{xs:List Int}{i:Nat}{z:Int}:cW (ints xs) (0+i*1) (cellsOf (.int .i64 z))=ints (xs.set i z):=by
 simp[cellsOf,cW,jE,ints,List.map_set]
end Go.A.Pk
end
section
namespace Go.A.Pk
def KU(l:List Kd):List Int:=l.map (·.bq)
def wsM(l:List Kd)(kind:Nat)(more:Int):List Int:=(KU l).set kind ((KU l).getD kind 0+more)
def kw(kerf:Int)(l:List Kd)(kind:Nat)(p:Int×Int)(more:Int):Int:=U kerf (wsM l kind more) l kind p
def kb(kerf:Int)(l:List Kd)(kind:Nat)(p:Int×Int)(more:Int):Int:=V kerf (wsM l kind more) l p
end Go.A.Pk
end
section
set_option maxRecDepth 100000
namespace Go.A.Pk
variable {T:Nat→Option ah}
end Go.A.Pk
end
section
set_option maxRecDepth 100000
namespace Go.A.Pk
variable {T:Nat→Option ah}
def GG(f:Nat→Nat→Int):List Int:=(List.range 289).map fun i=>f (i / 17) (i % 17)
theorem ud{a b:Nat}:∀{l:List Kd} {i:Nat} {x:Nat×Nat},x∈aZ a b l i→i≤x.2∧∃k,l[x.2-i]? =some k∧x∈cB k x.2 a b
 |[],_,_,h=>by cases h
 |k::l,i,x,h=>by
  simp only[aZ,List.mem_append]at h
  rcases h with h|h
  ·have e:=rE x h
   refine⟨by omega,k,by rw[e,Nat.sub_self];rfl,by rw[e];exact h⟩
  ·obtain⟨h1,k',h2,h3⟩:=ud h
   refine⟨by omega,k',?_,h3⟩
   rw[show x.2-i=(x.2-(i+1))+1 by omega]
   exact h2
def td(k:Kd)(a b:Nat):Bool:=decide (k.w=a∧k.h=b∨k.j4=true∧k.h=a∧k.w=b)
end Go.A.Pk
end
section
set_option maxRecDepth 100000
namespace Go.A.Pk
variable {T:Nat→Option ah}
structure Vt (q:Nat) (hA h':Heap) (f:Nat→Nat→Int):Prop where
 old:∀z,z<q→h'.get z=hA.get z
 obj:h'.get q=some (.cells (ints (GG f)) true 1)
 log:h'.log=[]
 wf:WF h'
 nx:q<h'.next
end Go.A.Pk
end
