/- Walks of functions, plain laws, the table. -/
import Derived.Test.YteafdpbjocdbbaaGreatDoorHU0
import Derived.Test.YteafdpbjocdbbaaGreatDoorHD
import Derived.Test.YteafdpbjocdbbaaGreatDoorHF
set_option linter.all false
section
set_option maxRecDepth 100000
namespace Go.A.Pk
variable {T:Nat→Option ah}
def vZ:aJ:=(.region [g 8 (.new [(.int .i64 0),(.int .i64 0)]),⟨none, .store 2 (t 8) (t 18),none⟩] [3,7,8])
def qO:aJ:=(.block 1 (.seq (.region [g 9 (.new [(.int .i64 0)]),⟨none, .store 1 (t 9) (.const (.int .i64 0)),none⟩] [3,7,8,9])
 (.seq (.seq (.region [g 19 (.load none (t 3)),g 20 (.load (some 2) (t 8)),g 21 (.call (.func 104) [(t 19),(t 20)])] [3,7,8,9,21])
 (.block 2 (.rangeFunc (t 21) [22] (.region [g 10 (.new [(.int .u8 0),(.int .i64 0)]),⟨none, .store 2 (t 10) (t 22),none⟩] [3,9,10]) (.block 3 (.draw [g 23 (.load none (t 9)),g 24 (.load none (t 3)),g 25 (.cz (t 24)),g 26 (.cH 2 (t 25)),g 27 (.load none (t 26)),g 28 (.cH 1 (t 10)),g 29 (.load none (t 28)),g 30 (.bp 1 (t 27) (t 29)),g 31 (.load none (t 30)),g 32 (.ei true [(t 23),(t 31)]),⟨none, .store 1 (t 9) (t 32),none⟩] [0,1,2,3,4,5,6,7,8,9,10] [0,0,2,6,14,0,32,126,254,511,1023] [])))))
 (.seq (.seq (.region [g 33 (.load none (t 3)),g 34 (.load (some 2) (t 8)),g 35 (.call (.func 105) [(t 33),(t 34)])] [3,7,8,9,35])
 (.block 4 (.rangeFunc (t 35) [36] (.region [g 11 (.new [(.int .u8 0),(.int .i64 0)]),⟨none, .store 2 (t 11) (t 36),none⟩] [3,7,8,9,11]) (.block 5 (.seq (.region [g 38 (.load none (t 3)),g 39 (.load (some 2) (t 8)),g 40 (.load (some 2) (t 11)),g 41 (.call (.func 106) [(t 38),(t 39),(t 40)]),g 37 (.mov (t 41)),g 42 (.extract (t 37) 0),g 43 (.extract (t 37) 1),g 12 (.new [(.int .i64 0),(.int .i64 0)]),g 13 (.new [(.int .i64 0),(.int .i64 0)]),⟨none, .store 2 (t 12) (t 42),none⟩,⟨none, .store 2 (t 13) (t 43),none⟩] [7,9,12,13])
 (.draw [g 44 (.load none (t 9)),g 45 (.load none (t 7)),g 46 (.load (some 2) (t 12)),g 47 (.lookup true [.i .i64, .i .i64] (.int .i64 0) false (t 45) (t 46)),g 48 (.load none (t 7)),g 49 (.load (some 2) (t 13)),g 50 (.lookup true [.i .i64, .i .i64] (.int .i64 0) false (t 48) (t 49)),g 51 (.bin (.num .add) (t 47) (t 50)),g 52 (.ei true [(t 44),(t 51)]),⟨none, .store 1 (t 9) (t 52),none⟩] [0,1,2,3,4,5,6,7,8,9] [0,0,0,6,0,0,48,126,255,511] []))))))
 (.region [g 53 (.load none (t 7)),g 54 (.load (some 2) (t 8)),g 55 (.load none (t 9)),⟨none, .iJ true [.i .i64, .i .i64] (t 53) (t 54) (t 55),none⟩] [])))))
def LD:aJ:=(.region [g 10 (.new [(.int .u8 0),(.int .i64 0)]),⟨none, .store 2 (t 10) (t 22),none⟩] [3,9,10])
def Iu:aJ:=(.block 3 (.draw [g 23 (.load none (t 9)),g 24 (.load none (t 3)),g 25 (.cz (t 24)),g 26 (.cH 2 (t 25)),g 27 (.load none (t 26)),g 28 (.cH 1 (t 10)),g 29 (.load none (t 28)),g 30 (.bp 1 (t 27) (t 29)),g 31 (.load none (t 30)),g 32 (.ei true [(t 23),(t 31)]),⟨none, .store 1 (t 9) (t 32),none⟩] [0,1,2,3,4,5,6,7,8,9,10] [0,0,2,6,14,0,32,126,254,511,1023] []))
def GZ:aJ:=(.region [g 11 (.new [(.int .u8 0),(.int .i64 0)]),⟨none, .store 2 (t 11) (t 36),none⟩] [3,7,8,9,11])
def AE:aJ:=(.block 5 (.seq (.region [g 38 (.load none (t 3)),g 39 (.load (some 2) (t 8)),g 40 (.load (some 2) (t 11)),g 41 (.call (.func 106) [(t 38),(t 39),(t 40)]),g 37 (.mov (t 41)),g 42 (.extract (t 37) 0),g 43 (.extract (t 37) 1),g 12 (.new [(.int .i64 0),(.int .i64 0)]),g 13 (.new [(.int .i64 0),(.int .i64 0)]),⟨none, .store 2 (t 12) (t 42),none⟩,⟨none, .store 2 (t 13) (t 43),none⟩] [7,9,12,13])
 (.draw [g 44 (.load none (t 9)),g 45 (.load none (t 7)),g 46 (.load (some 2) (t 12)),g 47 (.lookup true [.i .i64, .i .i64] (.int .i64 0) false (t 45) (t 46)),g 48 (.load none (t 7)),g 49 (.load (some 2) (t 13)),g 50 (.lookup true [.i .i64, .i .i64] (.int .i64 0) false (t 48) (t 49)),g 51 (.bin (.num .add) (t 47) (t 50)),g 52 (.ei true [(t 44),(t 51)]),⟨none, .store 1 (t 9) (t 52),none⟩] [0,1,2,3,4,5,6,7,8,9] [0,0,0,6,0,0,48,126,255,511] [])))
abbrev Tab:=List ((Nat×Nat)×Int)
def dI(t:Tab):List (Value×Value):=t.map fun e=>(dV e.1, .int .i64 e.2)
def isKey(x:Int×Int)(e:(Nat×Nat)×Int):Bool:=decide (x.1=e.1.1∧x.2=e.1.2)
def look:Tab→Int×Int→Int
 |[],_=>0
 |e::t,x=>if isKey x e then e.2 else look t x
def upd:Tab→Nat×Nat→Int→Tab
 |[],x,v=>[(x,v)]
 |e::t,x,v=>if isKey (x.1,x.2) e then(x,v)::t else e::upd t x v
def mx(a b:Int):Int:=if b>a then b else a
def L2:List dw:=[.i .i64, .i .i64]
theorem qt(x:Int×Int)(e:(Nat×Nat)×Int):mG true L2 (cT x) (dV e.1)=some (isKey x e):=by
 show aO L2 [.int .i64 x.1, .int .i64 x.2] [.int .i64 e.1.1, .int .i64 e.1.2]=_
 rw[L2,fF];rfl
theorem uq(x:Int×Int):∀(t:Tab) (i:Nat),(j5 true L2 (cT x) i (dI t)=some none∧look t x=0)∨∃j,j5 true L2 (cT x) i (dI t)=some (some (j, .int .i64 (look t x)))
 |[],i=> .inl ⟨rfl,rfl⟩
 |e::t,i=>by
  simp only[dI,List.map_cons,j5,qt,look]
  cases isKey x e with
  |true=>exact .inr ⟨i,rfl⟩
  |false=>exact uq x t (i+1)
theorem w6(x:Nat×Nat)(v:Int):∀(t:Tab) (i:Nat),(j5 true L2 (dV x) i (dI t)=some none∧upd t x v=t++[(x,v)])∨∃j u,j5 true L2 (dV x) i (dI t)=some (some (i+j,u))∧dI (upd t x v)=oB (dI t) j (dV x, .int .i64 v)
 |[],i=> .inl ⟨rfl,rfl⟩
 |e::t,i=>by
  have hk:mG true L2 (dV x) (dV e.1)=some (isKey (x.1,x.2) e):=qt (x.1,x.2) e
  simp only[dI,List.map_cons,j5,hk,upd]
  cases isKey (x.1,x.2) e with
  |true=>exact .inr ⟨0,_,rfl,rfl⟩
  |false=>
   rcases w6 x v t (i+1)with⟨h1,h2⟩|⟨j,u,h1,h2⟩
   ·exact .inl ⟨h1,by simp[h2]⟩
   ·refine .inr ⟨j+1,u,?_,?_⟩
    ·rw[show i+(j+1)=i+1+j by omega];exact h1
    ·simp only[dI]at h2
     simp[oB,h2]
theorem nV(x:Int×Int):iU true L2 (cT x)=true:=by
 simp[iU,cT,mQ,cellsOf,L2,aO,fZ]
theorem qI(x:Nat×Nat):iU true L2 (dV x)=true:=nV (x.1,x.2)
theorem dH{base:Nat}{h:Heap}{e:Env}{m k:Operand}{r:Nat}{t:Tab}{x:Int×Int}(hm:ev h e m=some (.map (some r)))(hk:ev h e k=some (cT x))(hr:h.get r=some (.map (dI t))):aop h base e (.lookup true [.i .i64, .i .i64] (.int .i64 0) false m k)=some (.val (.int .i64 (look t x)) h):=by
 have e2:([.i .i64, .i .i64]:List dw)=L2:=rfl
 rcases uq x t 0 with⟨h1,h2⟩|⟨j,h1⟩
 ·simp only[aop,hm,hk,hr,e2,nV,h1,h2,cond_true,cond_false]
 ·simp only[aop,hm,hk,hr,e2,nV,h1,cond_true,cond_false]
theorem AU{base:Nat}{h:Heap}{e:Env}{m k v:Operand}{r:Nat}{t:Tab}{x:Nat×Nat}{z:Int}(hm:ev h e m=some (.map (some r)))(hk:ev h e k=some (dV x))(hv:ev h e v=some (.int .i64 z))(hr:h.get r=some (.map (dI t))):aop h base e (.iJ true [.i .i64, .i .i64] m k v)=some (.val (.tuple #[]) (h.wr base r (.map (dI (upd t x z))))):=by
 have e2:([.i .i64, .i .i64]:List dw)=L2:=rfl
 rcases w6 x z t 0 with⟨h1,h2⟩|⟨j,u,h1,h2⟩
 ·have h3:dg (dI t) [(dV x, .int .i64 z)]=dI (upd t x z):=by rw[h2,dB];simp[dI]
  simp only[aop,hm,hk,hv,hr,e2,qI,h1,cond_true,h3]
 ·rw[Nat.zero_add]at h1
  simp only[aop,hm,hk,hv,hr,e2,qI,h1,cond_true,←h2]
theorem Ar{base:Nat}{h:Heap}{e:Env}{x y:Operand}{a b:Int}(hx:ev h e x=some (.int .i64 a))(hy:ev h e y=some (.int .i64 b)):aop h base e (.ei true [x,y])=some (.val (.int .i64 (mx a b)) h):=by
 simp only[aop,evs,hx,hy,mmA,if_true,bV,mx]
theorem bF{H:Heap}{a l:Nat}{vs:List Value}{o:Bool}{s:Nat}{e:Env}{ps:List Nat}{ag b:aJ}{st:Nat}{p:bQ}(ha:H.get a=some (.cells vs o s))(hl:H.get l=some (.loop e ps ag b st p)):a≠l:=by
 rintro rfl;rw[ha]at hl;cases hl
theorem mW{H:Heap}{a l:Nat}{vs:List (Value×Value)}{e:Env}{ps:List Nat}{ag b:aJ}{st:Nat}{p:bQ}(ha:H.get a=some (.map vs))(hl:H.get l=some (.loop e ps ag b st p)):a≠l:=by
 rintro rfl;rw[ha]at hl;cases hl
theorem mD{H:Heap}{a l:Nat}{vs:List Value}{o:Bool}{s:Nat}{ms:List (Value×Value)}(ha:H.get a=some (.cells vs o s))(hl:H.get l=some (.map ms)):a≠l:=by
 rintro rfl;rw[ha]at hl;cases hl
theorem eX{base:Nat}{e:Env}{h:Heap}{ops:List aQ}{bf:List Nat}{rs rs':List Rec}{Q:Env→Heap→Prop}{i mask:Nat}{is:List Nat}{dst:Option Nat}{x y:Operand}{n b o sz:Nat}{vs ws:List Value}{v:Value}{g:Option (Nat×Bool)}{er:Env}(ho:bG ops i=some ⟨dst, .store n x y,g⟩)(hm:bG bf i=some mask)
 (he:bS e (bR ⟨dst, .store n x y,g⟩)=er)(hw:bA er g=some true)(hx:ev {h with log:=[]} er x=some (.pointer (some ⟨b,o,none⟩)))(hy:ev {h with log:=[]} er y=some v)(hb:h.get b=some (.cells vs true sz))
 (hc:(Nat.beq (cI (cellsOf v)) n&&Nat.ble (o+n) (cI vs)&&fB (cellsOf v))=true)(hws:cW vs o (cellsOf v)=ws)(hlt:b<h.next)(hrs:bg (h.wr base b (.cells ws true sz)) base [b] mask rs=some rs')
 (H:WD T base ops bf Q is rs' (bK e dst (.tuple #[])) (h.wr base b (.cells ws true sz))):WD T base ops bf Q (i::is) rs e h:=
 jJ ho hm he hw rfl (jF (h:={h with log:=[]}) hx hy hb hc hws) (yQ hlt _) (sJ hlt _) hrs H
theorem gX{h:Heap}{base q:Nat}{o:bE}(hl:h.log=[])(hq:q<base):(h.wr base q o).log=[q]:=by
 simp only[Heap.wr,gP hq,hl,eE,cond_true,cond_false]
def ints(l:List Int):List Value:=l.map fun x=> .int .i64 x
theorem sU{l:List Int}{i:Nat}(hi:i<l.length):(ints l)[i]? =some (.int .i64 (l.getD i 0)):=by
 simp[ints,List.getD,List.getElem?_eq_getElem hi]
set_option maxHeartbeats 4000000 in
theorem zQ(hp:bC T){H:Heap}(hr:Rdy H){q p3 bb l2 n wc:Nat}{x7 x8 fv s1 s2:Value}{wa:Option Addr}{own:Bool}{ws:List Int}{m:Int}{x:Nat×Nat}(hx:x.2<n)(gl:H.get l2=some (.loop [(3, .pointer (some ⟨p3,0,none⟩)),(7,x7),(8,x8),(9, .pointer (some ⟨q,0,none⟩)),(21,fv)] [22] LD Iu 0 .normal))
 (gq:H.get q=some (.cells [.int .i64 m] true 1))(g3:H.get p3=some (.cells [.pointer (some ⟨bb,0,none⟩)] true 1))(gb:H.get bb=some (.cells [s1,s2, .slice wa n wc] own 1))(hws:aA H 1 (.slice wa n wc) n (ints ws)):
 FW T (.yield l2) [eI x] H fun r H'=>r= .ret (.bool true)∧(∀z∈H'.log,q≤z∧z<q+1)∧(∀z,z<H.next→z≠q→H'.get z=H.get z)∧H'.get q=some (.cells [.int .i64 (mx m (ws.getD x.2 0))] true 1):=by
 have hlen:ws.length=n:=by have:=hws.len;simp[ints]at this;omega
 rcases hws.inv with⟨_,_,h0,_⟩|⟨b0,o0,cap,hv,s,hcap⟩
 ·omega
 cases hv
 obtain⟨vs,own',t0,g5,g6⟩:=ff s (sU (l:=ws) (i:=x.2) (by omega))
 clear s
 have n1:=bF gq gl
 have n2:=bF g3 gl
 have n3:=bF gb gl
 have n4:=bF g5 gl
 have k1:=WF.aT hr.wf gq
 have k2:=WF.aT hr.wf g3
 have k3:=WF.aT hr.wf gb
 have k4:=WF.aT hr.wf g5
 have k5:=WF.aT hr.wf gl
 refine FW.rP hp (R:=fun H'=>(∀z,z<H.next→z≠q→H'.get z=H.get z)∧H'.get q=some (.cells [.int .i64 (mx m (ws.getD x.2 0))] true 1)) gl rfl k5 ?_
 unfold LD eI
 refine aD ?_;refine af cN ?_;refine yS ?_;refine fo ?_
 refine y1 ?_
 refine⟨rfl,by(simp(disch:=first|omega|(simp only[z1,z2];omega))only[z3,z4,z5,z6,z7,z1,z2, *];exact rfl),?_⟩
 unfold Iu
 refine aC ?_;refine cG ?_;refine qL ?_
 refine qL ?_
 refine ak rfl rfl rfl (by exact rfl) (by exact rfl) (by exact rfl) (cC (by exact rfl)) ?_;refine qF ?_
 refine qL ?_
 refine qF ?_
 refine qL ?_
 refine ak rfl rfl rfl (by exact rfl) (by exact rfl) (by exact rfl) (aN (by exact rfl) (by exact rfl) hx) ?_
 skip
 refine ak rfl rfl rfl (by exact rfl) (by exact rfl) (by exact rfl) (bt (by exact rfl) (by(simp(disch:=first|omega|(simp only[z1,z2];omega))only[z3,z4,z5,z6,z7,z1,z2, *];exact rfl)) g6) ?_
 refine ak rfl rfl rfl (by exact rfl) (by exact rfl) (by exact rfl) (Ar (by exact rfl) (by exact rfl)) ?_
 refine eX (ws:=[.int .i64 (mx m (ws.getD x.2 0))]) rfl rfl rfl (by exact rfl) (by exact rfl) (by exact rfl) (by(simp(disch:=first|omega|(simp only[z1,z2];omega))only[z3,z4,z5,z6,z7,z1,z2, *];exact rfl)) (by exact rfl) (by exact rfl) (by(simp only[z1,z2];omega)) (by apply aa rfl;apply aa rfl;apply aa rfl;apply aa rfl;apply aa rfl;apply aa rfl;apply aa rfl;apply aa rfl;apply aa rfl;apply aa rfl;exact bT) ?_
 refine cF ?_;refine y1 ?_;refine cZ ?_
 refine⟨rfl,⟨_,by(simp(disch:=first|omega|(simp only[z1,z2];omega))only[z3,z4,z5,z6,z7,z1,z2, *];exact rfl),rfl⟩,?_,?_⟩
 ·intro z hz
  rw[gX (by exact(Heap.aI (Nat.zero_le _)).trans ((Heap.aI (Nat.le_refl _)).trans hr.log)) k1]at hz
  simp at hz;omega
 ·intro h5 hn hag hl5
  refine⟨fun z hz hne=> ?_,(hag q k1 n1).trans (by(simp(disch:=first|omega|(simp only[z1,z2];omega))only[z3,z4,z5,z6,z7,z1,z2, *];done))⟩
  by_cases hz2:z=l2
  ·rw[hz2];exact hl5.trans gl.symm
  ·exact(hag z hz hz2).trans ((z5 hne).trans ((z5 hz2).trans ((z5 (by omega)).trans (z4 hz))))
set_option maxHeartbeats 8000000 in
theorem BO(hp:bC T)(f106:T 106=some f106){H:Heap}(hr:Rdy H){q p3 p7 p8 bb mb l2 a b:Nat}{fv s1 s3:Value}{own:Bool}{kerf m:Int}{t:Tab}{x:Nat×Nat}(hx:x.1=3∨x.1=4)(hx2:x.2<1000)(ha:a<1000)(hb:b<1000)(hk:0≤kerf∧kerf≤100)
 (hsum: -4611686018427387904≤look t (cg x a b)+look t (cm kerf x a b)∧look t (cg x a b)+look t (cm kerf x a b)≤4611686018427387904)(gl:H.get l2=some (.loop [(3, .pointer (some ⟨p3,0,none⟩)),(7, .pointer (some ⟨p7,0,none⟩)),(8, .pointer (some ⟨p8,0,none⟩)),(9, .pointer (some ⟨q,0,none⟩)),(35,fv)] [36] GZ AE 0 .normal))
 (gq:H.get q=some (.cells [.int .i64 m] true 1))(g3:H.get p3=some (.cells [.pointer (some ⟨bb,0,none⟩)] true 1))(g7:H.get p7=some (.cells [.map (some mb)] true 1))(g8:H.get p8=some (.cells [.int .i64 a, .int .i64 b] true 1))(gb:H.get bb=some (.cells [s1, .int .i64 kerf,s3] own 1))(gm:H.get mb=some (.map (dI t)))(h7:p7≠q):
 FW T (.yield l2) [eI x] H fun r H'=>r= .ret (.bool true)∧(∀z∈H'.log,q≤z∧z<q+1)∧(∀z,z<H.next→z≠q→H'.get z=H.get z)∧H'.get q=some (.cells [.int .i64 (mx m (look t (cg x a b)+look t (cm kerf x a b)))] true 1):=by
 have n1:=bF gq gl
 have n2:=bF g3 gl
 have n3:=bF gb gl
 have n4:=bF g7 gl
 have n5:=bF g8 gl
 have n6:=mW gm gl
 have n7:=mD gq gm
 have k1:=WF.aT hr.wf gq
 have k2:=WF.aT hr.wf g3
 have k3:=WF.aT hr.wf gb
 have k4:=WF.aT hr.wf g7
 have k5:=WF.aT hr.wf gl
 have k6:=WF.aT hr.wf g8
 have k7:=WF.aT hr.wf gm
 refine FW.rP hp (R:=fun H'=>(∀z,z<H.next→z≠q→H'.get z=H.get z)∧H'.get q=some (.cells [.int .i64 (mx m (look t (cg x a b)+look t (cm kerf x a b)))] true 1)) gl rfl k5 ?_
 unfold GZ
 refine aD ?_;refine af cN ?_;refine yS ?_;refine fo ?_
 refine y1 ?_
 refine⟨rfl,by(simp(disch:=first|omega|(simp only[z1,z2];omega))only[z3,z4,z5,z6,z7,z1,z2, *];exact rfl),?_⟩
 unfold AE
 refine aC ?_;refine y4 ?_;refine yL ?_
 refine yN ?_
 refine yN ?_
 refine yC ?_
 have gB:(((H.push (.cells [.int .u8 0, .int .i64 0] true 1)).wr H.next H.next (.cells [.int .u8 x.1, .int .i64 x.2] true 1)).wr 0 l2 (.loop [(3, .pointer (some ⟨p3,0,none⟩)),(7, .pointer (some ⟨p7,0,none⟩)),(8, .pointer (some ⟨p8,0,none⟩)),(9, .pointer (some ⟨q,0,none⟩)),(35,fv)] [36] GZ AE 1 .normal)).get bb=some (.cells [s1, .int .i64 kerf,s3] own 1):=by(simp(disch:=first|omega|(simp only[z1,z2];omega))only[z3,z4,z5,z6,z7,z1,z2, *];done)
 have hw:WF (((H.push (.cells [.int .u8 0, .int .i64 0] true 1)).wr H.next H.next (.cells [.int .u8 x.1, .int .i64 x.2] true 1)).wr 0 l2 (.loop [(3, .pointer (some ⟨p3,0,none⟩)),(7, .pointer (some ⟨p7,0,none⟩)),(8, .pointer (some ⟨p8,0,none⟩)),(9, .pointer (some ⟨q,0,none⟩)),(35,fv)] [36] GZ AE 1 .normal)):=((hr.wf.push _).as (AS.wr _ _ _ _)).as (AS.wr _ _ _ _)
 refine FW.pu (oR hp f106 (.of hw) gB (Nat.lt_succ_of_lt k3) hk hx hx2 ha hb) ?_
 refine yM ?_;refine yE ?_;refine yE ?_;refine af cN ?_;refine af cN ?_
 refine yS ?_
 refine yS ?_;refine y3 ?_;refine cG ?_
 refine qL ?_
 refine qL ?_
 refine qN ?_
 refine ak rfl rfl rfl (by exact rfl) (by exact rfl) (by exact rfl) (dH (x:=cg x a b) (by exact rfl) (by exact rfl) (by(simp(disch:=first|omega|(simp only[z1,z2];omega))only[z3,z4,z5,z6,z7,z1,z2, *];exact rfl))) ?_
 refine qL ?_
 refine qN ?_
 refine ak rfl rfl rfl (by exact rfl) (by exact rfl) (by exact rfl) (dH (x:=cm kerf x a b) (by exact rfl) (by exact rfl) (by(simp(disch:=first|omega|(simp only[z1,z2];omega))only[z3,z4,z5,z6,z7,z1,z2, *];exact rfl))) ?_
 refine ak rfl rfl rfl (by exact rfl) (by exact rfl) (by exact rfl) (cE (by exact rfl) (by exact rfl) (rQ (bY (by omega) (by omega)))) ?_
 refine ak rfl rfl rfl (by exact rfl) (by exact rfl) (by exact rfl) (Ar (by exact rfl) (by exact rfl)) ?_
 refine eX (ws:=[.int .i64 (mx m (look t (cg x a b)+look t (cm kerf x a b)))]) rfl rfl rfl (by exact rfl) (by exact rfl) (by exact rfl) (by(simp(disch:=first|omega|(simp only[z1,z2];omega))only[z3,z4,z5,z6,z7,z1,z2, *];exact rfl)) (by exact rfl) (by exact rfl) (by(simp only[z1,z2];omega)) (by apply aa rfl;apply aa rfl;apply aa rfl;apply aa rfl;apply aa rfl;apply aa rfl;apply aa rfl;apply aa rfl;apply aa rfl;exact bT) ?_
 refine cF ?_;refine y1 ?_;refine cZ ?_
 refine⟨rfl,⟨_,by(simp(disch:=first|omega|(simp only[z1,z2];omega))only[z3,z4,z5,z6,z7,z1,z2, *];exact rfl),rfl⟩,?_,?_⟩
 ·intro z hz
  rw[gX (by simp(disch:=first|omega|(simp only[z1,z2];omega))only[Heap.aI,Heap.cM];exact hr.log) k1]at hz
  simp at hz;omega
 ·intro h5 hn hag hl5
  refine⟨fun z hz hne=> ?_,(hag q k1 n1).trans (by(simp(disch:=first|omega|(simp only[z1,z2];omega))only[z3,z4,z5,z6,z7,z1,z2, *];done))⟩
  by_cases hz2:z=l2
  ·rw[hz2];exact hl5.trans gl.symm
  ·exact(hag z hz hz2).trans (by simp(disch:=first|omega|(simp only[z1,z2];omega))only[z5,z4])
end Go.A.Pk
end
section
set_option maxRecDepth 100000
namespace Go.A.Pk
variable {T:Nat→Option ah}
theorem mV{base:Nat}:∀{m l:List Nat},dG base m→ax base l m=l
 |[],_,_=>rfl
 |b::m,l,h=>by
  have hb:=h b (List.mem_cons_self ..)
  simp only[ax,rJ (show¬b<base by omega),cond_false]
  exact mV fun x hx=>h x (List.mem_cons_of_mem _ hx)
theorem aA.agree{h h':Heap}{sz n:Nat}{v:Value}{cs:List Value}(s:aA h sz v n cs)(hn:h.next≤h'.next)(ha:∀b vs o t,b<h.next→h.get b=some (.cells vs o t)→h'.get b=h.get b):aA h' sz v n cs:=by
 cases s with
 |nil=>exact .nil
 |mem s hc=>
  obtain⟨vs,own,t,h1,h2⟩:=s.obj
  exact .mem ⟨Nat.lt_of_lt_of_le s.lt hn,⟨vs,own,t,(ha _ _ _ _ s.lt h1).trans h1,h2⟩,s.len⟩ hc
theorem PW.yld(hp:bC T){l2 q:Nat}{H0:Heap}{L:bE}{O:List (Nat×Nat)→bE}{V:Nat×Nat→Value}{all:List (Nat×Nat)}(hq:q<l2)
 (hround:∀done x H',x∈all→Rdy H'→l2<H'.next→PW l2 q H0 L O done H'→FW T (.yield l2) [V x] H' fun r H''=>r= .ret (.bool true)∧(∀z∈H''.log,q≤z∧z<q+1)∧(∀z,z<H'.next→z≠q→H''.get z=H'.get z)∧H''.get q=some (O (done++[x]))):
 Yld T q (l2+1) l2 V all (PW l2 q H0 L O)where
 nN:=fun done x H hx hr hN hP=>FW.mono' (FW.pM hp (hround done x H hx hr hN hP) hr.log) fun r H' ⟨hA,h1,h2,h3,h4⟩=>⟨h1,fun z hz=>by have:=h2 z hz;omega,⟨fun y hy hne=>(h3 y (by omega) hne).trans (hP.old y hy hne),h4,(h3 l2 (by omega) (by omega)).trans hP.loop,Nat.lt_of_lt_of_le hP.nx hA.next⟩⟩
 eF:=fun done H H' p hn h=>PW.eF hq done H H' p hn h
theorem mc{base:Nat}{rnd:Option Nat}{e:Env}{ds:Dfs}{Q:XQ}{h1:Heap}{f:Operand}{g q:Nat}{first cap:Array Value}{ps:List Nat}{asg body:aJ}{all:List (Nat×Nat)}{O:List (Nat×Nat)→bE}(hr:jy h1 rnd=true)(hf:ev h1 e f=some (.func (.func g) first cap))(hnc:fL (T g)=false)
 (hB:base≤h1.next)(hq:base≤q)(hlog:h1.log=[])(w1:WF h1)
 (HG:Gr T g (dg first.toList (dg [.func (.yield h1.next) #[] #[]] cap.toList)) {h1.push (.loop e ps asg body 0 .normal)with log:=[]} q fun v h'=>v= .tuple #[]∧PW h1.next q h1 (.loop e ps asg body 0 .normal) O all h')(hqn:q<h1.next)
 (K:∀h3,h3.log=[]→WF h3→h1.next≤h3.next→(∀z,z<h1.next→z≠q→h3.get z=h1.get z)→h3.get q=some (O all)→Q .normal e ds h3):WE T base rnd (.rangeFunc f ps asg body) Q e ds h1:=by
 refine oI hr hf hnc (CW.mono HG ?_)
 rintro r h2 ⟨hk,v,rfl,rfl,hP⟩
 refine⟨_,rfl,_,_,_,_,_,_,hP.loop,rfl,?_⟩
 have hl2:dG base h2.log:=fun z hz=>Nat.le_trans hq (hk.log (dG.nil _) z hz)
 refine K _ ?_ ?_ ?_ (fun z hz hne=> ?_) ?_
 ·rw[Heap.aI hB]
  show ax base h1.log h2.log=[]
  rw[mV hl2,hlog]
 ·exact((hk.wf ((w1.push _).log _)).log _).as (AS.wr _ _ _ _)
 ·have:=hk.next
  have e1:h1.next+1≤h2.next:=this
  show h1.next≤h2.next
  omega
 ·exact(z5 (by omega)).trans (hP.old z hz hne)
 ·exact(z5 (by omega)).trans hP.obj
def ig(ws:List Int)(xs:List (Nat×Nat))(m:Int):Int:=xs.foldl (fun m x=>mx m (ws.getD x.2 0)) m
def zO(kerf:Int)(t:Tab)(a b:Nat)(xs:List (Nat×Nat))(m:Int):Int:=xs.foldl (fun m x=>mx m (look t (cg x a b)+look t (cm kerf x a b))) m
def val(kerf:Int)(ws:List Int)(kl:List Kd)(t:Tab)(a b:Nat):Int:=zO kerf t a b (dD a b) (ig ws (aZ a b kl 0) 0)
theorem xH(ws:List Int)(xs:List (Nat×Nat))(x:Nat×Nat)(m:Int):ig ws (xs++[x]) m=mx (ig ws xs m) (ws.getD x.2 0):=by simp[ig]
theorem Cu(kerf:Int)(t:Tab)(a b:Nat)(xs:List (Nat×Nat))(x:Nat×Nat)(m:Int):zO kerf t a b (xs++[x]) m=mx (zO kerf t a b xs m) (look t (cg x a b)+look t (cm kerf x a b)):=by simp[zO]
theorem rE{k:Kd}{i a b:Nat}:∀x∈cB k i a b,x.2=i:=by
 intro x hx
 unfold cB at hx
 simp only[List.mem_append]at hx
 rcases hx with hx|hx<;>split at hx<;>simp at hx<;>rw[hx]
theorem lK{a b:Nat}:∀{l:List Kd} {i:Nat},∀x∈aZ a b l i,x.2<i+l.length
 |[],i,x,hx=>by cases hx
 |k::l,i,x,hx=>by
  simp only[aZ,List.mem_append]at hx
  rcases hx with hx|hx
  ·rw[rE x hx];simp
  ·have:=lK x hx;simp;omega
theorem vz{c n:Nat}{x:Nat×Nat}(h:x∈row c n):x.1=c∧1≤x.2∧x.2≤n:=by
 simp only[row,List.mem_map,List.mem_range]at h
 obtain⟨i,hi,rfl⟩:=h
 exact⟨rfl,by simp,by simp;omega⟩
theorem fy{a b:Nat}{x:Nat×Nat}(h:x∈dD a b):(x.1=3∧1≤x.2∧x.2≤a-1)∨(x.1=4∧1≤x.2∧x.2≤b-1):=by
 simp only[dD,List.mem_append]at h
 exact h.imp vz vz
theorem WO.gen{base:Nat}{rnd:Option Nat}{Q:XQ}{ops:List aQ}{e:Env}{ds:Dfs}{h:Heap}(hK:∀hA,hA=h→WO T base rnd Q ops e ds hA):WO T base rnd Q ops e ds h:=hK h rfl
structure FnsV (T:Nat→Option ah):Prop where
 p:bC T
 f94:T 94=some f94
 f104:T 104=some f104
 f105:T 105=some f105
 f106:T 106=some f106
 f136:T 136=some f136
 f140:T 140=some f140
 f141:T 141=some f141
 f83:T 83=some f83
set_option maxHeartbeats 8000000 in
theorem yh(F:FnsV T){H:Heap}(hr:Rdy H){p3 pm mb bb l n c wc a b:Nat}{sa wa:Option Addr}{fv:Value}{kerf:Int}{ws:List Int}{kl:List Kd}{t:Tab}(ha:a<1000)(hb:b<1000)(hn:n<1000)(hk:0≤kerf∧kerf≤100)
 (hsum:∀x∈dD a b, -4611686018427387904≤look t (cg x a b)+look t (cm kerf x a b)∧look t (cg x a b)+look t (cm kerf x a b)≤4611686018427387904)(gl:H.get l=some (.loop [(3, .pointer (some ⟨p3,0,none⟩)),(7, .pointer (some ⟨pm,0,none⟩)),(17,fv)] [18] vZ qO 0 .normal))
 (g3:H.get p3=some (.cells [.pointer (some ⟨bb,0,none⟩)] true 1))(gm:H.get pm=some (.cells [.map (some mb)] true 1))(gt:H.get mb=some (.map (dI t)))(gb:H.get bb=some (.cells [.slice sa n c, .int .i64 kerf, .slice wa n wc] true 1))(hks:aA H 5 (.slice sa n c) n (kcs kl))(hws:aA H 1 (.slice wa n wc) n (ints ws)):
 FW T (.yield l) [dV (a,b)] H fun r H'=>r= .ret (.bool true)∧(∀z∈H'.log,mb≤z∧z<mb+1)∧(∀z,z<H.next→z≠mb→H'.get z=H.get z)∧H'.get mb=some (.map (dI (upd t (a,b) (val kerf ws kl t a b)))):=by
 have n2:=bF g3 gl
 have n3:=bF gb gl
 have n4:=bF gm gl
 have n6:=mW gt gl
 have m1:=mD g3 gt
 have m2:=mD gm gt
 have m3:=mD gb gt
 have k2:=WF.aT hr.wf g3
 have k3:=WF.aT hr.wf gb
 have k4:=WF.aT hr.wf gm
 have k5:=WF.aT hr.wf gl
 have k7:=WF.aT hr.wf gt
 refine FW.rP F.p (R:=fun H'=>(∀z,z<H.next→z≠mb→H'.get z=H.get z)∧H'.get mb=some (.map (dI (upd t (a,b) (val kerf ws kl t a b))))) gl rfl k5 ?_
 unfold vZ
 refine aD ?_;refine af cN ?_;refine yS ?_;refine fo ?_
 refine y1 ?_
 refine⟨rfl,by(simp(disch:=first|omega|(simp only[z1,z2];omega))only[z3,z4,z5,z6,z7,z1,z2, *];exact rfl),?_⟩
 unfold qO
 refine aC ?_;refine y4 ?_;refine af cN ?_
 refine yS ?_;refine y3 ?_;refine aq ?_;refine y4 ?_
 refine yL ?_
 refine yN ?_
 refine WO.gen ?_
 intro hA hAe
 have A1:∀z,z<H.next→z≠l→hA.get z=H.get z:=fun z hz hne=>by rw[hAe];simp(disch:=first|omega|(simp only[z1,z2];omega))only[z5,z4]
 have A2:hA.get l=some (.loop [(3, .pointer (some ⟨p3,0,none⟩)),(7, .pointer (some ⟨pm,0,none⟩)),(17,fv)] [18] vZ qO 1 .normal):=by rw[hAe];(simp(disch:=first|omega|(simp only[z1,z2];omega))only[z3,z4,z5,z6,z7,z1,z2, *];exact rfl)
 have A3:hA.get H.next=some (.cells [.int .i64 a, .int .i64 b] true 1):=by rw[hAe];(simp(disch:=first|omega|(simp only[z1,z2];omega))only[z3,z4,z5,z6,z7,z1,z2, *];exact rfl)
 have A4:hA.get (H.next+1)=some (.cells [.int .i64 0] true 1):=by rw[hAe];(simp(disch:=first|omega|(simp only[z1,z2];omega)|(simp only[z1,z2];done)|fail)only[z8,z4,z5,z9,z7,z1,z2, *];exact rfl)
 have A5:hA.next=H.next+2:=by rw[hAe];rfl
 have A6:hA.log=[]:=by rw[hAe];simp(disch:=first|omega|(simp only[z1,z2];omega))only[Heap.aI,Heap.cM];exact hr.log
 have A7:WF hA:=by rw[hAe];exact((((hr.wf.push _).as (AS.wr _ _ _ _)).as (AS.wr _ _ _ _)).push _).as (AS.wr _ _ _ _)
 clear hAe
 refine yC ?_
 refine FW.al (pR F.p F.f104 (.of A7) bb a b) (fun _ _ _ q=>q) ?_
 rintro _ h1 hx1 ⟨rfl,hn1,gp,gx⟩
 have eA:({hA with log:=[]}:Heap).next=H.next+2:=A5
 rw[eA]at hn1 gp gx
 rw[eA]
 have B1:∀z,z<H.next→z≠l→h1.get z=H.get z:=fun z hz hne=>(hx1.old z (by omega)).trans (A1 z hz hne)
 have B2:h1.get l=some (.loop [(3, .pointer (some ⟨p3,0,none⟩)),(7, .pointer (some ⟨pm,0,none⟩)),(17,fv)] [18] vZ qO 1 .normal):=(hx1.old l (by omega)).trans A2
 have B3:h1.get H.next=some (.cells [.int .i64 a, .int .i64 b] true 1):=(hx1.old _ (by omega)).trans A3
 have B4:h1.get (H.next+1)=some (.cells [.int .i64 0] true 1):=(hx1.old _ (by omega)).trans A4
 have B6:h1.log=[]:=hx1.log.trans A6
 have B7:WF h1:=hx1.wf A7
 have hlen:kl.length=n:=by have:=hks.len;rw[cP]at this;omega
 clear hx1 A1 A2 A3 A4 A6 A7
 refine y3 ?_;refine aC ?_
 refine mc (q:=H.next+1) (all:=aZ a b kl 0) (O:=fun d=> .cells [.int .i64 (ig ws d 0)] true 1) (pe B2) (by rfl) (by rw[F.f140];rfl) (by omega) (by omega) B6 B7 ?_ (by omega) ?_
 ·refine uy F.p F.f140 (.of (B7.push _)) (pb:=H.next+2) (bb:=bb) (px:=H.next+3) (l':=h1.next) (N:=h1.next+1) (lo:=H.next+1) (a:=a) (b:=b) (n:=n) (c:=c) (sa:=sa) (l:=kl) (v1:= .int .i64 kerf) (v2:= .slice wa n wc) (Nat.le_refl _) (by show H.next+1≤h1.next+1;omega) hn
   (PW.yld F.p (by omega) fun done x H' hx hr' hlt hP=> ?_) ((z4 (by omega)).trans gp) ((z4 (by omega)).trans ((B1 bb k3 n3).trans gb)) (fun d H' hP=> ?_) (fun d H' hP=>(hP.old _ (by omega) (by omega)).trans gx) ⟨fun z hz _=>z4 hz,(z4 (by omega)).trans B4,z3 _ _,Nat.lt_succ_self _⟩
  ·refine FW.mono' (zQ F.p hr' (x:=x) (n:=n) (by have:=lK x hx;omega) hP.loop hP.obj ((hP.old p3 (by omega) (by omega)).trans ((B1 p3 k2 n2).trans g3)) ((hP.old bb (by omega) (by omega)).trans ((B1 bb k3 n3).trans gb)) (aA.agree hws (by omega) fun b0 vs o t hb he=>(hP.old b0 (by omega) (by omega)).trans (B1 b0 hb (bF he gl)))) ?_
   rintro r H'' ⟨q1,q2,q3,q4⟩
   exact⟨q1,q2,q3,by rw[xH];exact q4⟩
  ·have:=hP.nx
   exact aA.agree hks (by omega) fun b0 vs o t hb he=>(hP.old b0 (by omega) (by omega)).trans (B1 b0 hb (bF he gl))
 intro h3 c1 c2 c3 c4 c5
 have D1:∀z,z<H.next→z≠l→h3.get z=H.get z:=fun z hz hne=>(c4 z (by omega) (by omega)).trans (B1 z hz hne)
 have D2:h3.get l=some (.loop [(3, .pointer (some ⟨p3,0,none⟩)),(7, .pointer (some ⟨pm,0,none⟩)),(17,fv)] [18] vZ qO 1 .normal):=(c4 l (by omega) (by omega)).trans B2
 have D3:h3.get H.next=some (.cells [.int .i64 a, .int .i64 b] true 1):=(c4 _ (by omega) (by omega)).trans B3
 have D5:h3.get p3=some (.cells [.pointer (some ⟨bb,0,none⟩)] true 1):=(D1 p3 k2 n2).trans g3
 clear B1 B2 B3 B4 B6 B7 c4 gp gx
 refine cZ ?_;refine aP ?_;refine aq ?_;refine y4 ?_;refine yL ?_;refine yN ?_
 refine yC ?_
 refine FW.al (uQ F.p F.f105 (.of c2) _ a b) (fun _ _ _ q=>q) ?_
 rintro _ h4 hx4 ⟨rfl,hn4,gx4⟩
 have e3:({h3 with log:=[]}:Heap).next=h3.next:=rfl
 rw[e3]at hn4 gx4
 rw[e3]
 have E1:∀z,z<H.next→z≠l→h4.get z=H.get z:=fun z hz hne=>(hx4.old z (by omega)).trans (D1 z hz hne)
 have E2:h4.get l=some (.loop [(3, .pointer (some ⟨p3,0,none⟩)),(7, .pointer (some ⟨pm,0,none⟩)),(17,fv)] [18] vZ qO 1 .normal):=(hx4.old l (by omega)).trans D2
 have E3:h4.get H.next=some (.cells [.int .i64 a, .int .i64 b] true 1):=(hx4.old _ (by omega)).trans D3
 have E4:h4.get (H.next+1)=some (.cells [.int .i64 (ig ws (aZ a b kl 0) 0)] true 1):=(hx4.old _ (by omega)).trans c5
 have E6:h4.log=[]:=hx4.log.trans c1
 have E7:WF h4:=hx4.wf c2
 clear hx4 D1 D2 D3 D5 c1 c2 c5
 refine y3 ?_;refine aC ?_
 refine mc (q:=H.next+1) (all:=dD a b) (O:=fun d=> .cells [.int .i64 (zO kerf t a b d (ig ws (aZ a b kl 0) 0))] true 1) (pe E2) (by rfl) (by rw[F.f141];rfl) (by omega) (by omega) E6 E7 ?_ (by omega) ?_
 ·refine Au F.p F.f141 (.of (E7.push _)) (bx:=h3.next) (l:=h4.next) (N:=h4.next+1) (lo:=H.next+1) (a:=a) (b:=b) (Nat.le_refl _) (by show H.next+1≤h4.next+1;omega) ha hb
   (PW.yld F.p (by omega) fun done x H' hx hr' hlt hP=> ?_) (fun d H' hP=>(hP.old _ (by omega) (by omega)).trans gx4) ⟨fun z hz _=>z4 hz,(z4 (by omega)).trans E4,z3 _ _,Nat.lt_succ_self _⟩
  have hxc:=fy hx
  refine FW.mono' (BO F.p F.f106 hr' (x:=x) (t:=t) (by omega) (by omega) ha hb hk (hsum x hx) hP.loop hP.obj ((hP.old p3 (by omega) (by omega)).trans ((E1 p3 k2 n2).trans g3)) ((hP.old pm (by omega) (by omega)).trans ((E1 pm k4 n4).trans gm)) ((hP.old H.next (by omega) (by omega)).trans E3) ((hP.old bb (by omega) (by omega)).trans ((E1 bb k3 n3).trans gb)) ((hP.old mb (by omega) (by omega)).trans ((E1 mb k7 n6).trans gt)) (show pm≠H.next+1 by omega)) ?_
  rintro r H'' ⟨q1,q2,q3,q4⟩
  exact⟨q1,q2,q3,by rw[Cu];exact q4⟩
 intro h5 c1 c2 c3 c4 c5
 have G1:∀z,z<H.next→z≠l→h5.get z=H.get z:=fun z hz hne=>(c4 z (by omega) (by omega)).trans (E1 z hz hne)
 have G2:h5.get l=some (.loop [(3, .pointer (some ⟨p3,0,none⟩)),(7, .pointer (some ⟨pm,0,none⟩)),(17,fv)] [18] vZ qO 1 .normal):=(c4 l (by omega) (by omega)).trans E2
 have G3:h5.get H.next=some (.cells [.int .i64 a, .int .i64 b] true 1):=(c4 _ (by omega) (by omega)).trans E3
 have G7:h5.get pm=some (.cells [.map (some mb)] true 1):=(G1 pm k4 n4).trans gm
 have G8:h5.get mb=some (.map (dI t)):=(G1 mb k7 n6).trans gt
 clear E1 E2 E3 E4 E6 E7 c4 gx4
 refine cZ ?_;refine aP ?_;refine aD ?_;refine yL ?_;refine yN ?_;refine yL ?_
 refine af (AU (x:=(a,b)) (by exact rfl) (by exact rfl) (by exact rfl) G8) ?_
 refine fo ?_;refine y1 ?_;refine cZ ?_
 refine⟨rfl,⟨_,by(simp(disch:=first|omega|(simp only[z1,z2];omega))only[z3,z4,z5,z6,z7,z1,z2, *];exact rfl),rfl⟩,?_,?_⟩
 ·intro z hz
  rw[gX c1 k7]at hz
  simp at hz;omega
 ·intro h6 hn6 hag hl6
  refine⟨fun z hz hne=> ?_,(hag mb k7 n6).trans (Heap.cr G8)⟩
  by_cases hz2:z=l
  ·rw[hz2];exact hl6.trans gl.symm
  ·exact(hag z hz hz2).trans ((z5 hne).trans (G1 z hz hz2))
end Go.A.Pk
end
section
set_option maxRecDepth 100000
namespace Go.A.Pk
variable {T:Nat→Option ah}
theorem zX{base:Nat}{h:Heap}{e:Env}:aop h base e .mkMap=some (.val (.map (some h.next)) (h.push (.map []))):=rfl
def Bd(W:Int)(t:Tab):Prop:=∀e∈t,1≤e.1.1∧1≤e.1.2∧0≤e.2∧e.2≤W*((e.1.1:Int)*(e.1.2:Int))
theorem qX{W:Int}:∀{t:Tab} (x:Int×Int),Bd W t→look t x=0∨(1≤x.1∧1≤x.2∧0≤look t x∧look t x≤W*(x.1*x.2))
 |[],_,_=> .inl rfl
 |e::t,x,h=>by
  simp only[look]
  by_cases hk:isKey x e=true
  ·rw[if_pos hk]
   have h1:=h e (List.mem_cons_self ..)
   simp only[isKey,decide_eq_true_eq]at hk
   rw[hk.1,hk.2]
   exact .inr ⟨by omega,by omega,h1.2.2.1,h1.2.2.2⟩
  ·rw[if_neg hk]
   exact qX x fun e he=>h e (List.mem_cons_of_mem _ he)
theorem zA{W:Int}{x:Nat×Nat}{v:Int}(hx:1≤x.1∧1≤x.2)(hv:0≤v∧v≤W*((x.1:Int)*(x.2:Int))):∀{t:Tab},Bd W t→Bd W (upd t x v)
 |[],_,e,he=>by
  simp only[upd,List.mem_singleton]at he
  subst he
  exact⟨hx.1,hx.2,hv.1,hv.2⟩
 |e0::t,h,e,he=>by
  simp only[upd]at he
  split at he
  ·rcases List.mem_cons.1 he with rfl|he
   ·exact⟨hx.1,hx.2,hv.1,hv.2⟩
   ·exact h e (List.mem_cons_of_mem _ he)
  ·rcases List.mem_cons.1 he with rfl|he
   ·exact h e (List.mem_cons_self ..)
   ·exact zA hx hv (fun e he=>h e (List.mem_cons_of_mem _ he)) e he
theorem Ew{a b c:Int}(h1:a≤c)(h2:b≤c):mx a b≤c:=by unfold mx;split<;>assumption
theorem CT{a b:Int}:a≤mx a b∧b≤mx a b:=by unfold mx;split<;>omega
theorem gJ{W a b c d:Int}(hW:0≤W)(ha:0≤a)(hab:a≤c)(hb:0≤b)(hbd:b≤d):W*(a*b)≤W*(c*d):=
 Int.mul_le_mul_of_nonneg_left (Int.le_trans (Int.mul_le_mul_of_nonneg_right hab hb) (Int.mul_le_mul_of_nonneg_left hbd (by omega))) hW
theorem EH{W kerf:Int}{t:Tab}(hW:0≤W)(hk:0≤kerf)(ht:Bd W t){a b:Nat}{x:Nat×Nat}(hx:x∈dD a b):0≤look t (cg x a b)+look t (cm kerf x a b)∧look t (cg x a b)+look t (cm kerf x a b)≤W*((a:Int)*(b:Int)):=by
 have h1:=qX (cg x a b) ht
 have h2:=qX (cm kerf x a b) ht
 have h0:0≤W*((a:Int)*(b:Int)):=Int.mul_nonneg hW (Int.mul_nonneg (by omega) (by omega))
 rcases fy hx with⟨e3,hl,hu⟩|⟨e4,hl,hu⟩
 ·simp only[cg,cm,e3,if_true]at h1 h2⊢
  rcases h1 with h1|h1
  ·rcases h2 with h2|h2
   ·rw[h1,h2];omega
   ·have:=gJ (W:=W) (a:=(a:Int)-x.2-kerf) (b:=b) (c:=a) (d:=b) hW (by omega) (by omega) (by omega) (Int.le_refl _)
    rw[h1];omega
  ·rcases h2 with h2|h2
   ·have:=gJ (W:=W) (a:=(x.2:Int)) (b:=b) (c:=a) (d:=b) hW (by omega) (by omega) (by omega) (Int.le_refl _)
    rw[h2];omega
   ·have e:W*((x.2:Int)*b)+W*(((a:Int)-x.2-kerf)*b)=W*(((x.2:Int)+((a:Int)-x.2-kerf))*b):=by rw[Int.add_mul,Int.mul_add]
    have:=gJ (W:=W) (a:=(x.2:Int)+((a:Int)-x.2-kerf)) (b:=b) (c:=a) (d:=b) hW (by omega) (by omega) (by omega) (Int.le_refl _)
    omega
 ·have n3:¬x.1=3:=by omega
  simp only[cg,cm,if_neg n3]at h1 h2⊢
  rcases h1 with h1|h1
  ·rcases h2 with h2|h2
   ·rw[h1,h2];omega
   ·have:=gJ (W:=W) (a:=a) (b:=(b:Int)-x.2-kerf) (c:=a) (d:=b) hW (by omega) (Int.le_refl _) (by omega) (by omega)
    rw[h1];omega
  ·rcases h2 with h2|h2
   ·have:=gJ (W:=W) (a:=a) (b:=(x.2:Int)) (c:=a) (d:=b) hW (by omega) (Int.le_refl _) (by omega) (by omega)
    rw[h2];omega
   ·have e:W*((a:Int)*x.2)+W*((a:Int)*((b:Int)-x.2-kerf))=W*((a:Int)*((x.2:Int)+((b:Int)-x.2-kerf))):=by rw[Int.mul_add (a:Int),Int.mul_add W]
    have:=gJ (W:=W) (a:=a) (b:=(x.2:Int)+((b:Int)-x.2-kerf)) (c:=a) (d:=b) hW (by omega) (Int.le_refl _) (by omega) (by omega)
    omega
theorem wh{W B:Int}{ws:List Int}(hws:∀x∈ws,0≤x∧x≤W)(hWB:W≤B)(hW:0≤W):∀{xs:List (Nat×Nat)} {m:Int},0≤m→m≤B→0≤ig ws xs m∧ig ws xs m≤B
 |[],m,h1,h2=>⟨h1,h2⟩
 |x::xs,m,h1,h2=>by
  have hx:0≤ws.getD x.2 0∧ws.getD x.2 0≤W:=by
   by_cases hi:x.2<ws.length
   ·have:=hws _ (List.getElem_mem hi)
    simpa[List.getD,List.getElem?_eq_getElem hi]using this
   ·have:ws.getD x.2 0=0:=by simp[List.getD,List.getElem?_eq_none (by omega:ws.length≤x.2)]
    rw[this];omega
  exact wh hws hWB hW (xs:=xs) (m:=mx m (ws.getD x.2 0)) (Int.le_trans h1 CT.1) (Ew h2 (by omega))
theorem Ab{B kerf:Int}{t:Tab}{a b:Nat}:∀{xs:List (Nat×Nat)} {m:Int},(∀x∈xs,look t (cg x a b)+look t (cm kerf x a b)≤B)→0≤m→m≤B→0≤zO kerf t a b xs m∧zO kerf t a b xs m≤B
 |[],m,_,h1,h2=>⟨h1,h2⟩
 |x::xs,m,hx,h1,h2=>Ab (xs:=xs) (m:=mx m _) (fun y hy=>hx y (List.mem_cons_of_mem _ hy)) (Int.le_trans h1 CT.1) (Ew h2 (hx x (List.mem_cons_self ..)))
theorem CI{W kerf:Int}{ws:List Int}{kl:List Kd}{t:Tab}(hW:0≤W)(hk:0≤kerf)(hws:∀x∈ws,0≤x∧x≤W)(ht:Bd W t){a b:Nat}(ha:1≤a)(hb:1≤b):0≤val kerf ws kl t a b∧val kerf ws kl t a b≤W*((a:Int)*(b:Int)):=by
 have hWB:W≤W*((a:Int)*(b:Int)):=by
  have:=gJ (W:=W) (a:=1) (b:=1) (c:=a) (d:=b) hW (by omega) (by omega) (by omega) (by omega)
  omega
 obtain⟨h1,h2⟩:=wh (xs:=aZ a b kl 0) (m:=0) hws hWB hW (Int.le_refl _) (by omega)
 exact Ab (fun x hx=>(EH hW hk ht hx).2) h1 h2
def oq(kerf:Int)(ws:List Int)(kl:List Kd)(done:List (Nat×Nat)):Tab:=done.foldl (fun t x=>upd t x (val kerf ws kl t x.1 x.2)) []
theorem pn(kerf:Int)(ws:List Int)(kl:List Kd)(done:List (Nat×Nat))(x:Nat×Nat):oq kerf ws kl (done++[x])=upd (oq kerf ws kl done) x (val kerf ws kl (oq kerf ws kl done) x.1 x.2):=by simp[oq]
theorem fW:∀{w h:Nat} {x:Nat×Nat},x∈aU w h→1≤x.1∧x.1≤w∧1≤x.2∧x.2≤h
 |0,_,_,hx=>by cases hx
 |w+1,h,x,hx=>by
  simp only[aU,List.mem_append]at hx
  rcases hx with hx|hx
  ·have:=fW hx;omega
  ·have:=vz hx;omega
set_option maxHeartbeats 8000000 in
theorem yZ(F:FnsV T){h:Heap}(hr:Rdy h){bb n c wc w ht:Nat}{sa wa:Option Addr}{kerf W:Int}{ws:List Int}{kl:List Kd}(hw:w<1000)(hh:ht<1000)(hn:n<1000)(hk:0≤kerf∧kerf≤100)(hW:0≤W∧W≤1000000000)(hws0:∀x∈ws,0≤x∧x≤W)
 (gb:h.get bb=some (.cells [.slice sa n c, .int .i64 kerf, .slice wa n wc] true 1))(hks:aA h 5 (.slice sa n c) n (kcs kl))(hws:aA h 1 (.slice wa n wc) n (ints ws)):
 Al T 83 [.pointer (some ⟨bb,0,none⟩), .int .i64 w, .int .i64 ht] h fun v h'=>∃r,v= .map (some r)∧h'.get r=some (.map (dI (oq kerf ws kl (aU w ht)))):=by
 refine .of F.p F.f83 hr (fun v h1 hv q=>by obtain⟨r,rfl,_⟩:=q;cases hv) ?_
 have kb:=WF.aT hr.wf gb
 refine y4 ?_;refine yB ?_;refine yM ?_;refine y3 ?_;refine y4 ?_
 refine af zX ?_
 refine af cN ?_;refine yS ?_
 refine y3 ?_;refine aq ?_;refine y4 ?_;refine yM ?_;refine yM ?_
 refine WO.gen ?_
 intro hA hAe
 have A1:∀z,z<h.next→hA.get z=h.get z:=fun z hz=>by rw[hAe];simp(disch:=first|omega|(simp only[z1,z2];omega))only[z5,z4]
 have A2:hA.get h.next=some (.cells [.pointer (some ⟨bb,0,none⟩)] true 1):=by rw[hAe];(simp(disch:=first|omega|(simp only[z1,z2];omega))only[z3,z4,z5,z6,z7,z1,z2, *];exact rfl)
 have A3:hA.get (h.next+1)=some (.map []):=by rw[hAe];(simp(disch:=first|omega|(simp only[z1,z2];omega)|(simp only[z1,z2];done)|fail)only[z8,z4,z5,z9,z7,z1,z2, *];done)
 have A4:hA.get (h.next+2)=some (.cells [.map (some (h.next+1))] true 1):=by rw[hAe];(simp(disch:=first|omega|(simp only[z1,z2];omega)|(simp only[z1,z2];done)|fail)only[z8,z4,z5,z9,z7,z1,z2, *];exact rfl)
 have A5:hA.next=h.next+3:=by rw[hAe];rfl
 have A6:hA.log=[]:=by rw[hAe];simp(disch:=first|omega|(simp only[z1,z2];omega))only[Heap.aI,Heap.cM];exact hr.log
 have A7:WF hA:=by rw[hAe];exact(((hr.wf.push _).push _).push _).as (AS.wr _ _ _ _)
 clear hAe
 refine yC ?_
 refine FW.al (se F.p F.f94 (.of A7) w ht) (fun _ _ _ q=>q) ?_
 rintro _ h1 hx1 ⟨rfl,hn1,gp,gx⟩
 have eA:({hA with log:=[]}:Heap).next=h.next+3:=A5
 rw[eA]at hn1 gp gx
 rw[eA]
 have B1:∀z,z<h.next→h1.get z=h.get z:=fun z hz=>(hx1.old z (by omega)).trans (A1 z hz)
 have B2:h1.get h.next=some (.cells [.pointer (some ⟨bb,0,none⟩)] true 1):=(hx1.old _ (by omega)).trans A2
 have B3:h1.get (h.next+1)=some (.map []):=(hx1.old _ (by omega)).trans A3
 have B4:h1.get (h.next+2)=some (.cells [.map (some (h.next+1))] true 1):=(hx1.old _ (by omega)).trans A4
 have B6:h1.log=[]:=hx1.log.trans A6
 have B7:WF h1:=hx1.wf A7
 clear hx1 A1 A2 A3 A4 A6 A7
 refine y3 ?_;refine aC ?_
 refine mc (q:=h.next+1) (all:=aU w ht) (O:=fun d=> .map (dI (oq kerf ws kl d))) rfl (by rfl) (by rw[F.f136];rfl) (by omega) (by omega) B6 B7 ?_ (by omega) ?_
 ·have Y:Yld T (h.next+1) (h1.next+1) h1.next dV (aU w ht) fun d H=>PW h1.next (h.next+1) h1 (.loop [(3, .pointer (some ⟨h.next,0,none⟩)),(7, .pointer (some ⟨h.next+2,0,none⟩)),(17,fn2 136 (h.next+3) (h.next+4))] [18] vZ qO 0 .normal) (fun d=> .map (dI (oq kerf ws kl d))) d H∧Bd W (oq kerf ws kl d):=by
   refine⟨fun done x H hx hrH hN hP=> ?_,fun d H H' hP hN hag=>⟨PW.eF (by omega) d H H' hP.1 hN hag,hP.2⟩⟩
   obtain⟨hP,hB⟩:=hP
   have hxb:=fW hx
   have hV:=CI (kl:=kl) hW.1 hk.1 hws0 hB hxb.1 hxb.2.2.1
   obtain⟨x1,x2⟩:=x
   simp only at hxb hV
   refine FW.mono' (FW.pM F.p (yh F hrH (a:=x1) (b:=x2) (t:=oq kerf ws kl done) (by omega) (by omega) hn hk (fun y hy=> ?_) hP.loop ((hP.old _ (by omega) (by omega)).trans B2) ((hP.old _ (by omega) (by omega)).trans B4) hP.obj ((hP.old bb (by omega) (by omega)).trans ((B1 bb kb).trans gb)) (aA.agree hks (by omega) fun b0 vs o t hb he=>(hP.old b0 (by omega) (by omega)).trans (B1 b0 hb)) (aA.agree hws (by omega) fun b0 vs o t hb he=>(hP.old b0 (by omega) (by omega)).trans (B1 b0 hb))) hrH.log) ?_
   ·have h1:=EH hW.1 hk.1 hB hy
    have h2:W*((x1:Int)*(x2:Int))≤1000000000*(1000*1000):=Int.le_trans (gJ (W:=W) (a:=x1) (b:=x2) (c:=1000) (d:=1000) hW.1 (by omega) (by omega) (by omega) (by omega)) (Int.mul_le_mul_of_nonneg_right hW.2 (by omega))
    omega
   ·rintro r H' ⟨hA',q1,q2,q3,q4⟩
    refine⟨q1,fun z hz=>by have:=q2 z hz;omega,⟨fun y hy hne=>(q3 y (by omega) hne).trans (hP.old y hy hne),by rw[pn];exact q4,(q3 _ (by omega) (by omega)).trans hP.loop,Nat.lt_of_lt_of_le hP.nx hA'.next⟩,?_⟩
    rw[pn]
    exact zA ⟨hxb.1,hxb.2.2.1⟩ hV hB
  refine CW.mono (BE F.p F.f136 (.of (B7.push _)) (bw:=h.next+3) (bh:=h.next+4) (l:=h1.next) (N:=h1.next+1) (lo:=h.next+1) (w:=w) (ht:=ht) (Nat.le_refl _) (by show h.next+1≤h1.next+1;omega) hw hh Y (fun d H hP=>(hP.1.old _ (by omega) (by omega)).trans gp) (fun d H hP=>(hP.1.old _ (by omega) (by omega)).trans gx)
   ⟨⟨fun z hz _=>z4 hz,(z4 (by omega)).trans B3,z3 _ _,Nat.lt_succ_self _⟩,fun e he=>by cases he⟩) ?_
  rintro r h2 ⟨q1,v,q2,q3,q4,_⟩
  exact⟨q1,v,q2,q3,q4⟩
 intro h3 c1 c2 c3 c4 c5
 have D4:h3.get (h.next+2)=some (.cells [.map (some (h.next+1))] true 1):=(c4 _ (by omega) (by omega)).trans B4
 refine cZ ?_;refine aP ?_;refine y4 ?_;refine yL ?_;refine yM ?_;refine y3 ?_;refine aH ?_
 exact dn (vs:=[.map (some (h.next+1))]) c1 (by rfl) ⟨_,rfl,c5⟩
end Go.A.Pk
end
section
set_option maxRecDepth 100000
namespace Go.A.Pk
variable {T:Nat→Option ah}
inductive qQ (lo:Nat) (h:Heap):Value→List Int→Prop
 |nil:qQ lo h (.slice none 0 0) []
 |full {q xs}:lo≤q→q<h.next→h.get q=some (.cells (ints xs) true 1)→xs≠[]→qQ lo h (.slice (some ⟨q,0,none⟩) xs.length UNK) xs
theorem ze{l:List Kd}{i:Nat}{x:Kd}(h:l[i]? =some x):(l.take (i+1)).map (·.bq)=(l.take i).map (·.bq)++[x.bq]:=by
 rw[List.take_add_one,h];simp
def lI(lo:Nat)(a:Option Addr)(n c:Nat)(kerf:Int)(l:List Kd)(er:Int)(v:Value)(h':Heap):Prop:=∃p,v= .tuple #[.pointer p, .int .i64 er]∧
 (er=0→∃w,p=some ⟨lo+1,0,none⟩∧h'.get (lo+1)=some (.cells [.slice a n c, .int .i64 kerf,w] true 1)∧qQ (lo+2) h' w (l.map (·.bq)))
theorem lI.gc{lo:Nat}{a:Option Addr}{n c:Nat}{kerf:Int}{l:List Kd}{er:Int}(h:Heap)(v:Value)(h1:Heap)(hv:cD v=true)(q:lI lo a n c kerf l er v h1):lI lo a n c kerf l er v h:=by
 obtain⟨p,rfl,h2⟩:=q
 refine⟨p,rfl,fun he=> ?_⟩
 obtain⟨w,rfl,_⟩:=h2 he
 simp[cD,fR,flat,cp,jj,fA]at hv
theorem qQ.keep{lo:Nat}{h h':Heap}{v:Value}{xs:List Int}(w:qQ lo h v xs)(hn:h.next≤h'.next)(hg:∀z,lo≤z→z<h.next→h'.get z=h.get z):qQ lo h' v xs:=by
 cases w with
 |nil=>exact .nil
 |full a b c d=>exact .full a (by omega) ((hg _ a b).trans c) d
theorem lI.BH{lo:Nat}{a:Option Addr}{n c:Nat}{kerf:Int}{l:List Kd}{er:Int}(v:Value)(h':Heap)(m:List Nat)(q:lI lo a n c kerf l er v h'):lI lo a n c kerf l er v {h' with log:=m}:=by
 obtain⟨p,h1,h2⟩:=q
 refine⟨p,h1,fun he=> ?_⟩
 obtain⟨w,h3,h4,h5⟩:=h2 he
 exact⟨w,h3,h4,h5.keep (Nat.le_refl _) fun _ _ _=>rfl⟩
theorem qQ.slice{lo:Nat}{h:Heap}{v:Value}{xs:List Int}(w:qQ lo h v xs)(hx:xs.length<1000000):∃a c,v= .slice a xs.length c∧aA h 1 (.slice a xs.length c) xs.length (ints xs):=by
 cases w with
 |nil=>exact⟨none,0,rfl, .nil⟩
 | @full q _ h1 h2 h3 h5=>
   refine⟨some ⟨q,0,none⟩,UNK,rfl, .mem ⟨h2,⟨_,_,_,h3,?_⟩,by simp[ints]⟩ (by unfold UNK;omega)⟩
   rw[dj,cu,List.drop_zero,List.take_of_length_le (by simp[ints])]
set_option maxHeartbeats 4000000 in
theorem sr(G:FnsE T){h:Heap}(hr:Rdy h){a:Option Addr}{n c:Nat}{l:List Kd}(hs:aA h 5 (.slice a n c) n (kcs l))(kerf:Int)(hn:n<1000000){v:Value}{m:Nat}{bl:List Bool}(hb:aA h 1 v m (bcs bl))(hm:m<1000000):
 Al T 75 [.agg #[.slice a n c, .int .i64 kerf],v] h (lI h.next a n c kerf l (rz kerf l bl)):=by
 refine .of G.toFnsA.p G.f75 hr (lI.gc h) ?_
 have hx:Ext h (h.push (.cells [.slice a n c, .int .i64 kerf] true 1)):=(Ext.refl h).push _
 have hlen:l.length=n:=by have:=hs.len;rw[cP]at this;omega
 refine y4 ?_;refine yB ?_;refine yM ?_;refine yM ?_;refine y3 ?_;refine aq ?_;refine y4 ?_
 refine yN ?_
 refine yC ?_
 refine FW.pu (Ir G.toFnsA (.of (hx.wf hr.wf)) ((hs.ext hx).log []) kerf hn) ?_
 unfold rz
 by_cases hc:chk kerf l=0
 ·rw[if_pos hc,hc]
  refine yM ?_;refine y3 ?_;refine y4 ?_;refine yM ?_;refine yf ?_;refine y3 ?_;refine yX ?_;refine aB ?_;refine aP ?_;refine aq ?_;refine y4 ?_;refine yM ?_
  refine yC ?_
  refine FW.pu (vT G.toFnsC (.of (hx.wf hr.wf)) ((hb.ext hx).log []) hm) ?_
  cases hbl:bl.all id with
  |false=>
   refine y3 ?_;refine yY ?_;refine y4 ?_;refine yM ?_;refine yM ?_;refine y3 ?_;refine aH ?_;refine ej ?_
   exact dn (vs:=[.pointer none, .int .i64 1]) hr.log rfl ⟨_,rfl,fun e=>by cases e⟩
  |true=>
   refine y3 ?_;refine yX ?_;refine aB ?_;refine aP ?_;refine y4 ?_
   refine yN ?_;refine af (ck (by exact rfl)) ?_;refine yB ?_
   refine yM ?_;refine y3 ?_;refine aq ?_;refine y4 ?_;refine yF ?_
   refine yL ?_;refine yD ?_;refine yM ?_;refine y3 ?_;refine aC ?_
   refine dP (fun k e ds h'=>∃(i:Nat) (w:Value) (xs:List Int),i≤n∧k=n-i∧e=[(7, .pointer (some ⟨h.next+1,0,none⟩)),(21, .slice a n c),(22, .int .i64 n),(23, .int .i64 i)]∧ds=[]∧Ext (h.push (.cells [.slice a n c, .int .i64 kerf] true 1)) h'∧
    h.next+1<h'.next∧h'.get (h.next+1)=some (.cells [.slice a n c, .int .i64 kerf,w] true 1)∧qQ (h.next+2) h' w xs∧Nonempty (PLift (xs=(l.take i).map (·.bq))))
    ⟨0, .slice none 0 0,[],Nat.zero_le _,rfl,rfl,rfl,(Ext.refl _).push _,Nat.lt_succ_self _,by(simp(disch:=first|omega|(simp only[z1,z2];omega)|(simp only[z1,z2];done)|fail)only[z8,z4,z5,z9,z7,z1,z2, *];exact rfl), .nil,⟨⟨rfl⟩⟩⟩ ?_
   rintro k e ds hi ⟨i,w,xs,hin,rfl,rfl,rfl,hx1,hnx,hW,hw,⟨⟨hxs⟩⟩⟩
   by_cases hlt:i<n
   ·obtain⟨x,hxl⟩:∃x,l[i]? =some x:=⟨l[i],List.getElem?_eq_getElem (by omega)⟩
    have hs':=hs.ext (((Ext.refl h).push _).trans hx1)
    rcases hs'.inv with⟨_,_,h0,_⟩|⟨b,o,cap',hv,s,hcap⟩
    ·omega
    ·cases hv
     obtain⟨vs,own,t,g1,g2⟩:=iE s hxl
     have hx3:=(hx1.push (.cells [.int .i64 0, .int .i64 0, .int .i64 0, .int .i64 0, .bool false] true 1)).wr (base:=h.next) (x:=hi.next) (o:= .cells (kc x) true 1) hx1.next (by omega)
     have hx4:=hx3.push (.cells [.int .i64 x.bq] true 1)
     have hsu:=ze hxl
     have hxl2:xs.length=i:=by rw[hxs];simp;omega
     have hsu2:(l.take (i+1)).map (·.bq)=xs++[x.bq]:=by rw[hsu,←hxs]
     have hid:PLift (xs.length=i∧(l.take (i+1)).map (·.bq)=xs++[x.bq]):=⟨hxl2,hsu2⟩
     clear hsu hxs hxl2 hsu2
     cases hw with
     |nil=>
      refine y4 ?_;refine yt ?_;refine y3 ?_;refine aq ?_;refine yY ?_;refine aB ?_;refine aP ?_;refine aq ?_;refine aC ?_;refine y4 ?_;refine af (aN (by exact rfl) (by exact rfl) (by omega)) ?_
      refine af (cS (by exact rfl) g1 g2 (by exact rfl)) ?_
      refine af cN ?_;refine yS ?_;refine y3 ?_;refine cG ?_;refine qM ?_;refine qM ?_
      refine ak rfl rfl rfl (by exact rfl) (by exact rfl) (by exact rfl) (cC (by exact rfl)) ?_;refine qF ?_
      refine qL ?_
      refine qF ?_
      refine qL ?_
      refine jB rfl rfl rfl (by exact rfl) (by exact rfl) (by exact rfl) (gE (by exact rfl) (by exact rfl)) (by refine b8 (ay rfl (bt (by exact rfl) (by(simp(disch:=first|omega|(simp only[z1,z2];omega))only[z3,z4,z5,z6,z7,z1,z2, *];exact rfl)) (by exact rfl)) (by exact dL _ _)) ?_;refine b8 (ay rfl (iy (by exact rfl)) (by exact dy _)) ?_;refine b8 (ay rfl (bt (by exact rfl) (by(simp(disch:=first|omega|(simp only[z1,z2];omega))only[z3,z4,z5,z6,z7,z1,z2, *];exact rfl)) (by exact rfl)) (by exact kM _ _ _)) ?_;refine b8 (ay rfl (iy (by exact rfl)) (by exact dy _)) ?_;refine b8 (ay rfl (cC (by exact rfl)) (by exact dy _)) ?_;refine b8 (ay rfl (iR (by exact rfl)) (by exact dy _)) ?_;refine b8 (ay rfl (iR (by exact rfl)) (by exact dy _)) ?_;exact jx) ?_
      refine tr (n:=1) rfl rfl rfl (by exact rfl) (by exact rfl) (by exact rfl) (qW (kI (cs:=[.int .i64 x.bq]) (by(simp(disch:=first|omega|(simp only[z1,z2];omega)|(simp only[z1,z2];done)|fail)only[z8,z4,z5,z9,z7,z1,z2, *];exact rfl)) rfl rfl)) (by omega) (by omega) (by apply aa rfl;apply aa rfl;apply aa rfl;apply aa rfl;apply aa rfl;apply aa rfl;apply aa rfl;apply aM rfl (ay rfl (iR (by exact rfl)) (by exact dy _)) rfl;exact bT) ?_
      refine ak rfl rfl rfl (by exact rfl) (by exact rfl) (by exact rfl) (cC (by exact rfl)) ?_;refine qF ?_
      refine ir rfl rfl rfl (by exact rfl) (by exact rfl) (by exact rfl) (by(simp(disch:=first|omega|(simp only[z1,z2];omega))only[z3,z4,z5,z6,z7,z1,z2, *];exact rfl)) (by exact rfl) (by exact rfl) (by(simp only[z1,z2];omega)) (by omega) (by apply aa rfl;apply aa rfl;apply aa rfl;exact bT) ?_
      refine cF ?_;refine y1 ?_;refine cZ ?_;refine aP ?_;refine aD ?_;refine fV ?_;refine yM ?_;refine y3 ?_
      obtain⟨hxl2,hsu2⟩:=hid
      obtain rfl:i=0:=hxl2.symm
      refine⟨n-1,by omega,1, .slice (some ⟨hi.next+2,0,none⟩) 1 UNK,[x.bq],by omega,rfl,rfl,rfl,?_,?_,?_,?_,?_⟩
      ·exact(hx4.push (.cells [.int .i64 x.bq] true 1)).wr (Nat.le_refl _) (Nat.le_succ _)
      ·(simp only[z1,z2];omega)
      ·(simp(disch:=first|omega|(simp only[z1,z2];omega))only[z3,z4,z5,z6,z7,z1,z2, *];exact rfl)
      ·exact .full (xs:=[x.bq]) (by omega) (by(simp only[z1,z2];omega)) (by(simp(disch:=first|omega|(simp only[z1,z2];omega)|(simp only[z1,z2];done)|fail)only[z8,z4,z5,z9,z7,z1,z2, *];exact rfl)) (by simp)
      ·exact⟨⟨hsu2.symm⟩⟩
     | @full q _ h1 h2 h3 h5=>
       have h4:(ints xs).length=xs.length:=by simp[ints]
       have h7:xs.length<1000000:=by have:=hid.down.1;omega
       have h6:xs.length≠0:=by cases xs with|nil=>exact absurd rfl h5|cons _ _=>simp
       have hwr:dg (ints xs) [.int .i64 x.bq]=ints (xs++[x.bq]):=by rw[dB];simp[ints]
       refine y4 ?_;refine yt ?_;refine y3 ?_;refine aq ?_;refine yY ?_;refine aB ?_;refine aP ?_;refine aq ?_;refine aC ?_;refine y4 ?_;refine af (aN (by exact rfl) (by exact rfl) (by omega)) ?_
       refine af (cS (by exact rfl) g1 g2 (by exact rfl)) ?_
       refine af cN ?_;refine yS ?_;refine y3 ?_;refine cG ?_;refine qM ?_;refine qM ?_
       refine ak rfl rfl rfl (by exact rfl) (by exact rfl) (by exact rfl) (cC (by exact rfl)) ?_;refine qF ?_
       refine qL ?_
       refine qF ?_
       refine qL ?_
       refine jB rfl rfl rfl (by exact rfl) (by exact rfl) (by exact rfl) (gE (by exact rfl) (by exact rfl)) (by refine b8 (ay rfl (bt (by exact rfl) (by(simp(disch:=first|omega|(simp only[z1,z2];omega))only[z3,z4,z5,z6,z7,z1,z2, *];exact rfl)) (by exact rfl)) (by exact dL _ _)) ?_;refine b8 (ay rfl (iy (by exact rfl)) (by exact dy _)) ?_;refine b8 (ay rfl (bt (by exact rfl) (by(simp(disch:=first|omega|(simp only[z1,z2];omega))only[z3,z4,z5,z6,z7,z1,z2, *];exact rfl)) (by exact rfl)) (by exact kM _ _ _)) ?_;refine b8 (ay rfl (iy (by exact rfl)) (by exact dy _)) ?_;refine b8 (ay rfl (cC (by exact rfl)) (by exact dy _)) ?_;refine b8 (ay rfl (iR (by exact rfl)) (by exact dy _)) ?_;refine b8 (ay rfl (iR (by exact rfl)) (by exact dy _)) ?_;exact jx) ?_
       refine wu (n:=1) (vs:=ints xs) (ws:=ints (xs++[x.bq])) rfl rfl rfl (by exact rfl) (by exact rfl) (by exact rfl) (qW (kI (cs:=[.int .i64 x.bq]) (by(simp(disch:=first|omega|(simp only[z1,z2];omega)|(simp only[z1,z2];done)|fail)only[z8,z4,z5,z9,z7,z1,z2, *];exact rfl)) rfl rfl)) (by omega) (by(simp(disch:=first|omega|(simp only[z1,z2];omega))only[z3,z4,z5,z6,z7,z1,z2, *];done)) (by omega) (by omega) rfl (by omega) hwr (by(simp only[z1,z2];omega)) (by omega) (by apply aa rfl;apply aa rfl;apply aa rfl;apply aa rfl;apply aa rfl;apply aa rfl;apply aa rfl;apply aM rfl (ay rfl (iR (by exact rfl)) (by exact dy _)) rfl;exact bT) ?_
       refine ak rfl rfl rfl (by exact rfl) (by exact rfl) (by exact rfl) (cC (by exact rfl)) ?_;refine qF ?_
       refine ir rfl rfl rfl (by exact rfl) (by exact rfl) (by exact rfl) (by(simp(disch:=first|omega|(simp only[z1,z2];omega))only[z3,z4,z5,z6,z7,z1,z2, *];exact rfl)) (by exact rfl) (by exact rfl) (by(simp only[z1,z2];omega)) (by omega) (by apply aa rfl;apply aa rfl;apply aa rfl;exact bT) ?_
       refine cF ?_;refine y1 ?_;refine cZ ?_;refine aP ?_;refine aD ?_;refine fV ?_;refine yM ?_;refine y3 ?_
       have hxi:=hid.down.1
       refine⟨n-(i+1),by omega,i+1, .slice (some ⟨hi.next+2,0,none⟩) (xs.length+1) UNK,xs++[x.bq],by omega,rfl,rfl,rfl,?_,?_,?_,?_,?_⟩
       ·exact((hx4.wr (x:=q) (base:=h.next) (o:= .dead) (show h.next+1≤q by omega) (by omega)).push (.cells (ints (xs++[x.bq])) true 1)).wr (Nat.le_refl _) (Nat.le_succ _)
       ·(simp only[z1,z2];omega)
       ·(simp(disch:=first|omega|(simp only[z1,z2];omega))only[z3,z4,z5,z6,z7,z1,z2, *];exact rfl)
       ·have:=qQ.full (lo:=h.next+2) (q:=hi.next+2) (xs:=xs++[x.bq]) (h:=(((((hi.push (.cells [.int .i64 0, .int .i64 0, .int .i64 0, .int .i64 0, .bool false] true 1)).wr h.next hi.next (.cells (kc x) true 1)).push (.cells [.int .i64 x.bq] true 1)).wr h.next q .dead).push (.cells (ints (xs++[x.bq])) true 1)).wr h.next (h.next+1) (.cells [.slice (some ⟨b,o,none⟩) n c, .int .i64 kerf, .slice (some ⟨hi.next+2,0,none⟩) (xs.length+1) UNK] true 1)) (by omega) (by(simp only[z1,z2];omega)) (by(simp(disch:=first|omega|(simp only[z1,z2];omega)|(simp only[z1,z2];done)|fail)only[z8,z4,z5,z9,z7,z1,z2, *];done)) (by simp)
        rw[List.length_append]at this
        exact this
       ·exact⟨⟨hid.down.2.symm⟩⟩
   ·obtain rfl:i=n:=by omega
    refine y4 ?_;refine yf ?_;refine y3 ?_;refine aq ?_;refine yX ?_;refine cY ?_;refine dQ ?_;refine dQ ?_;refine iW ?_;refine aP ?_
    refine y4 ?_;refine yM ?_;refine yM ?_;refine yM ?_;refine y3 ?_;refine aH ?_
    refine dn (vs:=[.pointer (some ⟨h.next+1,0,none⟩), .int .i64 0]) (hx1.log.trans hr.log) rfl ⟨_,rfl,fun _=> ?_⟩
    rw[List.take_of_length_le (by omega)]at hxs
    obtain rfl:xs=l.map (·.bq):=hxs
    exact⟨w,rfl,hW,hw⟩
 ·rw[if_neg hc]
  refine yM ?_;refine y3 ?_;refine y4 ?_;refine yM ?_;refine yt ?_;refine y3 ?_;refine yY ?_;refine y4 ?_;refine yM ?_;refine yM ?_;refine yM ?_;refine y3 ?_;refine aH ?_;refine ej ?_
  exact dn (vs:=[.pointer none, .int .i64 (chk kerf l)]) hr.log rfl ⟨_,rfl,fun e=>(hc e).elim⟩
def mX(a:Option Addr)(n c:Nat)(kerf:Int)(l:List Kd)(er:Int)(v:Value)(h':Heap):Prop:=∃p,v= .tuple #[.pointer p, .int .i64 er]∧
 (er=0→∃bb wa wc,p=some ⟨bb,0,none⟩∧h'.get bb=some (.cells [.slice a n c, .int .i64 kerf, .slice wa n wc] true 1)∧aA h' 1 (.slice wa n wc) n (ints (l.map (·.bq))))
set_option maxHeartbeats 4000000 in
theorem lD(G:FnsE T){h:Heap}(hr:Rdy h){a:Option Addr}{n c:Nat}{l:List Kd}(hs:aA h 5 (.slice a n c) n (kcs l))(kerf:Int)(hn:n<1000000){v:Value}{m:Nat}{bl:List Bool}(hb:aA h 1 v m (bcs bl))(hm:m<1000000):
 Al T 75 [.agg #[.slice a n c, .int .i64 kerf],v] h (mX a n c kerf l (rz kerf l bl)):=by
 have hlen:l.length=n:=by have:=hs.len;rw[cP]at this;omega
 refine CW.mono (sr G hr hs kerf hn hb hm) fun r h' ⟨hx,v,hv,q⟩=>⟨hx,v,hv,?_⟩
 obtain⟨p,rfl,h2⟩:=q
 refine⟨p,rfl,fun he=> ?_⟩
 obtain⟨w,rfl,g,s⟩:=h2 he
 have e:(l.map (·.bq)).length=n:=by rw[List.length_map,hlen]
 obtain⟨a2,c2,rfl,s2⟩:=s.slice (by omega)
 rw[e]at g s2
 exact⟨_,a2,c2,rfl,g,s2⟩
end Go.A.Pk
end
section
set_option maxRecDepth 100000
namespace Go.A.Pk
variable {T:Nat→Option ah}
structure FnsW (T:Nat→Option ah):Prop extends FnsE T,FnsV T where
 f76:T 76=some f76
 f32:T 32=some f32
def OnB(w ht:Int):Prop:=(1≤w∧w≤16)∧(1≤ht∧ht≤16)
instance(w ht:Int):Decidable (OnB w ht):=by unfold OnB;infer_instance
theorem sK(hp:bC T)(hf6:T 76=some f76)(hf7:T 77=some f77){h:Heap}(hr:Rdy h)(w ht:Int):Pu T 76 [.int .i64 w, .int .i64 ht] h (.bool (decide (OnB w ht))):=by
 refine .of hp hf6 hr rfl ?_
 by_cases c1:1≤w∧w≤16
 ·by_cases c2:1≤ht∧ht≤16
  ·rw[decide_eq_true (show OnB w ht from⟨c1,c2⟩)]
   refine y4 ?_;refine yM ?_;refine y3 ?_;refine y4 ?_;refine yM ?_
   refine yC ?_
   refine FW.pu (kZ hp hf7 (.of hr.wf) c1) ?_
   refine yM ?_;refine yO ?_;refine yM ?_;refine yO ?_
   refine yC ?_
   refine FW.pu (kZ hp hf7 (.of hr.wf) c2) ?_
   refine yT ?_;refine yM ?_;refine y3 ?_;refine aH ?_
   exact aF hr.log rfl rfl
  ·rw[decide_eq_false (show¬OnB w ht from fun q=>c2 q.2)]
   refine y4 ?_;refine yM ?_;refine y3 ?_;refine y4 ?_;refine yM ?_
   refine yC ?_
   refine FW.pu (kZ hp hf7 (.of hr.wf) c1) ?_
   refine yM ?_;refine yO ?_;refine yM ?_;refine yO ?_
   refine yC ?_
   refine FW.pu (oA hp hf7 (.of hr.wf) c2) ?_
   refine yT ?_;refine yM ?_;refine y3 ?_;refine aH ?_
   exact aF hr.log rfl rfl
 ·rw[decide_eq_false (show¬OnB w ht from fun q=>c1 q.1)]
  refine y4 ?_;refine yM ?_;refine y3 ?_;refine y4 ?_;refine yM ?_
  refine yC ?_
  refine FW.pu (oA hp hf7 (.of hr.wf) c1) ?_
  refine yM ?_;refine yP ?_;refine yP ?_;refine yU ?_;refine yM ?_;refine y3 ?_;refine aH ?_
  exact aF hr.log rfl rfl
theorem vv(F:FnsW T){h:Heap}(hr:Rdy h)(w ht:Int):Pu T 76 [.int .i64 w, .int .i64 ht] h (.bool (decide (OnB w ht))):=sK F.toFnsE.toFnsA.p F.f76 F.toFnsE.toFnsA.f77 hr w ht
theorem mX.BH{a:Option Addr}{n c:Nat}{kerf:Int}{l:List Kd}{er:Int}(v:Value)(h':Heap)(m:List Nat)(q:mX a n c kerf l er v h'):mX a n c kerf l er v {h' with log:=m}:=by
 obtain⟨p,h1,h2⟩:=q
 refine⟨p,h1,fun e=> ?_⟩
 obtain⟨bb,wa,wc,q1,q2,q3⟩:=h2 e
 exact⟨bb,wa,wc,q1,q2,q3.log _⟩
def gD(kerf:Int)(l:List Kd)(w ht:Int):Int:=look (oq kerf (l.map (·.bq)) l (aU w.toNat ht.toNat)) (w,ht)
def AD(kerf:Int)(l:List Kd)(w ht:Int):Value:= .tuple #[.int .i64 (if asked kerf l (OnB w ht)=0 then gD kerf l w ht else 0), .int .i64 (asked kerf l (OnB w ht))]
set_option maxHeartbeats 4000000 in
theorem I9(F:FnsW T){h:Heap}(hr:Rdy h){a:Option Addr}{n c:Nat}{l:List Kd}(hs:aA h 5 (.slice a n c) n (kcs l))(kerf:Int)(hn:n<1000000)(w ht:Int):Pu T 32 [.agg #[.slice a n c, .int .i64 kerf], .int .i64 w, .int .i64 ht] h (AD kerf l w ht):=by
 refine .of F.toFnsE.toFnsA.p F.f32 hr rfl ?_
 have hx:Ext h (h.push (.cells [.slice a n c, .int .i64 kerf] true 1)):=(Ext.refl h).push _
 obtain rfl:n=l.length:=by have:=hs.len;rw[cP]at this;omega
 refine y4 ?_;refine yB ?_;refine yM ?_;refine yM ?_;refine y3 ?_;refine aq ?_;refine cG ?_
 refine qN ?_
 refine qM ?_;refine qM ?_
 refine qC ?_
 refine FW.puD (vv F (.of (hx.wf hr.wf)) w ht) (by apply aa rfl;apply aa rfl;apply aM rfl (ay rfl (cS (by exact rfl) (by(simp(disch:=first|omega|(simp only[z1,z2];omega))only[z3,z4,z5,z6,z7,z1,z2, *];exact rfl)) (by exact rfl) (by exact rfl)) (by exact eU (by refine bN (gC _ _ _) ?_;refine bN (dz _ _) ?_;exact eW))) rfl;exact bT) ?_
 refine jB rfl rfl rfl (by exact rfl) (by exact rfl) (by exact rfl) (gE (by exact rfl) (by exact rfl)) (by refine b8 (ay rfl (cS (by exact rfl) (by(simp(disch:=first|omega|(simp only[z1,z2];omega))only[z3,z4,z5,z6,z7,z1,z2, *];exact rfl)) (by exact rfl) (by exact rfl)) (by exact eU (by refine bN (gC _ _ _) ?_;refine bN (dz _ _) ?_;exact eW))) ?_;exact jx) ?_
 refine qC ?_
 have hx2:=hx.push (.cells [.bool (decide (OnB w ht))] true 1)
 refine FW.alD (lD F.toFnsE (.of (hx2.wf hr.wf)) ((hs.ext hx2).log []) kerf hn (bl:=[decide (OnB w ht)]) (m:=1) (.mem ⟨Nat.lt_succ_self _,⟨_,_,_,z3 _ _,rfl⟩,rfl⟩ (Nat.le_refl _)) (by omega)) (fun v h' m q=>mX.BH v h' m q) ?_
 rintro _ h1 hx3 ⟨p,rfl,hst⟩
 rw[fk]at hst
 rw[fk]
 refine⟨_,by apply aa rfl;apply aa rfl;exact bT,?_⟩
 have w1:WF h1:=hx3.wf (hx2.wf hr.wf)
 have hx13:Ext h h1:=hx2.trans hx3
 by_cases ha:asked kerf l (OnB w ht)=0
 ·obtain⟨bb,wa,wc,rfl,gb,hws⟩:=hst ha
  have hP:=jc ha
  obtain⟨q1,q2,q3,q4⟩:=dY.1 hP.1
  obtain⟨⟨e1,e2⟩,e3,e4⟩:=hP.2
  obtain⟨wn,rfl⟩:=Int.eq_ofNat_of_zero_le (show 0≤w by omega)
  obtain⟨hn',rfl⟩:=Int.eq_ofNat_of_zero_le (show 0≤ht by omega)
  unfold AD
  rw[if_pos ha,ha]
  refine qM ?_;refine qE ?_;refine qE ?_
  refine qM ?_;refine qM ?_;refine cF ?_;refine y1 ?_;refine aP ?_;refine aq ?_;refine y4 ?_
  refine yM ?_;refine yf ?_;refine y3 ?_;refine yX ?_;refine aB ?_;refine aP ?_;refine y4 ?_
  refine yM ?_;refine yM ?_;refine yM ?_
  refine yC ?_
  refine FW.al (yZ F.toFnsV (.of w1) (w:=wn) (ht:=hn') (W:=1000000) (ws:=l.map (·.bq)) (by omega) (by omega) (by omega) ⟨by omega,by omega⟩ (by omega) (fun x hx=> ?_) gb ((hs.ext hx13).log []) (hws.log [])) (fun _ _ _ q=>q) ?_
  ·obtain⟨k,hk,rfl⟩:=List.mem_map.1 hx
   have:=(q3 k hk).2.2.2
   exact this
  rintro _ h2 hx4 ⟨r,rfl,gr⟩
  refine yM ?_;refine yM ?_;refine af (ck (by exact rfl)) ?_
  refine af (dH (x:=((wn:Int),(hn':Int))) (by exact rfl) (by exact rfl) gr) ?_
  refine yM ?_;refine yM ?_;refine y3 ?_;refine aH ?_
  exact aF ((hx13.trans hx4).log.trans hr.log) rfl rfl
 ·unfold AD
  rw[if_neg ha]
  refine qM ?_;refine qE ?_;refine qE ?_
  refine qM ?_;refine qM ?_;refine cF ?_;refine y1 ?_;refine aP ?_;refine aq ?_;refine y4 ?_
  refine yM ?_;refine yt ?_;refine y3 ?_;refine yY ?_;refine y4 ?_;refine yM ?_
  refine yM ?_;refine yM ?_;refine y3 ?_;refine aH ?_;refine ej ?_
  exact aF (hx13.log.trans hr.log) rfl rfl
end Go.A.Pk
end
section
set_option maxRecDepth 100000
namespace Go.A.Pk
variable {T:Nat→Option ah}
theorem iV{α:Type}(z:List α):∀n,(dx n z).length=n*z.length
 |0=>by simp[dx]
 |n+1=>by rw[dx,dB,List.length_append,iV z n,Nat.add_mul,Nat.one_mul,Nat.add_comm]
theorem rN{α:Type}(z:List α)(m:Nat):∀n,dx (n+m) z=dx n z++dx m z
 |0=>by simp[dx]
 |n+1=>by rw[Nat.succ_add,dx,dx,dB,dB,rN z m n,List.append_assoc]
end Go.A.Pk
end
section
set_option maxRecDepth 100000
namespace Go.A.Pk
variable {T:Nat→Option ah}
def us(pl:List Nat):List Value:=pl.map fun n=> .int .u64 (n:Nat)
end Go.A.Pk
end
section
set_option maxRecDepth 100000
namespace Go.A.Pk
variable {T:Nat→Option ah}
def IG(k:Kd)(a b:Int):Prop:=(a≤k.w∧b≤k.h)∨(k.j4=true∧a≤k.h∧b≤k.w)
instance(k:Kd)(a b:Int):Decidable (IG k a b):=by unfold IG;infer_instance
def NZ(pl:List Nat):Prop:=¬pl.all (· ==0)=true
instance(pl:List Nat):Decidable (NZ pl):=by unfold NZ;infer_instance
theorem rY:∀xs:List Int,fB (ints xs)=true
 |[]=>rfl
 |x::xs=>by
  have:=rY xs
  simp only[ints,List.map_cons,fB]at this⊢
  simpa using this
theorem r9{x y:Value}{n i:Nat}(hi:i<n):dM 2 (dN (0+i*2) (dx n [x,y]))=[x,y]:=by
 obtain⟨m,rfl⟩:∃m,n=i+(m+1):=⟨n-i-1,by omega⟩
 rw[Nat.zero_add,cu,dj,rN,List.drop_append_of_le_length (by rw[iV];exact Nat.le_refl _),List.drop_of_length_le (by rw[iV];exact Nat.le_refl _),List.nil_append,dx,dB]
 rfl
end Go.A.Pk
end
section
set_option maxRecDepth 100000
namespace Go.A.Pk
variable {T:Nat→Option ah}
theorem uo{c:Nat}:∀{n j:Nat},j<n→∃r,row c n=row c j++(c,j+1)::r
 |n+1,j,h=>by
  rw[ia]
  by_cases hj:j<n
  ·obtain⟨r,e⟩:=uo (c:=c) hj
   exact⟨r++[(c,n+1)],by rw[e];simp⟩
  ·obtain rfl:j=n:=by omega
   exact⟨[],rfl⟩
theorem lJ{ht i j:Nat}(hj:j<ht):∀{w:Nat},i<w→∃r,aU w ht=(aU i ht++row (i+1) j)++(i+1,j+1)::r
 |w+1,h=>by
  simp only[aU]
  by_cases hi:i<w
  ·obtain⟨r,e⟩:=lJ hj hi
   exact⟨r++row (w+1) ht,by rw[e];simp⟩
  ·obtain rfl:i=w:=by omega
   obtain⟨r,e⟩:=uo (c:=i+1) hj
   exact⟨r,by rw[e];simp⟩
set_option maxHeartbeats 4000000 in
theorem zf(hp:bC T)(hf:T 136=some f136){h:Heap}(hr:Rdy h){bw bh l N lo w ht:Nat}{P:List (Nat×Nat)→Heap→Prop}(hN:N≤h.next)(hlo:lo≤h.next)(hw16:w<1000)(hh16:ht<1000){q:Nat}(Y:FQ T lo N l q dV (aU w ht) P)
 (hbw:∀d H,P d H→H.get bw=some (.cells [.int .i64 w] true 1))(hbh:∀d H,P d H→H.get bh=some (.cells [.int .i64 ht] true 1))(h0:P [] h):
 Gr T 136 [.func (.yield l) #[] #[], .pointer (some ⟨bw,0,none⟩), .pointer (some ⟨bh,0,none⟩)] h lo fun v h'=>v= .tuple #[]∧P (aU w ht) h':=by
 have hqn:q<h.next:=Nat.lt_of_lt_of_le Y.hq hN
 refine Gr.ofK hp hf hlo (fun v h1 hA p=>He Y hqn hA hr.log p) ?_
 refine y4 ?_;refine yM ?_;refine y3 ?_;refine aC ?_
 refine dP (fun k e ds h'=>∃i:Nat,i≤w∧k=w-i∧e=[(0, .func (.yield l) #[] #[]),(1, .pointer (some ⟨bw,0,none⟩)),(2, .pointer (some ⟨bh,0,none⟩)),(4, .int .i64 (i+1:Nat))]∧ds=[]∧Lk lo h h'∧P (aU i ht) h'∧(h'=h∨q∈h'.log∧gY h' q))
  ⟨0,Nat.zero_le _,rfl,rfl,rfl, .refl _ _,h0, .inl rfl⟩ ?_
 rintro k e ds h' ⟨i,hi,rfl,rfl,rfl,hk,hP,hm⟩
 have g1:=hbw _ _ hP
 by_cases hlt:i<w
 ·refine aq ?_;refine y4 ?_;refine yM ?_;refine yL ?_;refine yt ?_;refine y3 ?_
  refine yY ?_;refine aB ?_;refine aP ?_;refine aq ?_;refine aC ?_;refine y4 ?_;refine yM ?_;refine y3 ?_;refine aC ?_
  refine dP (fun k e ds h''=>∃j:Nat,j≤ht∧k=ht-j∧e=[(0, .func (.yield l) #[] #[]),(1, .pointer (some ⟨bw,0,none⟩)),(2, .pointer (some ⟨bh,0,none⟩)),(4, .int .i64 (i+1:Nat)),(5, .int .i64 (j+1:Nat))]∧ds=[]∧Lk lo h h''∧P (aU i ht++row (i+1) j) h''∧(h''=h∨q∈h''.log∧gY h'' q))
   ⟨0,Nat.zero_le _,rfl,rfl,rfl,hk,by simpa[row]using hP,hm⟩ ?_
  clear g1 hP hk hm h'
  rintro k e ds h' ⟨j,hj,rfl,rfl,rfl,hk,hP,hm⟩
  have g2:=hbh _ _ hP
  by_cases hjt:j<ht
  ·refine aq ?_;refine y4 ?_;refine yM ?_;refine yL ?_;refine yt ?_;refine y3 ?_
   refine yY ?_;refine aB ?_;refine aP ?_;refine aq ?_;refine aC ?_;refine y4 ?_;refine yM ?_;refine yM ?_;refine yM ?_;refine af (ck (by exact rfl)) ?_
   refine gj (fn:= .yield l) (args:=[dV (i+1,j+1)]) (by rfl) ?_
   obtain⟨rest,hsp⟩:=lJ hjt hlt
   refine Y.call hp hsp (hk.wf hr.wf) (Nat.le_trans hlo hk.next) (Nat.le_trans hN hk.next) hqn hP ?_
   intro h2 hk2 hm2 hP2
   rw[List.append_assoc,←ia]at hP2
   refine yA ?_;refine y3 ?_;refine yX ?_;refine aB ?_;refine cZ ?_;refine aP ?_;refine aD ?_;refine yM ?_
   refine fV ?_;refine yM ?_;refine y3 ?_
   exact⟨ht-(j+1),by omega,j+1,by omega,rfl,rfl,rfl,hk.trans hk2,hP2, .inr hm2⟩
  ·obtain rfl:j=ht:=by omega
   refine aq ?_;refine y4 ?_;refine yM ?_;refine yL ?_;refine yf ?_;refine y3 ?_
   refine yX ?_;refine cY ?_;refine dQ ?_;refine dQ ?_;refine iW ?_;refine cZ ?_;refine aP ?_;refine aD ?_;refine yM ?_;refine fV ?_;refine yM ?_;refine y3 ?_
   exact⟨w-(i+1),by omega,i+1,by omega,rfl,rfl,rfl,hk,hP,hm⟩
 ·obtain rfl:i=w:=by omega
  refine aq ?_;refine y4 ?_;refine yM ?_;refine yL ?_;refine yf ?_;refine y3 ?_
  refine yX ?_;refine cY ?_;refine dQ ?_;refine dQ ?_;refine iW ?_
  exact oP (hk.log (by rw[hr.log];exact dG.nil _)) rfl ⟨rfl,hP,hm⟩
end Go.A.Pk
end
section
namespace Go.A.Pk
def foldM{α:Type}(f:α→Int)(xs:List α)(m:Int):Int:=xs.foldl (fun m x=>mx m (f x)) m
theorem iH{α:Type}{f:α→Int}:∀{xs:List α} {m:Int},m≤foldM f xs m∧∀x∈xs,f x≤foldM f xs m
 |[],m=>⟨Int.le_refl _,fun x hx=>by cases hx⟩
 |y::xs,m=>by
  have h:=iH (f:=f) (xs:=xs) (m:=mx m (f y))
  have hm:=CT (a:=m) (b:=f y)
  refine⟨Int.le_trans hm.1 h.1,fun x hx=> ?_⟩
  rcases List.mem_cons.1 hx with rfl|hx
  ·exact Int.le_trans hm.2 h.1
  ·exact h.2 x hx
theorem oM{α:Type}{f:α→Int}{B:Int}:∀{xs:List α} {m:Int},m≤B→(∀x∈xs,f x≤B)→foldM f xs m≤B
 |[],m,h,_=>h
 |y::xs,m,h,hx=>oM (xs:=xs) (m:=mx m (f y)) (Ew h (hx y (List.mem_cons_self ..))) fun x hx'=>hx x (List.mem_cons_of_mem _ hx')
theorem j9{α:Type}{f g:α→Int}:∀{xs:List α} {m:Int},(∀x∈xs,f x=g x)→foldM f xs m=foldM g xs m
 |[],_,_=>rfl
 |y::xs,m,h=>by
  show foldM f xs (mx m (f y))=foldM g xs (mx m (g y))
  rw[h y (List.mem_cons_self ..),j9 fun x hx=>h x (List.mem_cons_of_mem _ hx)]
def VF(kerf:Int)(ws:List Int)(kl:List Kd):Nat→Int×Int→Int
 |0,_=>0
 |n+1,p=>if 1≤p.1∧1≤p.2 then foldM (fun x=>VF kerf ws kl n (cg x p.1.toNat p.2.toNat)+VF kerf ws kl n (cm kerf x p.1.toNat p.2.toNat)) (dD p.1.toNat p.2.toNat) (ig ws (aZ p.1.toNat p.2.toNat kl 0) 0)else 0
def sz(p:Int×Int):Nat:=p.1.toNat+p.2.toNat
theorem vu{kerf:Int}(hk:0≤kerf){a b:Nat}{x:Nat×Nat}(hx:x∈dD a b):sz (cg x a b)<a+b∧sz (cm kerf x a b)<a+b:=by
 unfold sz
 rcases fy hx with⟨e3,hl,hu⟩|⟨e4,hl,hu⟩
 ·simp only[cg,cm,e3,if_true];omega
 ·have n3:¬x.1=3:=by omega
  simp only[cg,cm,if_neg n3];omega
theorem uW{kerf:Int}(hk:0≤kerf){ws:List Int}{kl:List Kd}:∀{n:Nat} {p:Int×Int},sz p≤n→VF kerf ws kl (n+1) p=VF kerf ws kl n p
 |0,p,h=>by
  unfold sz at h
  simp only[VF]
  rw[if_neg (by omega)]
 |n+1,p,h=>by
  rw[VF,VF]
  split
  ·refine j9 fun x hx=> ?_
   have:=vu hk hx
   unfold sz at h
   rw[uW hk (by omega),uW hk (by omega)]
  ·rfl
theorem Is{kerf:Int}(hk:0≤kerf){ws:List Int}{kl:List Kd}{n:Nat}{p:Int×Int}(h:sz p≤n):∀{m:Nat},n≤m→VF kerf ws kl m p=VF kerf ws kl n p:=by
 intro m hm
 induction m with
 |zero=>obtain rfl:n=0:=by omega
        rfl
 |succ m ih=>
  by_cases e:n=m+1
  ·rw[e]
  ·rw[uW hk (by omega),ih (by omega)]
def V(kerf:Int)(ws:List Int)(kl:List Kd)(p:Int×Int):Int:=VF kerf ws kl (sz p) p
theorem oy{kerf:Int}{ws:List Int}{kl:List Kd}{p:Int×Int}(h:¬ (1≤p.1∧1≤p.2)):V kerf ws kl p=0:=by
 unfold V
 cases sz p with
 |zero=>rfl
 |succ n=>rw[VF,if_neg h]
theorem xJ{kerf:Int}(hk:0≤kerf){ws:List Int}{kl:List Kd}{a b:Nat}(ha:1≤a)(hb:1≤b):V kerf ws kl ((a:Int),(b:Int))=foldM (fun x=>V kerf ws kl (cg x a b)+V kerf ws kl (cm kerf x a b)) (dD a b) (ig ws (aZ a b kl 0) 0):=by
 have hs:sz ((a:Int),(b:Int))=a+b:=by simp[sz]
 unfold V
 rw[hs]
 obtain⟨n,hn⟩:∃n,a+b=n+1:=⟨a+b-1,by omega⟩
 rw[hn,VF,if_pos ⟨by show(1:Int)≤a;omega,by show(1:Int)≤b;omega⟩]
 show foldM (fun x=>VF kerf ws kl n (cg x a b)+VF kerf ws kl n (cm kerf x a b)) (dD a b) _=_
 refine j9 fun x hx=> ?_
 have:=vu hk hx
 rw[Is hk (n:=sz (cg x a b)) (Nat.le_refl _) (by omega),Is hk (n:=sz (cm kerf x a b)) (Nat.le_refl _) (by omega)]
theorem jr{x:Nat×Nat}{v:Int}:∀(t:Tab) (y:Int×Int),look (upd t x v) y=if y=((x.1:Int),(x.2:Int))then v else look t y
 |[],y=>by
  have e1:isKey y (x,v)=decide (y=((x.1:Int),(x.2:Int))):=by
   unfold isKey
   exact decide_eq_decide.2 ⟨fun q=>Prod.ext q.1 q.2,fun q=>by rw[q];exact⟨rfl,rfl⟩⟩
  simp only[upd,look]
  rw[e1]
  by_cases h:y=((x.1:Int),(x.2:Int))
  ·simp[h]
  ·simp[h]
 |e::t,y=>by
  simp only[upd]
  by_cases hk:isKey (x.1,x.2) e=true
  ·rw[if_pos hk]
   simp only[look]
   simp only[isKey,decide_eq_true_eq]at hk
   have e1:isKey y (x,v)=decide (y=((x.1:Int),(x.2:Int))):=by
    unfold isKey
    exact decide_eq_decide.2 ⟨fun q=>Prod.ext q.1 q.2,fun q=>by rw[q];exact⟨rfl,rfl⟩⟩
   have e2:isKey y e=decide (y=((x.1:Int),(x.2:Int))):=by
    unfold isKey
    exact decide_eq_decide.2 ⟨fun q=>Prod.ext (q.1.trans hk.1.symm) (q.2.trans hk.2.symm),fun q=>by rw[q];exact hk⟩
   rw[e1,e2]
   by_cases h:y=((x.1:Int),(x.2:Int))
   ·simp[h]
   ·simp[h]
  ·rw[if_neg hk]
   simp only[look]
   rw[jr t y]
   by_cases h:y=((x.1:Int),(x.2:Int))
   ·have:isKey y e=false:=by rw[h];simpa using hk
    simp[h,this]
    intro q
    rw[h]at this
    rw[this]at q;cases q
   ·simp[h]
theorem oN{kerf:Int}(hk:0≤kerf){ws:List Int}{kl:List Kd}{h:Nat}:∀(i j:Nat),j≤h→∀y:Int×Int,look (oq kerf ws kl (aU i h++row (i+1) j)) y=
 if(1≤y.1∧y.1≤i∧1≤y.2∧y.2≤h)∨(y.1=(i:Int)+1∧1≤y.2∧y.2≤j)then V kerf ws kl y else 0
 |0,0,_,y=>by
  rw[if_neg (by omega)]
  rfl
 |i+1,0,hj,y=>by
  have e:aU (i+1) h++row (i+1+1) 0=aU i h++row (i+1) h:=by simp[aU,row]
  rw[e,oN hk i h (Nat.le_refl _) y]
  have:((1≤y.1∧y.1≤i∧1≤y.2∧y.2≤h)∨(y.1=(i:Int)+1∧1≤y.2∧y.2≤h))↔((1≤y.1∧y.1≤(i+1:Nat)∧1≤y.2∧y.2≤h)∨(y.1=((i+1:Nat):Int)+1∧1≤y.2∧y.2≤(0:Nat))):=by omega
  by_cases hc:(1≤y.1∧y.1≤i∧1≤y.2∧y.2≤h)∨(y.1=(i:Int)+1∧1≤y.2∧y.2≤h)
  ·rw[if_pos hc,if_pos (this.1 hc)]
  ·rw[if_neg hc,if_neg (fun q=>hc (this.2 q))]
 |i,j+1,hj,y=>by
  have ih:=oN hk (ws:=ws) (kl:=kl) (h:=h) i j (by omega)
  rw[ia,←List.append_assoc,pn,jr,ih y]
  have hval:val kerf ws kl (oq kerf ws kl (aU i h++row (i+1) j)) (i+1) (j+1)=V kerf ws kl (((i+1:Nat):Int),((j+1:Nat):Int)):=by
   rw[xJ hk (by omega) (by omega)]
   show foldM _ _ _=foldM _ _ _
   refine j9 fun x hx=> ?_
   rw[ih,ih]
   have key:∀z:Int×Int,(1≤z.1∧1≤z.2→((1≤z.1∧z.1≤i∧1≤z.2∧z.2≤h)∨(z.1=(i:Int)+1∧1≤z.2∧z.2≤j)))→(if(1≤z.1∧z.1≤i∧1≤z.2∧z.2≤h)∨(z.1=(i:Int)+1∧1≤z.2∧z.2≤j)then V kerf ws kl z else 0)=V kerf ws kl z:=fun z hz=>by
    by_cases hc:1≤z.1∧1≤z.2
    ·rw[if_pos (hz hc)]
    ·rw[if_neg (by omega),oy hc]
   rcases fy hx with⟨e3,hl,hu⟩|⟨e4,hl,hu⟩
   ·rw[key _ (by simp only[cg,e3,if_true];omega),key _ (by simp only[cm,e3,if_true];omega)]
   ·have n3:¬x.1=3:=by omega
    rw[key _ (by simp only[cg,if_neg n3];omega),key _ (by simp only[cm,if_neg n3];omega)]
  by_cases he:y=(((i+1:Nat):Int),((j+1:Nat):Int))
  ·rw[if_pos he,hval,if_pos (by rw[he];simp;omega),he]
  ·rw[if_neg he]
   have hne:¬ (y.1=((i+1:Nat):Int)∧y.2=((j+1:Nat):Int)):=fun q=>he (Prod.ext q.1 q.2)
   by_cases hc:(1≤y.1∧y.1≤i∧1≤y.2∧y.2≤h)∨(y.1=(i:Int)+1∧1≤y.2∧y.2≤j)
   ·rw[if_pos hc,if_pos (by omega)]
   ·rw[if_neg hc,if_neg (by omega)]
theorem mB{kerf:Int}(hk:0≤kerf){l:List Kd}{w ht:Int}(hw:1≤w)(hh:1≤ht):gD kerf l w ht=V kerf (l.map (·.bq)) l (w,ht):=by
 unfold gD
 have:=oN hk (ws:=l.map (·.bq)) (kl:=l) (h:=ht.toNat) w.toNat 0 (Nat.zero_le _) (w,ht)
 rw[show aU w.toNat ht.toNat++row (w.toNat+1) 0=aU w.toNat ht.toNat by simp[row]]at this
 rw[this,if_pos]
 exact .inl ⟨hw,by show w≤w.toNat;omega,hh,by show ht≤ht.toNat;omega⟩
end Go.A.Pk
end
section
set_option maxRecDepth 100000
namespace Go.A.Pk
variable {T:Nat→Option ah}
section
variable {base:Nat} {h:Heap} {e:Env}
theorem Iv{x:Operand}{a:Option Addr}{n c:Nat}(hx:ev h e x=some (.slice a n c))(hc:c<1000000):aop h base e (.cap x)=some (.val (.int .i64 c) h):=by
 simp only[aop,hx,jW (show c≠UNK by unfold UNK;omega),cond_false]
theorem xG{size:Nat}{x:Operand}{hi:Option Operand}(hx:ev h e x=some (.slice none 0 0))(hh:bnd h e 0 hi=some 0):aop h base e (.slice (.sl size) x none hi none)=some (.val (.slice none 0 0) h):=by
 simp only[aop,hx,eY,kH,hh]
 rfl
theorem zn{z:List Value}{bytes n m:Nat}{k:IntKind}{x y:Operand}(hx:ev h e x=some (.slice none 0 0))(hy:ev h e y=some (.int k (n:Nat)))(h0:n≠0)(hb:(2*(0+n)+768)*bytes≤281474976710656)(hb2:n*bytes≤281474976710656)(hn:n<1000000)(hm:cI z=m):
 aop h base e (.iA z bytes x y)=some (.val (.slice (some ⟨h.next,0,none⟩) n UNK) (h.push (.cells (dx n z) true m))):=by
 subst hm
 simp only[aop,hx,hy,ue,gP (show n<9223372036854775808 by omega),fe hb2,Bool.and_self,cond_true,gi,jW h0,cond_false,fe hb,Nat.beq,dU]
end
structure FnsJ (T:Nat→Option ah):Prop where
 p:bC T
 f126:T 126=some f126
 f150:T 150=some f150
 f176:T 176=some f176
theorem AM(F:FnsJ T){h:Heap}(hr:Rdy h){n:Nat}(hn:n<100000):
 Al T 176 [.slice none 0 0, .int .i64 n] h fun v h'=>(n=0∧v= .slice none 0 0)∨(0<n∧∃q,h.next≤q∧q<h'.next∧v= .slice (some ⟨q,0,none⟩) 0 UNK∧h'.get q=some (.cells (dx n [.int .u8 0, .int .i64 0]) true 2)):=by
 refine .of F.p F.f176 hr (fun v h1 hv q=> ?_) ?_
 ·rcases q with q|⟨_,q,_,_,rfl,_⟩
  ·exact .inl q
  ·simp[cD,fR,flat,cp,jj,fA]at hv
 refine y4 ?_;refine yM ?_;refine y3 ?_;refine aq ?_;refine y4 ?_;refine yM ?_;refine yf ?_
 refine y3 ?_;refine yX ?_;refine aB ?_;refine aP ?_;refine aq ?_;refine y4 ?_;refine yM ?_;refine yM ?_
 refine af (Iv (by exact rfl) (by omega)) ?_
 by_cases h0:n=0
 ·refine yM ?_;refine yD ?_;refine vS ?_;refine vS ?_;refine yM ?_;refine y3 ?_;refine y4 ?_;refine yM ?_;refine yf ?_;refine y3 ?_;refine yX ?_;refine aB ?_;refine aP ?_;refine y4 ?_;refine yM ?_;refine yM ?_;refine y3 ?_;refine aH ?_
  exact dn hr.log rfl (.inl ⟨h0,rfl⟩)
 ·refine yM ?_;refine yD ?_;refine vS ?_;refine vS ?_;refine yM ?_;refine y3 ?_;refine y4 ?_;refine yM ?_;refine yt ?_;refine y3 ?_;refine yY ?_;refine aD ?_;refine yM ?_;refine yM ?_
  refine af (Iv (by exact rfl) (by omega)) ?_
  refine af (xG (by exact rfl) (by exact kQ (n:=0) rfl)) ?_
  refine yM ?_
  rw[show(n:Int)-(((0:Nat):Int)-((0:Nat):Int))=n by omega]
  refine af (zn (by exact rfl) (by exact rfl) h0 (by omega) (by omega) (by omega) (by exact rfl)) ?_
  refine yM ?_;refine yD ?_
  refine af (zP (i:=0) (n:=n) (by exact rfl) (by exact rfl) (z3 _ _) (Nat.zero_le _) (by omega)) ?_
  refine yM ?_;refine y3 ?_;refine y4 ?_;refine yM ?_;refine yM ?_;refine y3 ?_;refine aH ?_
  exact dn hr.log rfl (.inr ⟨by omega,h.next,Nat.le_refl _,Nat.lt_succ_self _,rfl,z3 _ _⟩)
theorem HA(F:FnsJ T){h:Heap}(hr:Rdy h):Pu T 150 [.slice none 0 0] h (.slice none 0 0):=by
 refine .of F.p F.f150 hr rfl ?_
 refine y4 ?_;refine yM ?_;refine y3 ?_;refine y4 ?_;refine yM ?_;refine y3 ?_;refine aq ?_;refine y4 ?_;refine yM ?_;refine yD ?_;refine yM ?_;refine y3 ?_;refine aC ?_
 refine iM ?_
 refine y4 ?_;refine yf ?_;refine y3 ?_;refine aq ?_;refine yX ?_;refine cY ?_;refine dQ ?_;refine dQ ?_;refine iW ?_;refine aP ?_
 refine y4 ?_;refine yM ?_
 refine yC ?_
 refine FW.al (AM F (.of hr.wf) (n:=0) (by omega)) (fun _ _ _ q=>q) ?_
 rintro _ h2 hx2 (⟨_,rfl⟩|⟨h0,_⟩)
 ·refine yM ?_;refine y3 ?_;refine aq ?_;refine y4 ?_;refine yM ?_;refine yD ?_;refine yM ?_;refine y3 ?_;refine aC ?_
  refine iM ?_
  refine y4 ?_;refine yf ?_;refine y3 ?_;refine aq ?_;refine yX ?_;refine cY ?_;refine dQ ?_;refine dQ ?_;refine iW ?_;refine aP ?_
  refine y4 ?_;refine yM ?_;refine yM ?_;refine y3 ?_;refine aH ?_
  exact aF (hx2.log.trans hr.log) rfl rfl
 ·omega
theorem L9{n1 n2:Nat}{z cs:List Value}(hz:z.length=2)(hc:cs.length=n1*2):cW (dx (n1+n2) z) (0+0*2) cs=cs++dx n2 z:=by
 rw[nj (by rw[iV,hz];omega)]
 simp only[Nat.zero_mul,Nat.add_zero,Nat.zero_add,List.take_zero,List.nil_append]
 rw[hc,rN,show n1*2=(dx n1 z).length by rw[iV,hz],List.drop_left]
theorem L5{n1 n2:Nat}{z c1 cs:List Value}(hz:z.length=2)(h1:c1.length=n1*2)(hc:cs.length=n2*2):cW (c1++dx n2 z) (0+n1*2) cs=c1++cs:=by
 rw[nj (by rw[List.length_append,iV,hz];omega),Nat.zero_add,←h1,List.take_left,hc]
 rw[List.drop_of_length_le (by rw[List.length_append,iV,hz];omega),List.append_nil]
set_option maxHeartbeats 8000000 in
theorem Hf(F:FnsJ T){h:Heap}(hr:Rdy h){p n1 n2:Nat}{v1 v2:Value}{cs1 cs2:List Value}(gp:h.get p=some (.cells [v1,v2] true 1))(s1:aA h 2 v1 n1 cs1)(s2:aA h 2 v2 n2 cs2)(o1:fB cs1=true)(o2:fB cs2=true)(h1:0<n1)(hb:n1+n2<100000):
 Al T 150 [.slice (some ⟨p,0,none⟩) 2 2] h fun v h'=>∃q,v= .slice (some ⟨q,0,none⟩) (n1+n2) UNK∧q<h'.next∧h'.get q=some (.cells (cs1++cs2) true 2):=by
 refine .of F.p F.f150 hr (fun v h1 hv q=> ?_) ?_
 ·obtain⟨q,rfl,_⟩:=q
  simp[cD,fR,flat,cp,jj,fA]at hv
 obtain⟨a1,c1,rfl⟩:=s1.form
 obtain⟨a2,c2,rfl⟩:=s2.form
 have kp:=WF.aT hr.wf gp
 have l1:=s1.len
 have l2:=s2.len
 refine y4 ?_;refine yM ?_;refine y3 ?_;refine y4 ?_;refine yM ?_;refine y3 ?_;refine aq ?_;refine y4 ?_;refine yM ?_;refine yD ?_;refine yM ?_;refine y3 ?_;refine aC ?_
 refine iM ?_
 refine y4 ?_;refine yt ?_;refine y3 ?_;refine aq ?_;refine yY ?_;refine aB ?_;refine aP ?_;refine aq ?_;refine aC ?_;refine y4 ?_
 refine af (aN (i:=0) (by exact rfl) (by exact rfl) (by omega)) ?_
 refine yL ?_;refine yM ?_;refine y3 ?_;refine y4 ?_;refine yM ?_;refine yM ?_
 refine yD ?_;refine qS ?_;refine yM ?_;refine y3 ?_;refine y4 ?_
 refine yM ?_;refine yf ?_;refine y3 ?_;refine yX ?_;refine aB ?_;refine cZ ?_;refine aP ?_;refine aD ?_
 refine qS ?_;refine yM ?_;refine y3 ?_
 refine iM ?_
 refine y4 ?_;refine yt ?_;refine y3 ?_;refine aq ?_;refine yY ?_;refine aB ?_;refine aP ?_;refine aq ?_;refine aC ?_;refine y4 ?_
 refine af (aN (i:=1) (by exact rfl) (by exact rfl) (by omega)) ?_
 refine yL ?_;refine yM ?_;refine y3 ?_;refine y4 ?_;refine yM ?_;refine yM ?_
 refine yD ?_;refine qS ?_;refine yM ?_;refine y3 ?_;refine y4 ?_
 refine yM ?_;refine yf ?_;refine y3 ?_;refine yX ?_;refine aB ?_;refine cZ ?_;refine aP ?_;refine aD ?_
 refine qS ?_;refine yM ?_;refine y3 ?_
 refine iM ?_
 refine y4 ?_;refine yf ?_;refine y3 ?_;refine aq ?_;refine yX ?_;refine cY ?_;refine dQ ?_;refine dQ ?_;refine iW ?_;refine aP ?_
 refine y4 ?_;refine yM ?_
 rw[show(0:Int)+(n1:Int)+(n2:Int)=((n1+n2:Nat):Int)by omega]
 refine yC ?_
 refine FW.al (AM F (.of hr.wf) hb) (fun _ _ _ q=>q) ?_
 rintro _ h2 hx2 (⟨h0,_⟩|⟨_,q,hq1,hq2,rfl,gq⟩)
 ·omega
 have gp2:=(hx2.old _ kp).trans gp
 have t1:=s1.ext hx2
 have hq1':h.next≤q:=hq1
 have hpq:p≠q:=by omega
 clear gp
 refine yM ?_;refine y3 ?_;refine aq ?_;refine y4 ?_;refine yM ?_;refine yD ?_;refine yM ?_;refine y3 ?_;refine aC ?_
 refine iM ?_
 refine y4 ?_;refine yt ?_;refine y3 ?_;refine aq ?_;refine yY ?_;refine aB ?_;refine aP ?_;refine aq ?_;refine aC ?_;refine y4 ?_
 refine af (aN (i:=0) (by exact rfl) (by exact rfl) (by omega)) ?_
 refine yL ?_;refine yM ?_;refine y3 ?_;refine aD ?_;refine yM ?_;refine yM ?_
 refine af (tF (len:=0) (n:=n1) (ws:=cs1++dx n2 [.int .u8 0, .int .i64 0]) (by exact rfl) (by exact rfl) (xO t1) (by omega) gq (by rw[iV];simp;omega) o1 (by omega) (L9 rfl l1)) ?_
 have hx3:Ext h (h2.wr h.next q (.cells (cs1++dx n2 [.int .u8 0, .int .i64 0]) true 2)):=hx2.wr hq1' hq1'
 have gq3:(h2.wr h.next q (.cells (cs1++dx n2 [.int .u8 0, .int .i64 0]) true 2)).get q=some (.cells (cs1++dx n2 [.int .u8 0, .int .i64 0]) true 2):=Heap.cr gq
 have gp3:(h2.wr h.next q (.cells (cs1++dx n2 [.int .u8 0, .int .i64 0]) true 2)).get p=some (.cells [.slice a1 n1 c1, .slice a2 n2 c2] true 1):=(z5 hpq).trans gp2
 have hq3:q<(h2.wr h.next q (.cells (cs1++dx n2 [.int .u8 0, .int .i64 0]) true 2)).next:=hq2
 generalize Heap.wr h2 h.next q _=h3 at*
 have t2:=s2.ext hx3
 clear gq gp2
 refine yM ?_;refine fo ?_;refine y1 ?_;refine cZ ?_;refine aP ?_;refine aD ?_;refine qS ?_;refine yM ?_;refine y3 ?_
 refine iM ?_
 refine y4 ?_;refine yt ?_;refine y3 ?_;refine aq ?_;refine yY ?_;refine aB ?_;refine aP ?_;refine aq ?_;refine aC ?_;refine y4 ?_
 refine af (aN (i:=1) (by exact rfl) (by exact rfl) (by omega)) ?_
 refine yL ?_;refine yM ?_;refine y3 ?_;refine aD ?_;refine yM ?_;refine yM ?_
 by_cases h0:n2=0
 ·subst h0
  obtain rfl:cs2=[]:=List.length_eq_zero_iff.1 (by simpa using l2)
  refine af (rq (by exact rfl) (by exact rfl) (xO t2) (by unfold UNK;omega)) ?_
  refine yM ?_;refine fo ?_;refine y1 ?_;refine cZ ?_;refine aP ?_;refine aD ?_;refine qS ?_;refine yM ?_;refine y3 ?_
  refine iM ?_
  refine y4 ?_;refine yf ?_;refine y3 ?_;refine aq ?_;refine yX ?_;refine cY ?_;refine dQ ?_;refine dQ ?_;refine iW ?_;refine aP ?_
  refine y4 ?_;refine yM ?_;refine yM ?_;refine y3 ?_;refine aH ?_
  refine dn (hx3.log.trans hr.log) rfl ⟨q,?_,hq3,?_⟩
  ·show Value.slice _ (0+n1) UNK=_
   rw[Nat.zero_add];rfl
  ·rw[gq3];simp[dx]
 ·refine af (tF (len:=0+n1) (n:=n2) (ws:=cs1++cs2) (by exact rfl) (by exact rfl) (xO t2) h0 gq3 (by rw[List.length_append,iV];simp;omega) o2 (by omega) (by rw[show 0+(0+n1)*2=0+n1*2 by omega];exact L5 (z:=[.int .u8 0, .int .i64 0]) rfl l1 l2)) ?_
  refine yM ?_;refine fo ?_;refine y1 ?_;refine cZ ?_;refine aP ?_;refine aD ?_;refine qS ?_;refine yM ?_;refine y3 ?_
  refine iM ?_
  refine y4 ?_;refine yf ?_;refine y3 ?_;refine aq ?_;refine yX ?_;refine cY ?_;refine dQ ?_;refine dQ ?_;refine iW ?_;refine aP ?_
  refine y4 ?_;refine yM ?_;refine yM ?_;refine y3 ?_;refine aH ?_
  refine dn ((hx3.wr hq1' hq1').log.trans hr.log) rfl ⟨q,?_,hq3,Heap.cr gq3⟩
  show Value.slice _ (0+n1+n2) UNK=_
  rw[Nat.zero_add]
def nd(x:Nat×Nat):List Value:=[.int .u8 x.1, .int .i64 x.2]
theorem AF(F:FnsJ T){h:Heap}(hr:Rdy h)(x:Nat×Nat):Al T 126 [eI x, .slice none 0 0] h fun v h'=>∃q,v= .slice (some ⟨q,0,none⟩) 1 1∧h.next≤q∧q<h'.next∧h'.get q=some (.cells (nd x) true 2):=by
 refine .of F.p F.f126 hr (fun v h1 hv q=> ?_) ?_
 ·obtain⟨q,rfl,_⟩:=q
  simp[cD,fR,flat,cp,jj,fA]at hv
 obtain⟨x1,x2⟩:=x
 unfold eI nd
 refine y4 ?_;refine yB ?_;refine yM ?_;refine y3 ?_;refine aq ?_;refine cG ?_
 refine qN ?_
 refine jB rfl rfl rfl (by exact rfl) (by exact rfl) (by exact rfl) (gE (by exact rfl) (by exact rfl)) (by refine b8 (ay rfl (cS (by exact rfl) (by(simp(disch:=first|omega|(simp only[z1,z2];omega))only[z3,z4,z5,z6,z7,z1,z2, *];exact rfl)) (by exact rfl) (by exact rfl)) (by exact eU (by refine bN (dz _ _) ?_;refine bN (dz _ _) ?_;exact eW))) ?_;exact jx) ?_
 refine qM ?_
 refine qC ?_
 have hx:Ext h ((h.push (.cells [.int .u8 x1, .int .i64 x2] true 1)).push (.cells [.int .u8 x1, .int .i64 x2] true 2)):=((Ext.refl h).push _).push _
 refine FW.puD (HA F (.of (hx.wf hr.wf))) (by apply aa rfl;apply aM rfl (oZ rfl) (by rfl);apply aM rfl (ay rfl (cS (by exact rfl) (by(simp(disch:=first|omega|(simp only[z1,z2];omega))only[z3,z4,z5,z6,z7,z1,z2, *];exact rfl)) (by exact rfl) (by exact rfl)) (by exact eU (by refine bN (dz _ _) ?_;refine bN (dz _ _) ?_;exact eW))) rfl;exact bT) ?_
 skip
 refine xh rfl rfl rfl (by exact rfl) (by exact rfl) (by exact rfl) (by exact rfl) (Nat.le_refl _) (by apply aa rfl;apply aa rfl;exact bT) ?_
 refine qM ?_;refine cF ?_;refine y1 ?_;refine aP ?_;refine aH ?_
 exact dn hr.log rfl ⟨h.next+1,rfl,Nat.le_succ _,Nat.lt_succ_self _,z3 _ _⟩
set_option maxHeartbeats 4000000 in
theorem GW(F:FnsJ T){h:Heap}(hr:Rdy h)(x:Nat×Nat){p n1 n2:Nat}{v1 v2:Value}{cs1 cs2:List Value}(gp:h.get p=some (.cells [v1,v2] true 1))(s1:aA h 2 v1 n1 cs1)(s2:aA h 2 v2 n2 cs2)(o1:fB cs1=true)(o2:fB cs2=true)(h1:0<n1)(hb:n1+n2<100000):
 Al T 126 [eI x, .slice (some ⟨p,0,none⟩) 2 2] h fun v h'=>∃q,v= .slice (some ⟨q,0,none⟩) (1+(n1+n2)) UNK∧h.next≤q∧q<h'.next∧h'.get q=some (.cells (nd x++(cs1++cs2)) true 2):=by
 refine .of F.p F.f126 hr (fun v h1 hv q=> ?_) ?_
 ·obtain⟨q,rfl,_⟩:=q
  simp[cD,fR,flat,cp,jj,fA]at hv
 obtain⟨x1,x2⟩:=x
 unfold eI nd
 have kp:=WF.aT hr.wf gp
 have l1:=s1.len
 have l2:=s2.len
 refine y4 ?_;refine yB ?_;refine yM ?_;refine y3 ?_;refine aq ?_;refine cG ?_
 refine qN ?_
 refine jB rfl rfl rfl (by exact rfl) (by exact rfl) (by exact rfl) (gE (by exact rfl) (by exact rfl)) (by refine b8 (ay rfl (cS (by exact rfl) (by(simp(disch:=first|omega|(simp only[z1,z2];omega))only[z3,z4,z5,z6,z7,z1,z2, *];exact rfl)) (by exact rfl) (by exact rfl)) (by exact eU (by refine bN (dz _ _) ?_;refine bN (dz _ _) ?_;exact eW))) ?_;exact jx) ?_
 refine qM ?_
 refine qC ?_
 have hx:Ext h ((h.push (.cells [.int .u8 x1, .int .i64 x2] true 1)).push (.cells [.int .u8 x1, .int .i64 x2] true 2)):=((Ext.refl h).push _).push _
 refine FW.alD (Hf F (.of (hx.wf hr.wf)) ((hx.old _ kp).trans gp) ((s1.ext hx).log []) ((s2.ext hx).log []) o1 o2 h1 hb) (fun _ _ _ q=>q) ?_
 rintro _ h2 hx2 ⟨q,rfl,hq,gq⟩
 have g0:h2.get h.next=some (.cells [.int .u8 x1, .int .i64 x2] true 1):=by rw[hx2.old _ (by(simp only[z1,z2];omega))];(simp(disch:=first|omega|(simp only[z1,z2];omega))only[z3,z4,z5,z6,z7,z1,z2, *];exact rfl)
 have g1:h2.get (h.next+1)=some (.cells [.int .u8 x1, .int .i64 x2] true 2):=by rw[hx2.old _ (by(simp only[z1,z2];omega))];(simp(disch:=first|omega|(simp only[z1,z2];omega)|(simp only[z1,z2];done)|fail)only[z8,z4,z5,z9,z7,z1,z2, *];exact rfl)
 refine⟨_,by apply aa rfl;apply aM rfl (oZ rfl) (by rfl);apply aM rfl (ay rfl (cS (by exact rfl) (by assumption) (by exact rfl) (by exact rfl)) (by exact eU (by refine bN (dz _ _) ?_;refine bN (dz _ _) ?_;exact eW))) rfl;exact bT,?_⟩
 have hk2:h.next+2≤h2.next:=hx2.next
 skip
 refine wz (n:=n1+n2) (ws:= .int .u8 x1:: .int .i64 x2::(cs1++cs2)) rfl rfl rfl (by exact rfl) (by exact rfl) (by exact rfl) (qW (kI gq (by rw[dj,cu,List.drop_zero,List.take_of_length_le (by rw[List.length_append,l1,l2];omega)]) (by rw[List.length_append,l1,l2];omega))) (by omega) (by omega) (by unfold UNK;omega) g1 (by simp) (by omega) (by rw[dB];rfl) (by apply aa rfl;apply aa rfl;exact bT) ?_
 refine qM ?_;refine cF ?_;refine y1 ?_;refine aP ?_;refine aH ?_
 exact dn ((hx.trans hx2).log.trans hr.log) rfl ⟨h2.next,rfl,by omega,Nat.lt_succ_self _,z3 _ _⟩
end Go.A.Pk
end
section
set_option maxRecDepth 100000
namespace Go.A.Pk
variable {T:Nat→Option ah}
def sM:aJ:=(.region [g 7 (.new [(.int .u8 0),(.int .i64 0)]),⟨none, .store 2 (t 7) (t 16),none⟩] [3,4,5,6,7])
def nM:aJ:=(.block 1 (.seq (.draw [g 17 (.load none (t 3)),g 18 (.cz (t 17)),g 19 (.cH 2 (t 18)),g 20 (.load none (t 19)),g 21 (.cH 1 (t 7)),g 22 (.load none (t 21)),g 23 (.bp 1 (t 20) (t 22)),g 24 (.load none (t 23)),g 25 (.load none (t 4)),g 26 (.load (some 2) (t 5)),g 27 (.lookup true [.i .i64, .i .i64] (.int .i64 0) false (t 25) (t 26)),g 28 (.bin (.num .eql) (t 24) (t 27))] [0,1,2,3,4,5,6,7,8,9,10,11] [0,1,3,7,0,16,63,127,0,0,768,2047] [6,7,28])
 (.cond (t 28) (.seq (.region [g 29 (.load (some 2) (t 7)),g 30 (.call (.func 126) [(t 29),(.const (.slice none 0 0))]),⟨none, .store 1 (t 6) (t 30),none⟩] [])
 .ret) .skip)))
def qk:aJ:=(.region [g 8 (.new [(.int .u8 0),(.int .i64 0)]),⟨none, .store 2 (t 8) (t 38),none⟩] [3,4,5,6,8])
def mg:aJ:=(.block 3 (.seq (.region [g 40 (.load none (t 3)),g 41 (.load (some 2) (t 5)),g 42 (.load (some 2) (t 8)),g 43 (.call (.func 106) [(t 40),(t 41),(t 42)]),g 39 (.mov (t 43)),g 44 (.extract (t 39) 0),g 45 (.extract (t 39) 1),g 9 (.new [(.int .i64 0),(.int .i64 0)]),g 10 (.new [(.int .i64 0),(.int .i64 0)]),⟨none, .store 2 (t 9) (t 44),none⟩,⟨none, .store 2 (t 10) (t 45),none⟩] [3,4,5,6,8,9,10])
 (.seq (.draw [g 46 (.load none (t 4)),g 47 (.load (some 2) (t 9)),g 48 (.lookup true [.i .i64, .i .i64] (.int .i64 0) false (t 46) (t 47)),g 49 (.load none (t 4)),g 50 (.load (some 2) (t 10)),g 51 (.lookup true [.i .i64, .i .i64] (.int .i64 0) false (t 49) (t 50)),g 52 (.bin (.num .add) (t 48) (t 51)),g 53 (.load none (t 4)),g 54 (.load (some 2) (t 5)),g 55 (.lookup true [.i .i64, .i .i64] (.int .i64 0) false (t 53) (t 54)),g 56 (.bin (.num .eql) (t 52) (t 55))] [0,1,2,3,4,5,6,7,8,9,10] [0,0,3,0,0,24,63,0,0,384,1023] [3,4,6,8,9,10,56])
 (.cond (t 56) (.seq (.draw [g 57 (.load (some 2) (t 8)),g 58 (.load none (t 3)),g 59 (.load none (t 4)),g 60 (.load (some 2) (t 9)),g 61 (.call (.func 84) [(t 58),(t 59),(t 60)]),g 62 (.load none (t 3)),g 63 (.load none (t 4)),g 64 (.load (some 2) (t 10)),g 65 (.call (.func 84) [(t 62),(t 63),(t 64)]),g 66 (.cJ [(.slice none 0 0)] 2 [(0,1,(t 61)),(1,1,(t 65))]),g 67 (.call (.func 126) [(t 57),(t 66)]),⟨none, .store 1 (t 6) (t 67),none⟩] [0,1,2,3,5,6,7,4,8,9,10,11] [0,0,0,0,14,0,0,0,254,510,1023,2047] [])
 .ret) .skip))))
def ncs:List (Nat×Nat)→List Value
 |[]=>[]
 |x::l=>nd x++ncs l
theorem oF:∀l,(ncs l).length=l.length*2
 |[]=>rfl
 |x::l=>by simp[ncs,nd,oF l];omega
theorem As:∀l m,ncs (l++m)=ncs l++ncs m
 |[],m=>rfl
 |x::l,m=>by simp[ncs,As l m]
theorem ru:∀l,fB (ncs l)=true
 |[]=>rfl
 |x::l=>by
  have:=ru l
  simp only[ncs,nd,List.cons_append,List.nil_append,fB]at this⊢
  simpa using this
inductive ij (kerf:Int) (ws:List Int) (kl:List Kd) (t:Tab):Int×Int→List (Nat×Nat)→Prop
 |none {p:Int×Int}:¬ (1≤p.1∧1≤p.2)→ij kerf ws kl t p []
 |leaf {a b:Nat} {x:Nat×Nat}:1≤a→1≤b→x∈aZ a b kl 0→ws.getD x.2 0=look t ((a:Int),(b:Int))→ij kerf ws kl t ((a:Int),(b:Int)) [x]
 |cut {a b:Nat} {x:Nat×Nat} {n1 n2:List (Nat×Nat)}:1≤a→1≤b→x∈dD a b→look t (cg x a b)+look t (cm kerf x a b)=look t ((a:Int),(b:Int))→ij kerf ws kl t (cg x a b) n1→ij kerf ws kl t (cm kerf x a b) n2→ij kerf ws kl t ((a:Int),(b:Int)) (x::(n1++n2))
 |tO {a b:Nat}:1≤a→1≤b→(∀x∈aZ a b kl 0,ws.getD x.2 0≠look t ((a:Int),(b:Int)))→(0<look t ((a:Int),(b:Int))→∀x∈dD a b,look t (cg x a b)+look t (cm kerf x a b)≠look t ((a:Int),(b:Int)))→ij kerf ws kl t ((a:Int),(b:Int)) [(0,0)]
def nK(p:Int×Int):Nat:=p.1.toNat*p.2.toNat
theorem wQ{kerf:Int}(hk:0≤kerf){a b:Nat}(ha:1≤a)(hb:1≤b){x:Nat×Nat}(hx:x∈dD a b):1≤nK (cg x a b)∧nK (cg x a b)<a*b∧nK (cg x a b)+nK (cm kerf x a b)≤a*b:=by
 unfold nK
 rcases fy hx with⟨e3,hl,hu⟩|⟨e4,hl,hu⟩
 ·simp only[cg,cm,e3,if_true]
  generalize hm:((a:Int)-x.2-kerf).toNat=m
  have hm':m≤a-x.2:=by omega
  simp only[Int.toNat_natCast]
  refine⟨Nat.mul_pos hl (by omega),Nat.mul_lt_mul_of_pos_right (by omega) (by omega),?_⟩
  rw[←Nat.add_mul]
  exact Nat.mul_le_mul_right _ (by omega)
 ·have n3:¬x.1=3:=by omega
  simp only[cg,cm,if_neg n3]
  generalize hm:((b:Int)-x.2-kerf).toNat=m
  have hm':m≤b-x.2:=by omega
  simp only[Int.toNat_natCast]
  refine⟨Nat.mul_pos (by omega) hl,Nat.mul_lt_mul_of_pos_left (by omega) (by omega),?_⟩
  rw[←Nat.mul_add]
  exact Nat.mul_le_mul_left _ (by omega)
theorem sj{kerf:Int}(hk:0≤kerf){ws:List Int}{kl:List Kd}{t:Tab}{p:Int×Int}{ns:List (Nat×Nat)}(h:ij kerf ws kl t p ns):ns.length≤2*nK p-1:=by
 induction h with
 |none _=>simp
 | @leaf a b x ha hb _ _=>
   have e:nK ((a:Int),(b:Int))=a*b:=rfl
   have:0<a*b:=Nat.mul_pos ha hb
   simp only[List.length_singleton];omega
 | @cut a b x n1 n2 ha hb hx _ _ _ h1 h2=>
   have⟨q1,q2,q3⟩:=wQ hk ha hb hx
   have e:nK ((a:Int),(b:Int))=a*b:=rfl
   simp only[List.length_cons,List.length_append]
   omega
 | @tO a b ha hb _ _=>
   have e:nK ((a:Int),(b:Int))=a*b:=rfl
   have:0<a*b:=Nat.mul_pos ha hb
   simp only[List.length_singleton];omega
theorem F7{kerf:Int}{ws:List Int}{kl:List Kd}{t:Tab}{p:Int×Int}{ns:List (Nat×Nat)}(h:ij kerf ws kl t p ns)(hp:1≤p.1∧1≤p.2):0<ns.length:=by
 cases h with
 |none h=>exact absurd hp h
 |_=>simp
def U2(h:Heap)(v:Value):Prop:=∀b o n,v= .slice (some ⟨b,o,none⟩) n UNK→∃vs own,h.get b=some (.cells vs own 2)
def kj(kerf:Int)(ws:List Int)(kl:List Kd)(t:Tab)(p:Int×Int)(v:Value)(h:Heap):Prop:=∃ns a c,ij kerf ws kl t p ns∧v= .slice a ns.length c∧aA h 2 (.slice a ns.length c) ns.length (ncs ns)∧U2 h v∧(c=UNK∨c<1000000)
theorem kj.log{kerf:Int}{ws:List Int}{kl:List Kd}{t:Tab}{p:Int×Int}(v:Value)(h':Heap)(m:List Nat)(q:kj kerf ws kl t p v h'):kj kerf ws kl t p v {h' with log:=m}:=by
 obtain⟨ns,a,c,h1,h2,h3,h4⟩:=q
 exact⟨ns,a,c,h1,h2,h3.log m,h4⟩
structure jU (h:Heap) (bb mb:Nat) (sa:Option Addr) (n c:Nat) (kerf:Int) (wa:Option Addr) (wc:Nat) (kl:List Kd) (ws:List Int) (t:Tab):Prop where
 gb:h.get bb=some (.cells [.slice sa n c, .int .i64 kerf, .slice wa n wc] true 1)
 gm:h.get mb=some (.map (dI t))
 hks:aA h 5 (.slice sa n c) n (kcs kl)
 hws:aA h 1 (.slice wa n wc) n (ints ws)
theorem jU.keep{h h':Heap}{bb mb:Nat}{sa:Option Addr}{n c:Nat}{kerf:Int}{wa:Option Addr}{wc:Nat}{kl:List Kd}{ws:List Int}{t:Tab}(B:jU h bb mb sa n c kerf wa wc kl ws t)(hw:WF h)(hn:h.next≤h'.next)(ha:∀z,z<h.next→(∃v o s,h.get z=some (.cells v o s))∨(∃m,h.get z=some (.map m))→h'.get z=h.get z):jU h' bb mb sa n c kerf wa wc kl ws t:=
 ⟨(ha _ (WF.aT hw B.gb) (.inl ⟨_,_,_,B.gb⟩)).trans B.gb,(ha _ (WF.aT hw B.gm) (.inr ⟨_,B.gm⟩)).trans B.gm,aA.agree B.hks hn fun b vs o s hb he=>ha b hb (.inl ⟨_,_,_,he⟩),aA.agree B.hws hn fun b vs o s hb he=>ha b hb (.inl ⟨_,_,_,he⟩)⟩
theorem jU.ext{h h':Heap}{bb mb:Nat}{sa:Option Addr}{n c:Nat}{kerf:Int}{wa:Option Addr}{wc:Nat}{kl:List Kd}{ws:List Int}{t:Tab}(B:jU h bb mb sa n c kerf wa wc kl ws t)(hw:WF h)(x:Ext h h'):jU h' bb mb sa n c kerf wa wc kl ws t:=B.keep hw x.next fun z hz _=>x.old z hz
structure PX (H:Heap) (l p6:Nat) (L2:bE) (D:List (Nat×Nat)→Prop) (H':Heap):Prop where
 old:∀z,z<H.next→z≠l→z≠p6→H'.get z=H.get z
 nx:H.next≤H'.next
 loop:H'.get l=some L2
 out:∃ns q c,D ns∧H.next≤q∧q<H'.next∧(ns.length≤c∧(c=UNK∨c<1000000))∧H'.get p6=some (.cells [.slice (some ⟨q,0,none⟩) ns.length c] true 1)∧H'.get q=some (.cells (ncs ns) true 2)
structure FnsPl (T:Nat→Option ah):Prop extends FnsV T,FnsJ T where
 f125:T 125=some f125
 f84:T 84=some f84
set_option maxHeartbeats 8000000 in
theorem BL(F:FnsPl T){H:Heap}(hr:Rdy H){lo N l p3 p4 p5 p6 bb mb a b n c wc:Nat}{sa wa:Option Addr}{kerf:Int}{kl:List Kd}{ws:List Int}{t:Tab}{fv o6:Value}{x:Nat×Nat}(hx:x.2<n)(B:jU H bb mb sa n c kerf wa wc kl ws t)
 (gl:H.get l=some (.loop [(3, .pointer (some ⟨p3,0,none⟩)),(4, .pointer (some ⟨p4,0,none⟩)),(5, .pointer (some ⟨p5,0,none⟩)),(6, .pointer (some ⟨p6,0,none⟩)),(15,fv)] [16] sM nM 0 .normal))
 (g3:H.get p3=some (.cells [.pointer (some ⟨bb,0,none⟩)] true 1))(g4:H.get p4=some (.cells [.map (some mb)] true 1))(g5:H.get p5=some (.cells [.int .i64 a, .int .i64 b] true 1))(g6:H.get p6=some (.cells [o6] true 1))(hp6:lo≤p6∧p6<N)(hlo:lo≤l∧l<N):
 FW T (.yield l) [eI x] H fun r H'=>(∀z∈H'.log,lo≤z∧z<N)∧(r= .ret (.bool true)∧((∀z,z<H.next→H'.get z=H.get z)∧H.next≤H'.next∧ws.getD x.2 0≠look t ((a:Int),(b:Int)))∨
  r= .ret (.bool false)∧l∈H'.log∧PX H l p6 (.loop [(3, .pointer (some ⟨p3,0,none⟩)),(4, .pointer (some ⟨p4,0,none⟩)),(5, .pointer (some ⟨p5,0,none⟩)),(6, .pointer (some ⟨p6,0,none⟩)),(15,fv)] [16] sM nM 2 .ret) (fun ns=>ns=[x]∧ws.getD x.2 0=look t ((a:Int),(b:Int))) H'):=by
 have hlen:ws.length=n:=by have:=B.hws.len;simp[ints]at this;omega
 have gb:=B.gb
 have gm:=B.gm
 rcases B.hws.inv with⟨_,_,h0,_⟩|⟨b0,o0,cap,hv,s,hcap⟩
 ·omega
 cases hv
 obtain⟨vs,own',t0,gw,gx⟩:=ff s (sU (l:=ws) (i:=x.2) (by omega))
 clear s
 have n3:=bF g3 gl
 have n4:=bF g4 gl
 have n5:=bF g5 gl
 have n6:=bF g6 gl
 have nb:=bF gb gl
 have nm:=mW gm gl
 have nw:=bF gw gl
 have k3:=WF.aT hr.wf g3
 have k4:=WF.aT hr.wf g4
 have k5:=WF.aT hr.wf g5
 have k6:=WF.aT hr.wf g6
 have kb:=WF.aT hr.wf gb
 have km:=WF.aT hr.wf gm
 have kw:=WF.aT hr.wf gw
 have kl':=WF.aT hr.wf gl
 refine FW.yq F.toFnsV.p (R:=fun H'=>(∀z,z<H.next→H'.get z=H.get z)∧H.next≤H'.next∧ws.getD x.2 0≠look t ((a:Int),(b:Int))) gl rfl kl' hlo ?_
 obtain⟨x1,x2⟩:=x
 unfold sM eI
 refine aD ?_;refine af cN ?_;refine yS ?_;refine fo ?_
 refine y1 ?_
 refine⟨rfl,by(simp(disch:=first|omega|(simp only[z1,z2];omega))only[z3,z4,z5,z6,z7,z1,z2, *];exact rfl),?_⟩
 unfold nM
 dsimp only at hx gx⊢
 generalize ws.getD x2 0=w1 at*
 generalize hw0:look t ((a:Int),(b:Int))=w0 at*
 refine aC ?_;refine aq ?_;refine cG ?_;refine qL ?_
 refine ak rfl rfl rfl (by exact rfl) (by exact rfl) (by exact rfl) (cC (by exact rfl)) ?_;refine qF ?_
 refine qL ?_
 refine qF ?_
 refine qL ?_
 refine ak rfl rfl rfl (by exact rfl) (by exact rfl) (by exact rfl) (aN (by exact rfl) (by exact rfl) (by omega)) ?_
 refine ak rfl rfl rfl (by exact rfl) (by exact rfl) (by exact rfl) (bt (by exact rfl) (by(simp(disch:=first|omega|(simp only[z1,z2];omega))only[z3,z4,z5,z6,z7,z1,z2, *];exact rfl)) (by assumption)) ?_
 refine qL ?_
 refine qN ?_
 refine ak rfl rfl rfl (by exact rfl) (by exact rfl) (by exact rfl) (dH (x:=((a:Int),(b:Int))) (by exact rfl) (by exact rfl) (by(simp(disch:=first|omega|(simp only[z1,z2];omega))only[z3,z4,z5,z6,z7,z1,z2, *];exact rfl))) ?_
 rw[hw0]
 clear hw0
 by_cases hw:w1=w0
 ·have hwn:¬w1≠w0:=fun q=>q hw
  have hw':PLift (w1=w0):=⟨hw⟩
  refine ak rfl rfl rfl (by exact rfl) (by exact rfl) (by exact rfl) (cE (by exact rfl) (by exact rfl) (by exact zB (by omega))) ?_;refine cF ?_;refine y1 ?_;refine aP ?_;refine yY ?_;refine y4 ?_
  refine yN ?_
  refine WO.gen ?_
  intro hA hAe
  have A1:∀z,z<H.next→z≠l→hA.get z=H.get z:=fun z hz hne=>by rw[hAe];simp(disch:=first|omega|(simp only[z1,z2];omega))only[z5,z4]
  have A2:∃o,hA.get l=some o∧busy o=true:=⟨_,by rw[hAe];(simp(disch:=first|omega|(simp only[z1,z2];omega))only[z3,z4,z5,z6,z7,z1,z2, *];exact rfl),rfl⟩
  have A3:hA.get H.next=some (.cells [.int .u8 x1, .int .i64 x2] true 1):=by rw[hAe];(simp(disch:=first|omega|(simp only[z1,z2];omega))only[z3,z4,z5,z6,z7,z1,z2, *];exact rfl)
  have A5:hA.next=H.next+1:=by rw[hAe];rfl
  have A6:hA.log=[]:=by rw[hAe];simp(disch:=first|omega|(simp only[z1,z2];omega))only[Heap.aI,Heap.cM];exact hr.log
  have A7:WF hA:=by rw[hAe];exact((hr.wf.push _).as (AS.wr _ _ _ _)).as (AS.wr _ _ _ _)
  clear hAe hw hwn gw gb gm g3 g4 g5
  refine yC ?_
  refine FW.al (AF F.toFnsJ (.of A7) (x1,x2)) (fun _ _ _ q=>q) ?_
  rintro _ h2 hx2 ⟨q,rfl,hq1,hq2,gq⟩
  have eq1:H.next+1≤q:=by have:({hA with log:=[]}:Heap).next=H.next+1:=A5;omega
  have B6:h2.get p6=some (.cells [o6] true 1):=(hx2.old _ (by omega)).trans ((A1 p6 k6 n6).trans g6)
  have B1:∀z,z<H.next→z≠l→h2.get z=H.get z:=fun z hz hne=>(hx2.old z (by omega)).trans (A1 z hz hne)
  obtain⟨o2,A2a,A2b⟩:=A2
  have B2:h2.get l=some o2:=(hx2.old l (by omega)).trans A2a
  have hl2:h2.log=[]:=hx2.log.trans A6
  have hn2:=hx2.next
  refine yS ?_;refine y3 ?_;refine aH ?_;refine iD ?_
  refine⟨⟨o2,(z5 (Ne.symm n6)).trans B2,A2b⟩,fun z hz=> ?_, .inr ⟨rfl,fun h5 hn hag hl5=>⟨fun z hz hne hne6=>(hag z hne).trans ((z5 hne6).trans (B1 z hz hne)),by rw[hn];show H.next≤h2.next;omega,hl5,?_⟩⟩⟩
  ·rcases jh hz with rfl|hz
   ·exact hp6
   ·rw[hl2]at hz;cases hz
  ·refine⟨[(x1,x2)],q,1,⟨rfl,hw'.down⟩,by omega,by rw[hn];exact hq2,⟨Nat.le_refl _, .inr (by omega)⟩,?_,?_⟩
   ·exact(hag p6 n6).trans (Heap.cr B6)
   ·exact(hag q (by omega)).trans ((z5 (by omega)).trans gq)
 ·refine ak rfl rfl rfl (by exact rfl) (by exact rfl) (by exact rfl) (cE (by exact rfl) (by exact rfl) (by exact zj (by omega))) ?_;refine cF ?_;refine y1 ?_;refine aP ?_;refine yX ?_;refine aB ?_;refine cZ ?_
  refine⟨⟨_,by(simp(disch:=first|omega|(simp only[z1,z2];omega))only[z3,z4,z5,z6,z7,z1,z2, *];exact rfl),rfl⟩,fun z hz=> ?_, .inl ⟨rfl,fun h5 hn hag hl5=>⟨fun z hz=> ?_,hn,hw⟩⟩⟩
  ·simp(disch:=first|omega|(simp only[z1,z2];omega))only[Heap.aI,Heap.cM]at hz
   rw[hr.log]at hz;cases hz
  ·by_cases hz2:z=l
   ·rw[hz2];exact hl5.trans gl.symm
   ·refine(hag z hz hz2).trans ?_
    simp(disch:=first|omega|(simp only[z1,z2];omega))only[z5,z4]
end Go.A.Pk
end
section
set_option maxRecDepth 100000
namespace Go.A.Pk
variable {T:Nat→Option ah}
theorem Aa(m:Option Nat):j0 (.map m) (.map m)=true:=by simp[j0,jv]
theorem WD.MA{base:Nat}{ops:List aQ}{bf:List Nat}{Q:Env→Heap→Prop}{is:List Nat}{rs:List Rec}{e:Env}{h:Heap}(hK:∀hA,hA=h→WD T base ops bf Q is rs e hA):WD T base ops bf Q is rs e h:=hK h rfl
set_option maxHeartbeats 16000000 in
theorem CV(F:FnsPl T){H:Heap}(hr:Rdy H){lo N l p3 p4 p5 p6 bb mb a b n c wc:Nat}{sa wa:Option Addr}{kerf:Int}{kl:List Kd}{ws:List Int}{t:Tab}{fv o6:Value}{x:Nat×Nat}(hxm:x∈dD a b)(ha:1≤a∧a≤16)(hb:1≤b∧b≤16)(hk:0≤kerf∧kerf≤100)
 (hT:∀q, -1000000000000≤look t q∧look t q≤1000000000000)(B:jU H bb mb sa n c kerf wa wc kl ws t)
 (gl:H.get l=some (.loop [(3, .pointer (some ⟨p3,0,none⟩)),(4, .pointer (some ⟨p4,0,none⟩)),(5, .pointer (some ⟨p5,0,none⟩)),(6, .pointer (some ⟨p6,0,none⟩)),(37,fv)] [38] qk mg 0 .normal))
 (g3:H.get p3=some (.cells [.pointer (some ⟨bb,0,none⟩)] true 1))(g4:H.get p4=some (.cells [.map (some mb)] true 1))(g5:H.get p5=some (.cells [.int .i64 a, .int .i64 b] true 1))(g6:H.get p6=some (.cells [o6] true 1))(hp6:lo≤p6∧p6<N)(hlo:lo≤l∧l<N)
 (IH:∀(p:Int×Int) (h:Heap),sz p<a+b→p.1≤16→p.2≤16→Rdy h→jU h bb mb sa n c kerf wa wc kl ws t→Al T 84 [.pointer (some ⟨bb,0,none⟩), .map (some mb),cT p] h (kj kerf ws kl t p)):
 FW T (.yield l) [eI x] H fun r H'=>(∀z∈H'.log,lo≤z∧z<N)∧(r= .ret (.bool true)∧((∀z,z<H.next→H'.get z=H.get z)∧H.next≤H'.next∧look t (cg x a b)+look t (cm kerf x a b)≠look t ((a:Int),(b:Int)))∨
  r= .ret (.bool false)∧l∈H'.log∧PX H l p6 (.loop [(3, .pointer (some ⟨p3,0,none⟩)),(4, .pointer (some ⟨p4,0,none⟩)),(5, .pointer (some ⟨p5,0,none⟩)),(6, .pointer (some ⟨p6,0,none⟩)),(37,fv)] [38] qk mg 2 .ret)
   (fun ns=>∃n1 n2,look t (cg x a b)+look t (cm kerf x a b)=look t ((a:Int),(b:Int))∧ij kerf ws kl t (cg x a b) n1∧ij kerf ws kl t (cm kerf x a b) n2∧ns=x::(n1++n2)) H'):=by
 have gb:=B.gb
 have gm:=B.gm
 have n3:=bF g3 gl
 have n4:=bF g4 gl
 have n5:=bF g5 gl
 have n6:=bF g6 gl
 have nb:=bF gb gl
 have nm:=mW gm gl
 have k3:=WF.aT hr.wf g3
 have k4:=WF.aT hr.wf g4
 have k5:=WF.aT hr.wf g5
 have k6:=WF.aT hr.wf g6
 have kb:=WF.aT hr.wf gb
 have km:=WF.aT hr.wf gm
 have kl':=WF.aT hr.wf gl
 have hx34:(x.1=3∨x.1=4)∧x.2<1000:=by
  rcases fy hxm with⟨e,_,_⟩|⟨e,_,_⟩
  ·exact⟨.inl e,by omega⟩
  ·exact⟨.inr e,by omega⟩
 have hsz:=vu hk.1 hxm
 have har:=wQ hk.1 ha.1 hb.1 hxm
 have hab:a*b≤256:=Nat.le_trans (Nat.mul_le_mul ha.2 hb.2) (by omega)
 have hone:1≤(cg x a b).1∧1≤(cg x a b).2∧(cg x a b).1≤16∧(cg x a b).2≤16∧(cm kerf x a b).1≤16∧(cm kerf x a b).2≤16:=by
  rcases fy hxm with⟨e3,_,_⟩|⟨e4,_,_⟩
  ·simp only[cg,cm,e3,if_true];omega
  ·have q3:¬x.1=3:=by omega
   simp only[cg,cm,if_neg q3];omega
 refine FW.yq F.toFnsV.p (R:=fun H'=>(∀z,z<H.next→H'.get z=H.get z)∧H.next≤H'.next∧look t (cg x a b)+look t (cm kerf x a b)≠look t ((a:Int),(b:Int))) gl rfl kl' hlo ?_
 obtain⟨x1,x2⟩:=x
 have C106:=fun {h:Heap} (hr:Rdy h) (hb':h.get bb=some (.cells [.slice sa n c, .int .i64 kerf, .slice wa n wc] true 1)) (hlt:bb<h.next)=>oR F.toFnsV.p F.f106 hr hb' hlt hk hx34.1 hx34.2 (a:=a) (b:=b) (by omega) (by omega)
 unfold qk eI
 unfold eI dV at C106
 refine aD ?_;refine af cN ?_;refine yS ?_;refine fo ?_
 refine y1 ?_
 refine⟨rfl,by(simp(disch:=first|omega|(simp only[z1,z2];omega))only[z3,z4,z5,z6,z7,z1,z2, *];exact rfl),?_⟩
 unfold mg
 generalize cg (x1,x2) a b=q1 at*
 generalize cm kerf (x1,x2) a b=q2 at*
 have hw1:=hT q1
 have hw2:=hT q2
 refine aC ?_;refine y4 ?_;refine yL ?_
 refine yN ?_
 refine yN ?_
 refine WO.gen ?_
 intro hA hAe
 have A1:∀z,z<H.next→z≠l→hA.get z=H.get z:=fun z hz hne=>by rw[hAe];simp(disch:=first|omega|(simp only[z1,z2];omega))only[z5,z4]
 have A2:hA.get l=some (.loop [(3, .pointer (some ⟨p3,0,none⟩)),(4, .pointer (some ⟨p4,0,none⟩)),(5, .pointer (some ⟨p5,0,none⟩)),(6, .pointer (some ⟨p6,0,none⟩)),(37,fv)] [38] qk mg 1 .normal):=by rw[hAe];(simp(disch:=first|omega|(simp only[z1,z2];omega))only[z3,z4,z5,z6,z7,z1,z2, *];exact rfl)
 have A3:hA.get H.next=some (.cells [.int .u8 x1, .int .i64 x2] true 1):=by rw[hAe];(simp(disch:=first|omega|(simp only[z1,z2];omega))only[z3,z4,z5,z6,z7,z1,z2, *];exact rfl)
 have A5:hA.next=H.next+1:=by rw[hAe];rfl
 have A6:hA.log=[]:=by rw[hAe];simp(disch:=first|omega|(simp only[z1,z2];omega))only[Heap.aI,Heap.cM];exact hr.log
 have A7:WF hA:=by rw[hAe];exact((hr.wf.push _).as (AS.wr _ _ _ _)).as (AS.wr _ _ _ _)
 clear hAe
 refine yC ?_
 refine FW.pu (C106 (.of A7) ((A1 bb kb nb).trans gb) (by show bb<hA.next;omega)) ?_
 clear C106
 have D3:=(A1 p3 k3 n3).trans g3
 have D4:=(A1 p4 k4 n4).trans g4
 have D5:=(A1 p5 k5 n5).trans g5
 have D6:=(A1 p6 k6 n6).trans g6
 have Dm:=(A1 mb km nm).trans gm
 have BA:jU hA bb mb sa n c kerf wa wc kl ws t:=B.keep hr.wf (by omega) fun z hz hc=>A1 z hz (fun e=>by subst e;rcases hc with⟨_,_,_,h⟩|⟨_,h⟩<;>(rw[gl]at h;cases h))
 unfold cT
 obtain⟨q11,q12⟩:=q1
 obtain⟨q21,q22⟩:=q2
 dsimp only at hone
 refine yM ?_;refine yE ?_;refine yE ?_;refine af cN ?_;refine af cN ?_
 refine yS ?_
 refine yS ?_;refine y3 ?_;refine aq ?_;refine cG ?_
 refine qL ?_
 refine qN ?_
 refine ak rfl rfl rfl (by exact rfl) (by exact rfl) (by exact rfl) (dH (x:=(q11,q12)) (by exact rfl) (by exact rfl) (by(simp(disch:=first|omega|(simp only[z1,z2];omega))only[z3,z4,z5,z6,z7,z1,z2, *];exact rfl))) ?_
 refine qL ?_
 refine qN ?_
 refine ak rfl rfl rfl (by exact rfl) (by exact rfl) (by exact rfl) (dH (x:=(q21,q22)) (by exact rfl) (by exact rfl) (by(simp(disch:=first|omega|(simp only[z1,z2];omega))only[z3,z4,z5,z6,z7,z1,z2, *];exact rfl))) ?_
 refine ak rfl rfl rfl (by exact rfl) (by exact rfl) (by exact rfl) (cE (by exact rfl) (by exact rfl) (by exact rQ (bY (by omega) (by omega)))) ?_
 refine qL ?_
 refine qN ?_
 refine ak rfl rfl rfl (by exact rfl) (by exact rfl) (by exact rfl) (dH (x:=((a:Int),(b:Int))) (by exact rfl) (by exact rfl) (by(simp(disch:=first|omega|(simp only[z1,z2];omega))only[z3,z4,z5,z6,z7,z1,z2, *];exact rfl))) ?_
 have hD:∀n1 n2,ij kerf ws kl t (q11,q12) n1→ij kerf ws kl t (q21,q22) n2→0<n1.length∧n1.length+n2.length<100000:=fun n1 n2 r1 r2=>by
  have z1:=sj hk.1 r1
  have z2:=sj hk.1 r2
  have z3:=F7 r1 ⟨hone.1,hone.2.1⟩
  exact⟨z3,by omega⟩
 generalize hl1:look t (q11,q12)=w1 at*
 generalize hl2:look t (q21,q22)=w2 at*
 generalize hl0:look t ((a:Int),(b:Int))=w0 at*
 clear hl1 hl2 hl0
 by_cases hw:w1+w2=w0
 ·have hw':PLift (w1+w2=w0):=⟨hw⟩
  refine ak rfl rfl rfl (by exact rfl) (by exact rfl) (by exact rfl) (cE (by exact rfl) (by exact rfl) (by exact zB (by omega))) ?_;refine cF ?_;refine y1 ?_;refine aP ?_;refine yY ?_;refine aq ?_;refine cG ?_
  refine qN ?_
  refine qL ?_
  refine qL ?_
  refine qN ?_
  refine qL ?_
  refine qL ?_
  refine qN ?_
  refine WD.MA ?_
  intro hB hBe
  have hxB:Ext hA hB:=by rw[hBe];exact((((Ext.refl hA).push _).push _).wr (by omega) (by omega)).wr (by(simp only[z1,z2];omega)) (by(simp only[z1,z2];omega))
  have E9:hB.get hA.next=some (.cells [.int .i64 q11, .int .i64 q12] true 1):=by rw[hBe];(simp(disch:=first|omega|(simp only[z1,z2];omega)|(simp only[z1,z2];done)|fail)only[z8,z4,z5,z9,z7,z1,z2, *];exact rfl)
  have E10:hB.get (hA.next+1)=some (.cells [.int .i64 q21, .int .i64 q22] true 1):=by rw[hBe];(simp(disch:=first|omega|(simp only[z1,z2];omega)|(simp only[z1,z2];done)|fail)only[z8,z4,z5,z9,z7,z1,z2, *];exact rfl)
  have E5:hB.next=hA.next+2:=by rw[hBe];rfl
  clear hBe hw
  have wB:=hxB.wf A7
  have E3:=(hxB.old _ (by omega)).trans D3
  have E4:=(hxB.old _ (by omega)).trans D4
  have E6:=(hxB.old _ (by omega)).trans D6
  have E8:=(hxB.old _ (by omega)).trans A3
  have E2:=(hxB.old _ (by omega)).trans A2
  have BB:=BA.ext A7 hxB
  have hoB:∀z,z<H.next→z≠l→hB.get z=H.get z:=fun z hz hne=>(hxB.old z (by omega)).trans (A1 z hz hne)
  have hlB:hB.log=[]:=hxB.log.trans A6
  clear D3 D4 D5 D6 Dm A1 A2 A3 A6 gb gm g3 g4 g5 g6 BA hxB
  refine qC ?_
  refine FW.alD (IH (q11,q12) _ hsz.1 hone.2.2.1 hone.2.2.2.1 (.of wB) (BB.keep wB (Nat.le_refl _) fun _ _ _=>rfl)) (fun v h' m q=>kj.log v h' m q) ?_
  rintro _ h2 hx2 ⟨ns1,a1,c1,R1,rfl,s1,_⟩
  have w2':=hx2.wf wB
  have G3:=(hx2.old _ (by omega)).trans E3
  have G4:=(hx2.old _ (by omega)).trans E4
  have G6:=(hx2.old _ (by omega)).trans E6
  have G8:=(hx2.old _ (by omega)).trans E8
  have G10:=(hx2.old _ (by omega)).trans E10
  have hn2:=hx2.next
  refine⟨_,by apply aM rfl (ay rfl (cS (by exact rfl) (by assumption) (by exact rfl) (by exact rfl)) (by exact eU (by refine bN (dz _ _) ?_;refine bN (dz _ _) ?_;exact eW))) rfl;apply aM rfl (ay rfl (bt (by exact rfl) (by assumption) (by exact rfl)) (by exact Aa _)) rfl;apply aM rfl (ay rfl (bt (by exact rfl) (by assumption) (by exact rfl)) (by exact dy _)) rfl;apply aa rfl;apply aa rfl;apply aa rfl;apply aM rfl (ay rfl (cS (by exact rfl) (by assumption) (by exact rfl) (by exact rfl)) (by exact eU (by refine bN (dz _ _) ?_;refine bN (dz _ _) ?_;exact eW))) rfl;exact bT,?_⟩
  skip
  refine qC ?_
  refine FW.alD (IH (q21,q22) _ hsz.2 hone.2.2.2.2.1 hone.2.2.2.2.2 (.of w2') ((BB.ext wB hx2).keep w2' (Nat.le_refl _) fun _ _ _=>rfl)) (fun v h' m q=>kj.log v h' m q) ?_
  rintro _ h3 hx3 ⟨ns2,a2,c2,R2,rfl,s2,_⟩
  have w3:=hx3.wf w2'
  have J8:=(hx3.old _ (by omega)).trans G8
  have J6:=(hx3.old _ (by omega)).trans G6
  have hn3:=hx3.next
  have hpos:=hD _ _ R1 R2
  clear E3 E4 E6 E8 E9 E10 G3 G4 G6 G8 G10 IH hT
  refine⟨_,by apply aa rfl;apply aa rfl;apply aa rfl;apply aM rfl (ay rfl (cS (by exact rfl) (by assumption) (by exact rfl) (by exact rfl)) (by exact eU (by refine bN (dz _ _) ?_;refine bN (dz _ _) ?_;exact eW))) rfl;exact bT,?_⟩
  refine jB rfl rfl rfl (by exact rfl) (by exact rfl) (by exact rfl) (gE (by exact rfl) (by exact rfl)) (by refine b8 (ay rfl (cS (by exact rfl) (by(simp(disch:=first|omega|(simp only[z1,z2];omega))only[z3,z4,z5,z6,z7,z1,z2, *];exact rfl)) (by exact rfl) (by exact rfl)) (by exact eU (by refine bN (dz _ _) ?_;refine bN (dz _ _) ?_;exact eW))) ?_;exact jx) ?_
  refine qC ?_
  have hx4:Ext h3 (h3.push (.cells [.slice a1 ns1.length c1, .slice a2 ns2.length c2] true 1)):=(Ext.refl h3).push _
  refine FW.alD (GW F.toFnsJ (.of (hx4.wf w3)) (x1,x2) (z3 _ _) (((s1.ext hx3).ext hx4).log []) ((s2.ext hx4).log []) (ru _) (ru _) hpos.1 hpos.2) (fun _ _ _ q=>q) ?_
  rintro _ h4 hx5 ⟨q,rfl,hq1,hq2,gq⟩
  have hn4:=(hx4.trans hx5).next
  have hq1':h3.next+1≤q:=hq1
  have K6:=((hx4.trans hx5).old _ (by omega)).trans J6
  have hoD:∀z,z<hB.next→h4.get z=hB.get z:=fun z hz=>((hx4.trans hx5).old z (by omega)).trans ((hx3.old z (by omega)).trans (hx2.old z hz))
  have hl4:h4.log=[]:=(hx4.trans hx5).log.trans (hx3.log.trans (hx2.log.trans hlB))
  refine⟨_,by apply aa rfl;apply aa rfl;exact bT,?_⟩
  skip
  refine eX (ws:=[.slice (some ⟨q,0,none⟩) (1+(ns1.length+ns2.length)) UNK]) rfl rfl rfl (by exact rfl) (by exact rfl) (by exact rfl) K6 (by exact rfl) (by exact rfl) (by omega) (by exact bT) ?_
  refine cF ?_;refine y1 ?_;refine aP ?_;refine aH ?_;refine iD ?_
  refine⟨⟨_,(z5 (Ne.symm n6)).trans ((hoD l (by omega)).trans E2),rfl⟩,fun z hz=> ?_, .inr ⟨rfl,fun h5 hn hag hl5=>⟨fun z hz hne hne6=>(hag z hne).trans ((z5 hne6).trans ((hoD z (by omega)).trans (hoB z hz hne))),by rw[hn];show H.next≤h4.next;omega,hl5,?_⟩⟩⟩
  ·rcases jh hz with rfl|hz
   ·exact hp6
   ·rw[hl4]at hz;cases hz
  ·have el:1+(ns1.length+ns2.length)=((x1,x2)::(ns1++ns2)).length:=by simp;omega
   have ec:nd (x1,x2)++(ncs ns1++ncs ns2)=ncs ((x1,x2)::(ns1++ns2)):=by rw[ncs,As]
   rw[el]at hag
   rw[ec]at gq
   refine⟨(x1,x2)::(ns1++ns2),q,UNK,⟨ns1,ns2,hw'.down,R1,R2,rfl⟩,by omega,by rw[hn];exact hq2,⟨by rw[←el];unfold UNK;omega, .inl rfl⟩,?_,?_⟩
   ·exact(hag p6 n6).trans (Heap.cr K6)
   ·exact(hag q (by omega)).trans ((z5 (by omega)).trans gq)
 ·refine ak rfl rfl rfl (by exact rfl) (by exact rfl) (by exact rfl) (cE (by exact rfl) (by exact rfl) (by exact zj (by omega))) ?_;refine cF ?_;refine y1 ?_;refine aP ?_;refine yX ?_;refine aB ?_;refine cZ ?_
  refine⟨⟨_,by(simp(disch:=first|omega|(simp only[z1,z2];omega))only[z3,z4,z5,z6,z7,z1,z2, *];exact rfl),rfl⟩,fun z hz=> ?_, .inl ⟨rfl,fun h5 hn hag hl5=>⟨fun z hz=> ?_,hn,hw⟩⟩⟩
  ·simp(disch:=first|omega|(simp only[z1,z2];omega))only[Heap.aI,Heap.cM]at hz
   rw[A6]at hz;cases hz
  ·by_cases hz2:z=l
   ·rw[hz2];exact hl5.trans gl.symm
   ·refine(hag z hz hz2).trans (Eq.trans ?_ (A1 z hz hz2))
    simp(disch:=first|omega|(simp only[z1,z2];omega))only[z5,z4]
end Go.A.Pk
end
section
set_option maxRecDepth 100000
namespace Go.A.Pk
variable {T:Nat→Option ah}
def iu(x:Int×Int):Prop:=x.1<1∨x.2<1
instance(x:Int×Int):Decidable (iu x):=by unfold iu;infer_instance
theorem qn(hp:bC T)(hf:T 125=some f125){h:Heap}(hr:Rdy h)(x:Int×Int):Pu T 125 [cT x] h (.bool (decide (iu x))):=by
 refine .of hp hf hr rfl ?_
 by_cases c1:x.1<1
 ·rw[decide_eq_true (show iu x from .inl c1)]
  unfold cT
  refine y4 ?_;refine yB ?_;refine yM ?_;refine y3 ?_;refine y4 ?_;refine af (bz (i:=0) (by exact rfl) (by exact rfl) (by omega)) ?_
  refine yL ?_;refine yt ?_
  refine yM ?_;refine yP ?_;refine yP ?_;refine yP ?_;refine yT ?_;refine yM ?_;refine y3 ?_;refine aH ?_
  exact aF hr.log rfl rfl
 ·by_cases c2:x.2<1
  ·rw[decide_eq_true (show iu x from .inr c2)]
   unfold cT
   refine y4 ?_;refine yB ?_;refine yM ?_;refine y3 ?_;refine y4 ?_;refine af (bz (i:=0) (by exact rfl) (by exact rfl) (by omega)) ?_
   refine yL ?_;refine yf ?_
   refine yM ?_;refine yO ?_;refine af (bz (i:=1) (by exact rfl) (by exact rfl) (by omega)) ?_;refine yO ?_
   refine yL ?_;refine yO ?_;refine yt ?_
   refine yU ?_;refine yM ?_;refine y3 ?_;refine aH ?_
   exact aF hr.log rfl rfl
  ·rw[decide_eq_false (show¬iu x from fun q=>q.elim c1 c2)]
   unfold cT
   refine y4 ?_;refine yB ?_;refine yM ?_;refine y3 ?_;refine y4 ?_;refine af (bz (i:=0) (by exact rfl) (by exact rfl) (by omega)) ?_
   refine yL ?_;refine yf ?_
   refine yM ?_;refine yO ?_;refine af (bz (i:=1) (by exact rfl) (by exact rfl) (by omega)) ?_;refine yO ?_
   refine yL ?_;refine yO ?_;refine yf ?_
   refine yU ?_;refine yM ?_;refine y3 ?_;refine aH ?_
   exact aF hr.log rfl rfl
theorem kj.gc{kerf:Int}{ws:List Int}{kl:List Kd}{t:Tab}{p:Int×Int}{h:Heap}(v:Value)(h1:Heap)(hv:cD v=true)(q:kj kerf ws kl t p v h1):kj kerf ws kl t p v h:=by
 obtain⟨ns,a,c,R,rfl,s,u⟩:=q
 have hu:U2 h (.slice a ns.length c):=fun b o n e=>by cases e;simp[cD,fR,flat,cp,jj,fA]at hv
 refine⟨ns,a,c,R,rfl,?_,hu,u.2⟩
 clear u
 generalize ns.length=n at*
 generalize ncs ns=cs at*
 cases s with
 |nil=>exact .nil
 |mem s _=>simp[cD,fR,flat,cp,jj,fA]at hv
theorem PX.log{H:Heap}{l p6:Nat}{L2:bE}{D:List (Nat×Nat)→Prop}{H':Heap}(m:List Nat)(p:PX H l p6 L2 D H'):PX H l p6 L2 D {H' with log:=m}:=⟨p.old,p.nx,p.loop,p.out⟩
theorem PX.up{H H0:Heap}{l p6:Nat}{L2:bE}{D D':List (Nat×Nat)→Prop}{H':Heap}(p:PX H l p6 L2 D H')(hn:H0.next≤H.next)(ho:∀z,z<H0.next→z≠l→z≠p6→H.get z=H0.get z)(hD:∀ns,D ns→D' ns):PX H0 l p6 L2 D' H':=by
 obtain⟨ns,q,c,d,h1,h2,h3,h4,h5⟩:=p.out
 exact⟨fun z hz h6 h7=>(p.old z (by omega) h6 h7).trans (ho z hz h6 h7),Nat.le_trans hn p.nx,p.loop,ns,q,c,hD ns d,by omega,h2,h3,h4,h5⟩
def uX:aJ:=cR (cR (cR (cR (codeOf f84))))
theorem tL(F:FnsPl T){base p3 p4 p5 p6 a b:Nat}{H:Heap}{kerf:Int}{ws:List Int}{kl:List Kd}{t:Tab}{rest:Env}{o6:Value}(hw:WF H)(hlog:H.log=[])(hb6:base≤p6)(hbase:base≤H.next)(g6:H.get p6=some (.cells [o6] true 1))(hR:ij kerf ws kl t ((a:Int),(b:Int)) [(0,0)]):
 WE T base none uX (JU [(6,some none)] (kj kerf ws kl t ((a:Int),(b:Int)))) ((3, .pointer (some ⟨p3,0,none⟩))::(4, .pointer (some ⟨p4,0,none⟩))::(5, .pointer (some ⟨p5,0,none⟩))::(6, .pointer (some ⟨p6,0,none⟩))::rest) [] H:=by
 have k6:=WF.aT hw g6
 unfold uX
 simp only[cR,codeOf,f84]
 refine y4 ?_;refine af (ck (by exact rfl)) ?_
 refine yC ?_
 refine FW.al (AF F.toFnsJ (.of hw) (0,0)) (fun _ _ _ q=>q) ?_
 rintro _ h2 hx2 ⟨q,rfl,hq1,hq2,gq⟩
 have B6:=(hx2.old p6 k6).trans g6
 have hq1':H.next≤q:=hq1
 refine yS ?_;refine y3 ?_;refine aH ?_
 refine dn (vs:=[.slice (some ⟨q,0,none⟩) 1 1]) ((Heap.aI hb6).trans (hx2.log.trans hlog)) (ef (b:=p6) rfl (Heap.cr B6) rfl fP) ⟨[(0,0)],_,_,hR,rfl, .mem ⟨hq2,⟨_,_,_,(z5 (by omega)).trans gq,rfl⟩,rfl⟩ (Nat.le_refl _),(fun b o n e=>by cases e), .inr (by omega)⟩
set_option maxHeartbeats 16000000 in
theorem Jx(F:FnsPl T){bb mb n c wc:Nat}{sa wa:Option Addr}{kerf:Int}{kl:List Kd}{ws:List Int}{t:Tab}(hk:0≤kerf∧kerf≤100)(hn:n<1000)(hT:∀q, -1000000000000≤look t q∧look t q≤1000000000000):
 ∀(m:Nat) (p:Int×Int) (h:Heap),sz p≤m→p.1≤16→p.2≤16→Rdy h→jU h bb mb sa n c kerf wa wc kl ws t→Al T 84 [.pointer (some ⟨bb,0,none⟩), .map (some mb),cT p] h (kj kerf ws kl t p):=by
 intro m
 induction m with
 |zero=>
  intro p h hs _ _ hr B
  have hno:iu p:=by unfold sz at hs;unfold iu;omega
  refine .of F.toFnsV.p F.f84 hr kj.gc ?_
  have hx:Ext h ((((h.push (.cells [.pointer (some ⟨bb,0,none⟩)] true 1)).push (.cells [.map (some mb)] true 1)).push (.cells [.int .i64 p.1, .int .i64 p.2] true 1)).push (.cells [.slice none 0 0] true 1)):=((((Ext.refl h).push _).push _).push _).push _
  have C:=qn F.toFnsV.p F.f125 (.of (hx.wf hr.wf)) p
  rw[decide_eq_true hno]at C
  unfold cT at C⊢
  refine y4 ?_;refine yB ?_;refine yB ?_;refine yB ?_;refine af cN ?_;refine y3 ?_;refine aq ?_;refine y4 ?_;refine yN ?_
  refine yC ?_
  refine FW.pu C ?_
  refine y3 ?_;refine yY ?_;refine y4 ?_
  refine yS ?_;refine y3 ?_;refine aH ?_;refine ej ?_
  refine dn (vs:=[.slice none 0 0]) ((Heap.aI (by(simp only[z1,z2];omega))).trans (hx.log.trans hr.log)) (ef (b:=h.next+3) rfl (by(simp(disch:=first|omega|(simp only[z1,z2];omega)|(simp only[z1,z2];done)|fail)only[z8,z4,z5,z9,z7,z1,z2, *];exact rfl)) rfl fP) ⟨[],none,0, .none (by unfold iu at hno;omega),rfl, .nil,(fun _ _ _ e=>by cases e), .inr (by omega)⟩
 |succ m ih=>
  intro p h hs hp1 hp2 hr B
  refine .of F.toFnsV.p F.f84 hr kj.gc ?_
  have hx:Ext h ((((h.push (.cells [.pointer (some ⟨bb,0,none⟩)] true 1)).push (.cells [.map (some mb)] true 1)).push (.cells [.int .i64 p.1, .int .i64 p.2] true 1)).push (.cells [.slice none 0 0] true 1)):=((((Ext.refl h).push _).push _).push _).push _
  have C:=qn F.toFnsV.p F.f125 (.of (hx.wf hr.wf)) p
  by_cases hno:iu p
  ·rw[decide_eq_true hno]at C
   unfold cT at C⊢
   refine y4 ?_;refine yB ?_;refine yB ?_;refine yB ?_;refine af cN ?_;refine y3 ?_;refine aq ?_;refine y4 ?_;refine yN ?_
   refine yC ?_
   refine FW.pu C ?_
   refine y3 ?_;refine yY ?_;refine y4 ?_
   refine yS ?_;refine y3 ?_;refine aH ?_;refine ej ?_
   refine dn (vs:=[.slice none 0 0]) ((Heap.aI (by(simp only[z1,z2];omega))).trans (hx.log.trans hr.log)) (ef (b:=h.next+3) rfl (by(simp(disch:=first|omega|(simp only[z1,z2];omega)|(simp only[z1,z2];done)|fail)only[z8,z4,z5,z9,z7,z1,z2, *];exact rfl)) rfl fP) ⟨[],none,0, .none (by unfold iu at hno;omega),rfl, .nil,(fun _ _ _ e=>by cases e), .inr (by omega)⟩
  ·rw[decide_eq_false hno]at C
   obtain⟨pa,pb⟩:=p
   dsimp only at hp1 hp2
   have hno':1≤pa∧1≤pb:=by unfold iu at hno;dsimp only at hno;omega
   obtain⟨a,rfl⟩:=Int.eq_ofNat_of_zero_le (show 0≤pa by omega)
   obtain⟨b,rfl⟩:=Int.eq_ofNat_of_zero_le (show 0≤pb by omega)
   have hsab:a+b≤m+1:=by simpa[sz]using hs
   have hlk:kl.length=n:=by have:=B.hks.len;rw[cP]at this;omega
   unfold cT at C⊢
   dsimp only at hx C⊢
   refine y4 ?_;refine yB ?_;refine yB ?_;refine yB ?_;refine af cN ?_;refine y3 ?_;refine aq ?_;refine y4 ?_;refine yN ?_
   refine yC ?_
   refine FW.pu C ?_
   refine y3 ?_;refine yX ?_;refine aB ?_;refine aP ?_;refine aq ?_;refine y4 ?_
   refine yL ?_
   refine yN ?_
   refine yC ?_
   refine FW.al (pR F.toFnsV.p F.toFnsV.f104 (.of (hx.wf hr.wf)) bb a b) (fun _ _ _ q=>q) ?_
   rintro _ h1 hx1 ⟨rfl,hn1,gp,gx⟩
   have en:({(((h.push (.cells [.pointer (some ⟨bb,0,none⟩)] true 1)).push (.cells [.map (some mb)] true 1)).push (.cells [.int .i64 (a:Int), .int .i64 (b:Int)] true 1)).push (.cells [.slice none 0 0] true 1)with log:=[]}:Heap).next=h.next+4:=rfl
   rw[en]at hn1 gp gx
   rw[en]
   have w1:=hx1.wf (hx.wf hr.wf)
   have hx01:=hx.trans hx1
   have g3:h1.get h.next=some (.cells [.pointer (some ⟨bb,0,none⟩)] true 1):=by rw[hx1.old _ (by(simp only[z1,z2];omega))];(simp(disch:=first|omega|(simp only[z1,z2];omega))only[z3,z4,z5,z6,z7,z1,z2, *];exact rfl)
   have g4:h1.get (h.next+1)=some (.cells [.map (some mb)] true 1):=by rw[hx1.old _ (by(simp only[z1,z2];omega))];(simp(disch:=first|omega|(simp only[z1,z2];omega)|(simp only[z1,z2];done)|fail)only[z8,z4,z5,z9,z7,z1,z2, *];exact rfl)
   have g5:h1.get (h.next+2)=some (.cells [.int .i64 a, .int .i64 b] true 1):=by rw[hx1.old _ (by(simp only[z1,z2];omega))];(simp(disch:=first|omega|(simp only[z1,z2];omega)|(simp only[z1,z2];done)|fail)only[z8,z4,z5,z9,z7,z1,z2, *];exact rfl)
   have g6:h1.get (h.next+3)=some (.cells [.slice none 0 0] true 1):=by rw[hx1.old _ (by(simp only[z1,z2];omega))];(simp(disch:=first|omega|(simp only[z1,z2];omega)|(simp only[z1,z2];done)|fail)only[z8,z4,z5,z9,z7,z1,z2, *];done)
   have B1:=B.ext hr.wf hx01
   have hlog1:h1.log=[]:=hx01.log.trans hr.log
   have hn1':h1.next=h.next+6:=hn1
   clear hx1 C hx
   refine y3 ?_;refine aC ?_
   refine pP (lo:=h.next) (g:=140) (P:=fun H=>(∀z,z<h1.next→H.get z=h1.get z)∧H.get h1.next=some (.loop [(3, .pointer (some ⟨h.next,0,none⟩)),(4, .pointer (some ⟨h.next+1,0,none⟩)),(5, .pointer (some ⟨h.next+2,0,none⟩)),(6, .pointer (some ⟨h.next+3,0,none⟩)),(15,fn2 140 (h.next+4) (h.next+5))] [16] sM nM 0 .normal)∧h1.next<H.next∧∀x∈aZ a b kl 0,ws.getD x.2 0≠look t ((a:Int),(b:Int)))
    (S:=PX (h1.push (.loop [(3, .pointer (some ⟨h.next,0,none⟩)),(4, .pointer (some ⟨h.next+1,0,none⟩)),(5, .pointer (some ⟨h.next+2,0,none⟩)),(6, .pointer (some ⟨h.next+3,0,none⟩)),(15,fn2 140 (h.next+4) (h.next+5))] [16] sM nM 0 .normal)) h1.next (h.next+3) (.loop [(3, .pointer (some ⟨h.next,0,none⟩)),(4, .pointer (some ⟨h.next+1,0,none⟩)),(5, .pointer (some ⟨h.next+2,0,none⟩)),(6, .pointer (some ⟨h.next+3,0,none⟩)),(15,fn2 140 (h.next+4) (h.next+5))] [16] sM nM 2 .ret) (ij kerf ws kl t ((a:Int),(b:Int))))
    (by rfl) (by rfl) (by rw[F.toFnsV.f140];rfl) (Nat.le_refl _) (by omega) hlog1 w1 ?_ (fun H q=>⟨_,_,_,_,q.2.1⟩) (fun H q=>⟨_,_,_,_,q.loop⟩) ?_ ?_
   ·refine y7 F.toFnsV.p F.toFnsV.f140 (.of (w1.push _)) (pb:=h.next+4) (bb:=bb) (px:=h.next+5) (l':=h1.next) (N:=h1.next+1) (lo:=h.next) (a:=a) (b:=b) (n:=n) (c:=c) (sa:=sa) (l:=kl) (v1:= .int .i64 kerf) (v2:= .slice wa n wc)
     (P:=fun done H=>(∀z,z<h1.next→H.get z=h1.get z)∧H.get h1.next=some (.loop [(3, .pointer (some ⟨h.next,0,none⟩)),(4, .pointer (some ⟨h.next+1,0,none⟩)),(5, .pointer (some ⟨h.next+2,0,none⟩)),(6, .pointer (some ⟨h.next+3,0,none⟩)),(15,fn2 140 (h.next+4) (h.next+5))] [16] sM nM 0 .normal)∧h1.next<H.next∧∀x∈done,ws.getD x.2 0≠look t ((a:Int),(b:Int)))
     (Nat.le_refl _) (by show h.next≤h1.next+1;omega) hn (Nat.lt_succ_self _) ⟨fun done x H hxm hr' hN hP=> ?_,fun done H H' q hN' ha=>⟨fun z hz=>(ha z (by omega)).trans (q.1 z hz),(ha _ (Nat.lt_succ_self _)).trans q.2.1,by omega,q.2.2.2⟩,fun H m q=>q.log m,fun H q=>⟨_,_,_,_,q.loop⟩⟩
     ((z4 (by omega)).trans gp) ((z4 (WF.aT w1 B1.gb)).trans B1.gb) (fun d H q=>(B1.keep w1 (by omega) fun z hz _=>q.1 z hz).hks) (fun d H q=>(q.1 _ (by omega)).trans gx) ⟨fun z hz=>z4 hz,z3 _ _,Nat.lt_succ_self _,fun x hx=>by cases hx⟩
    obtain⟨q1,q2,q3,q4⟩:=hP
    refine FW.mono' (BL F hr' (lo:=h.next) (N:=h1.next+1) (x:=x) (by have:=lK x hxm;omega) (B1.keep w1 (by omega) fun z hz _=>q1 z hz) q2 ((q1 _ (by omega)).trans g3) ((q1 _ (by omega)).trans g4) ((q1 _ (by omega)).trans g5) ((q1 _ (by omega)).trans g6) (by omega) (by omega)) ?_
    rintro r H' ⟨zy1,zy2⟩
    refine⟨zy1,zy2.imp ?_ ?_⟩
    ·rintro⟨rfl,zy3,zy4,zy5⟩
     refine⟨rfl,fun z hz=>(zy3 z (by omega)).trans (q1 z hz),(zy3 _ q3).trans q2,by omega,fun y hy=> ?_⟩
     rcases List.mem_append.1 hy with hy|hy
     ·exact q4 y hy
     ·rw[List.mem_singleton.1 hy];exact zy5
    ·rintro⟨rfl,zy3,zy4⟩
     refine⟨rfl,zy3,zy4.up (by exact q3) (fun z hz hne _=> ?_) ?_⟩
     ·have hz':z<h1.next+1:=hz
      exact(q1 z (by omega)).trans (z4 (by omega)).symm
     ·rintro ns ⟨rfl,e⟩
      exact .leaf (by omega) (by omega) hxm e
   ·intro h2 h3 c1 c2 c3 c4 c5 ⟨q1,q2,q3,q4⟩
    have E:∀z,z<h1.next→h3.get z=h1.get z:=fun z hz=>(c5 z (by omega)).trans (q1 z hz)
    have e3:=(E _ (by omega)).trans g3
    have e4:=(E _ (by omega)).trans g4
    have e5:=(E _ (by omega)).trans g5
    have e6:=(E _ (by omega)).trans g6
    have B3:=B1.keep w1 (by omega) fun z hz _=>E z hz
    have gm3:=B3.gm
    clear g3 g4 g5 g6 gp gx q1 q2 q3 c4 c5 E
    by_cases hpos:0<look t ((a:Int),(b:Int))
    ·refine cZ ?_;refine aP ?_;refine aq ?_;refine y4 ?_;refine yL ?_;refine yN ?_
     refine af (dH (x:=((a:Int),(b:Int))) (by exact rfl) (by exact rfl) gm3) ?_
     refine yt ?_;refine y3 ?_;refine yY ?_;refine y4 ?_;refine yL ?_
     refine yN ?_
     refine yC ?_
     refine FW.al (uQ F.toFnsV.p F.toFnsV.f105 (.of c2) _ a b) (fun _ _ _ q=>q) ?_
     rintro _ h4 hx4 ⟨rfl,hn4,gx4⟩
     have w4:=hx4.wf c2
     have hn4':h4.next=h3.next+1:=hn4
     have hlog4:h4.log=[]:=hx4.log.trans c1
     have i3:=(hx4.old _ (by omega)).trans e3
     have i4:=(hx4.old _ (by omega)).trans e4
     have i5:=(hx4.old _ (by omega)).trans e5
     have i6:=(hx4.old _ (by omega)).trans e6
     have B4:=B3.ext c2 hx4
     clear e3 e4 e5 e6 gm3 hx4
     refine y3 ?_;refine aC ?_
     refine pP (lo:=h.next) (g:=141) (P:=fun H=>(∀z,z<h4.next→H.get z=h4.get z)∧H.get h4.next=some (.loop [(3, .pointer (some ⟨h.next,0,none⟩)),(4, .pointer (some ⟨h.next+1,0,none⟩)),(5, .pointer (some ⟨h.next+2,0,none⟩)),(6, .pointer (some ⟨h.next+3,0,none⟩)),(37,fn1 141 h3.next)] [38] qk mg 0 .normal)∧h4.next<H.next∧∀x∈dD a b,look t (cg x a b)+look t (cm kerf x a b)≠look t ((a:Int),(b:Int)))
      (S:=PX (h4.push (.loop [(3, .pointer (some ⟨h.next,0,none⟩)),(4, .pointer (some ⟨h.next+1,0,none⟩)),(5, .pointer (some ⟨h.next+2,0,none⟩)),(6, .pointer (some ⟨h.next+3,0,none⟩)),(37,fn1 141 h3.next)] [38] qk mg 0 .normal)) h4.next (h.next+3) (.loop [(3, .pointer (some ⟨h.next,0,none⟩)),(4, .pointer (some ⟨h.next+1,0,none⟩)),(5, .pointer (some ⟨h.next+2,0,none⟩)),(6, .pointer (some ⟨h.next+3,0,none⟩)),(37,fn1 141 h3.next)] [38] qk mg 2 .ret) (ij kerf ws kl t ((a:Int),(b:Int))))
      (by rfl) (by rfl) (by rw[F.toFnsV.f141];rfl) (Nat.le_refl _) (by omega) hlog4 w4 ?_ (fun H q=>⟨_,_,_,_,q.2.1⟩) (fun H q=>⟨_,_,_,_,q.loop⟩) ?_ ?_
     ·refine De F.toFnsV.p F.toFnsV.f141 (.of (w4.push _)) (bx:=h3.next) (l:=h4.next) (N:=h4.next+1) (lo:=h.next) (a:=a) (b:=b)
       (P:=fun done H=>(∀z,z<h4.next→H.get z=h4.get z)∧H.get h4.next=some (.loop [(3, .pointer (some ⟨h.next,0,none⟩)),(4, .pointer (some ⟨h.next+1,0,none⟩)),(5, .pointer (some ⟨h.next+2,0,none⟩)),(6, .pointer (some ⟨h.next+3,0,none⟩)),(37,fn1 141 h3.next)] [38] qk mg 0 .normal)∧h4.next<H.next∧∀x∈done,look t (cg x a b)+look t (cm kerf x a b)≠look t ((a:Int),(b:Int)))
       (Nat.le_refl _) (by show h.next≤h4.next+1;omega) (by omega) (by omega) (Nat.lt_succ_self _) ⟨fun done x H hxm hr' hN hP=> ?_,fun done H H' q hN' ha=>⟨fun z hz=>(ha z (by omega)).trans (q.1 z hz),(ha _ (Nat.lt_succ_self _)).trans q.2.1,by omega,q.2.2.2⟩,fun H m q=>q.log m,fun H q=>⟨_,_,_,_,q.loop⟩⟩
       (fun d H q=>(q.1 _ (by omega)).trans gx4) ⟨fun z hz=>z4 hz,z3 _ _,Nat.lt_succ_self _,fun x hx=>by cases hx⟩
      obtain⟨q1,q2,q3,q4⟩:=hP
      refine FW.mono' (CV F hr' (lo:=h.next) (N:=h4.next+1) (x:=x) hxm (by omega) (by omega) hk hT (B4.keep w4 (by omega) fun z hz _=>q1 z hz) q2 ((q1 _ (by omega)).trans i3) ((q1 _ (by omega)).trans i4) ((q1 _ (by omega)).trans i5) ((q1 _ (by omega)).trans i6) (by omega) (by omega) fun p' h' hs' y1 y2 hr2 B2=>ih p' h' (by omega) y1 y2 hr2 B2) ?_
      rintro r H' ⟨zy1,zy2⟩
      refine⟨zy1,zy2.imp ?_ ?_⟩
      ·rintro⟨rfl,zy3,zy4,zy5⟩
       refine⟨rfl,fun z hz=>(zy3 z (by omega)).trans (q1 z hz),(zy3 _ q3).trans q2,by omega,fun y hy=> ?_⟩
       rcases List.mem_append.1 hy with hy|hy
       ·exact q4 y hy
       ·rw[List.mem_singleton.1 hy];exact zy5
      ·rintro⟨rfl,zy3,zy4⟩
       refine⟨rfl,zy3,zy4.up (by exact q3) (fun z hz hne _=> ?_) ?_⟩
       ·have hz':z<h4.next+1:=hz
        exact(q1 z (by omega)).trans (z4 (by omega)).symm
       ·rintro ns ⟨n1,n2,e,r1,r2,rfl⟩
        exact .cut (by omega) (by omega) hxm e r1 r2
     ·intro h5 h6 d1 d2 d3 d4 d5 ⟨q1,q2,q3,q5⟩
      have i6':=((d5 _ (by omega)).trans (q1 _ (by omega))).trans i6
      have TAIL:=fun rest=>tL F (base:=h.next) (p3:=h.next) (p4:=h.next+1) (p5:=h.next+2) (p6:=h.next+3) (rest:=rest) d2 d1 (by omega) (by omega) i6' (.tO (kerf:=kerf) (ws:=ws) (kl:=kl) (t:=t) (a:=a) (b:=b) (by omega) (by omega) q4 fun _=>q5)
      unfold uX at TAIL
      simp only[cR,codeOf,f84]at TAIL
      refine cZ ?_;refine aP ?_;exact TAIL _
     ·intro h5 h6 d1 d2 d3 d4 d5 hS
      obtain⟨ns,q,cc,R,y1,y2,y3,y4,y5⟩:=hS.out
      have y1':h4.next+1≤q:=y1
      refine iD ?_;refine ej ?_
      exact dn (vs:=[.slice (some ⟨q,0,none⟩) ns.length cc]) d1 (ef (b:=h.next+3) rfl ((d5 _ (by omega)).trans y4) rfl fP) ⟨ns,_,_,R,rfl, .mem ⟨by omega,⟨_,_,_,(d5 _ (by omega)).trans y5,by rw[dj,cu,List.drop_zero,List.take_of_length_le (by rw[oF];omega)]⟩,oF _⟩ y3.1,fun b o n e=>by cases e;exact⟨_,_,(d5 _ (by omega)).trans y5⟩,y3.2⟩
    ·have TAIL:=fun rest=>tL F (base:=h.next) (p3:=h.next) (p4:=h.next+1) (p5:=h.next+2) (p6:=h.next+3) (rest:=rest) c2 c1 (by omega) (by omega) e6 (.tO (kerf:=kerf) (ws:=ws) (kl:=kl) (t:=t) (a:=a) (b:=b) (by omega) (by omega) q4 fun q=>absurd q hpos)
     unfold uX at TAIL
     simp only[cR,codeOf,f84]at TAIL
     refine cZ ?_;refine aP ?_;refine aq ?_;refine y4 ?_;refine yL ?_;refine yN ?_
     refine af (dH (x:=((a:Int),(b:Int))) (by exact rfl) (by exact rfl) gm3) ?_
     refine yf ?_;refine y3 ?_;refine yX ?_;refine aB ?_;refine aP ?_;exact TAIL _
   ·intro h2 h3 c1 c2 c3 c4 c5 hS
    obtain⟨ns,q,cc,R,y1,y2,y3,y4,y5⟩:=hS.out
    have y1':h1.next+1≤q:=y1
    refine iD ?_;refine ej ?_
    exact dn (vs:=[.slice (some ⟨q,0,none⟩) ns.length cc]) c1 (ef (b:=h.next+3) rfl ((c5 _ (by omega)).trans y4) rfl fP) ⟨ns,_,_,R,rfl, .mem ⟨by omega,⟨_,_,_,(c5 _ (by omega)).trans y5,by rw[dj,cu,List.drop_zero,List.take_of_length_le (by rw[oF];omega)]⟩,oF _⟩ y3.1,fun b o n e=>by cases e;exact⟨_,_,(c5 _ (by omega)).trans y5⟩,y3.2⟩
end Go.A.Pk
end
section
namespace Go.A.Pk
variable {kerf:Int} {ws:List Int} {kl:List Kd}
theorem FG(hk:0≤kerf)(p:Int×Int):0≤V kerf ws kl p:=by
 by_cases h:1≤p.1∧1≤p.2
 ·obtain⟨a,ha⟩:=Int.eq_ofNat_of_zero_le (show 0≤p.1 by omega)
  obtain⟨b,hb⟩:=Int.eq_ofNat_of_zero_le (show 0≤p.2 by omega)
  have e:p=((a:Int),(b:Int)):=Prod.ext ha hb
  rw[e,xJ hk (by omega) (by omega)]
  have h1:(0:Int)≤ig ws (aZ a b kl 0) 0:=(iH (f:=fun x:Nat×Nat=>ws.getD x.2 0) (xs:=aZ a b kl 0) (m:=0)).1
  exact Int.le_trans h1 iH.1
 ·rw[oy h];exact Int.le_refl _
end Go.A.Pk
end
