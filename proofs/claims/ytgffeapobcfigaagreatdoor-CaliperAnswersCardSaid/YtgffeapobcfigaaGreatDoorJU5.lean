/- Walks of functions, plain laws, the table. -/
import Derived.Test.YtgffeapobcfigaaGreatDoorJU4
import Derived.Test.YtgffeapobcfigaaGreatDoorJU3
import Derived.Test.YtgffeapobcfigaaGreatDoorJU0
import Derived.Test.YtgffeapobcfigaaGreatDoorJH
import Derived.Test.YtgffeapobcfigaaGreatDoorJT
import Derived.KernelRfl
import Derived.Test.YtgffeapobcfigaaGreatDoorJD
set_option linter.all false
set_option maxHeartbeats 16000000
set_option maxRecDepth 100000
section
namespace Go.A.Pk
variable {T:Nat->Option af}
theorem Em{w:List Nat×List Nat}{os:List (List Nat)}(h:uO w os=true):os.length<=8:=by
 unfold uO at h;split at h
 ·exact of_decide_eq_true h
 ·rw[Bool.and_eq_true]at h;exact of_decide_eq_true h.2
def bls(l:List Bool):List Value:=l.map .bool
theorem M6{l:List Bool}{i:Nat}{b:Bool}(h:l[i]? =some b):(bls l)[i]? =some (.bool b):=by simp[bls,h]
structure nA (H G:Heap) (f g:List Nat):Prop where
 wf:WF G
 log:G.log=[]
 next:G.next=H.next+2
 old:∀z,z<H.next->G.get z=H.get z
 gf:G.get H.next=some (.cells (ints (cst f)) true 1)
 ga:G.get (H.next+1)=some (.cells (ints (cst g)) true 1)
theorem nA.ext{H G:Heap}{f g:List Nat}(q:nA H G f g)(hl:H.log=[]):Ext H G:=⟨by have:=q.next;omega,q.log.trans hl.symm,q.old,λ_=>q.wf⟩
theorem nA.Q3{H G:Heap}{f g:List Nat}{base:Nat}(q:nA H G f g)(hb:base<=H.next+1)(i k:Nat):nA H (G.wr base (H.next+1) (.cells ((ints (cst g)).set (0+i*1) (.int .i64 ((k:Nat):Int))) true 1)) f (g.set i k):=
 ⟨q.wf.as (AS.wr base _ _ _),(Heap.aB hb).trans q.log,q.next,λz hz=>(z5 (by omega)).trans (q.old z hz),(z5 (by omega)).trans q.gf,by rw[ints_set,z6,q.ga];rfl⟩
theorem nA.S0{H G:Heap}{f g:List Nat}{base:Nat}(q:nA H G f g)(hb:base<=H.next)(i k:Nat):nA H (G.wr base H.next (.cells ((ints (cst f)).set (0+i*1) (.int .i64 ((k:Nat):Int))) true 1)) (f.set i k) g:=
 ⟨q.wf.as (AS.wr base _ _ _),(Heap.aB hb).trans q.log,q.next,λz hz=>(z5 (by omega)).trans (q.old z hz),by rw[ints_set,z6,q.gf];rfl,(z5 (by omega)).trans q.ga⟩
theorem C7{f:List Nat}{i k:Nat}(h:f[i]? =some k):bN (ints (cst f)) (0+i*1)=some (.int .i64 ((k:Nat):Int)):=by
 rw[cD,Nat.zero_add,Nat.mul_one];simp[ints,cst,h]
theorem gH(f:List Nat):(ints (cst f)).length=f.length:=by rw[Ax,oQ]
theorem nA.sf{H G:Heap}{f g:List Nat}(q:nA H G f g):bY G 1 (.slice (some ⟨H.next,0,none⟩) f.length f.length) (cst f).length (ints (cst f)):=by
 rw[oQ];exact .mem ⟨by rw[q.next];omega,⟨_,_,_,q.gf,by rw[bg,List.drop_zero,bU,List.take_of_length_le (by rw[gH];omega)]⟩,by rw[gH];omega⟩ (Nat.le_refl _)
theorem JD{pr:Int}(h: -9223372036854775808<=pr/\pr<9223372036854775808):∃u:Nat,eE .u64 pr=(u:Int):=by
 cases pr with
 |ofNat n=>exact⟨n,by rw[show Int.ofNat n=(n:Int)from rfl];exact kg (by have:=h.2;simp at this;omega)⟩
 |negSucc n=>
  refine⟨18446744073709551615-n,?_⟩;have:=h.1;have e:eE .u64 (Int.negSucc n)=Int.negSucc n % 18446744073709551616:=by
   show(bif Nat.blt n 0 then Int.negSucc n else IntKind.u64.wrap (Int.negSucc n))=_;rw[show Nat.blt n 0=false by cases n<;>rfl,cond_false];simp[IntKind.wrap,IntKind.bits,IntKind.signed]
  rw[e];omega
theorem NA{u n:Nat}(h:n≠0):aq .rem (.int .u64 (u:Nat)) (.int .u64 (n:Nat))=some (.int .u64 ((u % n:Nat):Int)):=by
 have e:(u:Int).tmod n=((u % n:Nat):Int):=by rw[Int.tmod_eq_emod_of_nonneg (by omega)];rfl
 have e2:¬ (n:Int)=0:=by omega
 simp[aq,arith,e,e2,h]
theorem OwE.blk{lo n:Nat}{h:Heap}{v:Value}{cs:List Value}(o:OwE lo h 1 v n cs)(hn:n≠0):∃b,v= .slice (some ⟨b,0,none⟩) n UNK/\lo<=b/\b<h.next/\h.get b=some (.cells cs true 1):=by
 cases o with
 |own o=>
  cases o with
  |nil=>exact absurd rfl hn
  |full h1 h2 h3 h4 h5=>exact⟨_,rfl,h1,h2,h3⟩
 |lit=>exact absurd rfl hn
structure FA (T:Nat->Option af):Prop where
 de:OX T
 r8:Mt T
 lt:Ms T
 rs:Mv T
 fi:CL T
 f11:T 11=some f11
 f21:T 21=some (.jN pSd)
 f32:T 32=some f32
 f119:T 119=some f119
theorem Qs(F:FA T){h:Heap}(hr:Rdy h)(hg:Tab h)(h2:2<h.next){w:List Nat×List Nat}(hw:IsW w){pv:Value}{l:List Pb}(sp:PbS h pv l){ov:Value}{os:List (List Nat)}(so:SsQ h ov os)(hou:os.length<4611686018427387904){s:List Nat}(hs:IsS s){v:Value}{ak:List Bool}(sb:bY h 1 v ak.length (bls ak)){pr:Int}(hpr: -9223372036854775808<=pr/\pr<9223372036854775808):
 Pu T 11 [wV w,pv,ov,sv s,v, .int .i64 pr] h (.bool true):=by
 have hp:=F.r8.p;refine .of hp F.f11 hr rfl ?_;have hwc:cellsOf (wV w)=wL w:=by show(wL w).toArray.toList=_;simp
 have hsc:cellsOf (sv s)=us s:=by show(us s).toArray.toList=_;simp
 obtain⟨a,c,rfl⟩:=sp.form;obtain⟨a2,c2,rfl⟩:=so.sl.form;obtain⟨a3,c3,rfl⟩:=sb.form;have x0:Ext h ((h.push (.cells (cellsOf (wV w)) true 1)).push (.cells (cellsOf (sv s)) true 1)):=((Ext.refl h).push _).push _;have g0:((h.push (.cells (cellsOf (wV w)) true 1)).push (.cells (cellsOf (sv s)) true 1)).get h.next=some (.cells (wL w) true 1):=by rw[hwc];exact(z4 (Nat.lt_succ_self _)).trans (z3 h _)
 have g9:((h.push (.cells (cellsOf (wV w)) true 1)).push (.cells (cellsOf (sv s)) true 1)).get (h.next+1)=some (.cells (us s) true 1):=by rw[hsc];exact z3 _ _
 have n0:((h.push (.cells (cellsOf (wV w)) true 1)).push (.cells (cellsOf (sv s)) true 1)).next=h.next+2:=rfl
 have hnx:(h.push (.cells (cellsOf (wV w)) true 1)).next=h.next+1:=rfl
 refine Y5 ?_;generalize((h.push (.cells (cellsOf (wV w)) true 1)).push (.cells (cellsOf (sv s)) true 1))=H at*;rw[hnx];clear hnx;have W:=x0.wf hr.wf;have hL:=x0.log.trans hr.log;have wk:=qq hw;have wkl:=lB hw;have hgH:Tab H:=hg.ext x0 h2;have sp0:=sp.ext x0;have so0:=so.ext x0;have sb0:=sb.ext x0;have C0:=KC F.lt (h:={H with log:=[]}) (.of W) hw (so0.log []) hou;have CS:Pu T 21 [] {H with log:=[]} (.bool true):=N7 F.f21 (show Tab H from hgH);cases hlb:uO w os with
 |false=>
  rw[hlb]at C0;refine Y5 ?_;refine FW.pu C0 ?_;refine Y25 ?_;refine FW.pu CS ?_;refine Y4 ?_;exact aA hL rfl rfl
 |true=>
 rw[hlb]at C0;by_cases hl5:5<l.length
 ·have m1:aq .gtr (.int .i64 (l.length:Nat)) (.int .i64 5)=some (.bool true):=kI (by omega);refine Y5 ?_;refine FW.pu C0 ?_;refine Y28 ?_;refine FW.pu CS ?_;refine Y4 ?_;exact aA hL rfl rfl
 have m1:aq .gtr (.int .i64 (l.length:Nat)) (.int .i64 5)=some (.bool false):=jM (by omega);by_cases hl0:l.length=0
 ·have m2:aq .eql (.int .i64 (l.length:Nat)) (.int .i64 0)=some (.bool true):=sC (by omega);refine Y5 ?_;refine FW.pu C0 ?_;refine Y31 ?_;refine FW.pu CS ?_;refine Y4 ?_;exact aA hL rfl rfl
 have m2:aq .eql (.int .i64 (l.length:Nat)) (.int .i64 0)=some (.bool false):=lI (by omega);have C1:=OS F.rs (h:={H with log:=[]}) (.of W) hw;by_cases hin:sIn w.1 w.2=true;case neg=>
  rw[if_neg hin]at C1;have m3:aq .neq (.int .i64 1) (.int .i64 0)=some (.bool true):=rfl;refine Y5 ?_;refine FW.pu C0 ?_;refine Y22 ?_;refine FW.pu C1 ?_;refine Y12 ?_;refine FW.pu CS ?_;refine Y4 ?_;exact aA hL rfl rfl
 rw[if_pos hin]at C1;have m3:aq .neq (.int .i64 0) (.int .i64 0)=some (.bool false):=rfl;have hl:l.length<1000000:=by omega
 have C2:=EW F.r8 (h:={H with log:=[]}) (.of W) (sp0.log []) hl;by_cases hpe:prE l=0;case neg=>
  have m4:aq .neq (.int .i64 (prE l)) (.int .i64 0)=some (.bool true):=kJ hpe;refine Y5 ?_;refine FW.pu C0 ?_;refine Y22 ?_;refine FW.pu C1 ?_;refine Y8 ?_;refine FW.pu C2 ?_;refine Y7 ?_;refine FW.pu CS ?_;refine Y4 ?_;exact aA hL rfl rfl
 rw[hpe]at C2;have hol:os.length<1000000:=Nat.lt_of_le_of_lt (Em hlb) (by decide);have ks8:=aO hs.len;have ks9:=bn hs.len;have C3:=DU hp F.f32 F.r8.f118 F.f119 (h:={H with log:=[]}) (.of W) hw hs;have ht:IsS (BB w s):=J8 hw hs;obtain⟨t1,t2⟩:=F8 hw hs hin;have C3:Pu T 32 [wV w,sv s] {H with log:=[]} (sv (BB w s)):=C3;generalize BB w s=t at*;have kt8:=aO ht.len;have kt9:=bn ht.len;have ktn:=ht.len;refine Y5 ?_;refine FW.pu C0 ?_;clear C0 CS;refine Y22 ?_;refine FW.pu C1 ?_;clear C1;refine Y8 ?_;refine FW.pu C2 ?_;clear C2;refine Y11 ?_;refine FW.pu C3 ?_;clear C3;refine aF (nk) ?_;refine aF (br (by exact rfl) (by exact rfl) YG (by(simp only[aD];assumption)) (by exact rfl) (by exact cI _)) ?_;refine Y4 ?_;have x1:=eT (h:=H) (base:=h.next) (by omega) (.cells (aK 8 (.int .u64 0)) true 1) (.cells (us t) true 1);have g13:=fQ (h:=H) (base:=h.next) (aK 8 (.int .u64 0)) (us t);have n1:((H.push (.cells (aK 8 (.int .u64 0)) true 1)).wr h.next H.next (.cells (us t) true 1)).next=H.next+1:=rfl
 skip;generalize((H.push (.cells (aK 8 (.int .u64 0)) true 1)).wr h.next H.next (.cells (us t) true 1))=H1 at*;have ey1:=x0.trans x1;have W1:=ey1.wf hr.wf;have hL1:=x1.log.trans hL;have g01:=(x1.old _ (by omega)).trans g0;clear g0 g9;skip;refine aF (vY (m:=1) (by exact rfl) (by exact rfl) (Nat.le_refl _) (by omega) (by omega) rfl) ?_;rw[sA];refine Y5 ?_;refine aF (vY (m:=1) (by exact rfl) (by exact rfl) (Nat.le_refl _) (by omega) (by omega) rfl) ?_;rw[sA];have A0:nA H1 ((H1.push (.cells (ints (cst (List.replicate l.length 0))) true 1)).push (.cells (ints (cst (List.replicate l.length 0))) true 1)) (pre (fdL t l ak) 0) (pre (l.map (eS t)) 0):=by
  rw[A4,A4,oT,List.length_map];exact⟨(((Ext.refl H1).push _).push _).wf W1,hL1,rfl,λz hz=>(z4 (by show z<H1.next+1;omega)).trans (z4 hz),(z4 (Nat.lt_succ_self _)).trans (z3 _ _),z3 _ _⟩
 have hnx:(H1.push (.cells (ints (cst (List.replicate l.length 0))) true 1)).next=H1.next+1:=rfl
 rw[hnx];clear hnx;generalize((H1.push (.cells (ints (cst (List.replicate l.length 0))) true 1)).push (.cells (ints (cst (List.replicate l.length 0))) true 1))=G0 at*;have sp1:=sp.ext ey1;have sb1:=sb.ext ey1;refine Y7 ?_
 refine cF (λm e ds h'=>∃i:Nat,i<=l.length/\l.length-i=m/\e=[(1, .slice a l.length c),(2, .slice a2 os.length c2),(4, .slice a3 ak.length c3),(5, .int .i64 pr),(6, .pointer (some ⟨h.next,0,none⟩)),(13, .pointer (some ⟨H.next,0,none⟩)),(14, .slice (some ⟨H1.next,0,none⟩) l.length l.length),(15, .slice (some ⟨H1.next+1,0,none⟩) l.length l.length),(16, .int .i64 (i:Nat))]/\ds=[]/\nA H1 h' (pre (fdL t l ak) i) (pre (l.map (eS t)) i))
  ⟨0,Nat.zero_le _,rfl,rfl,rfl,A0⟩ ?_
 rintro m e ds G ⟨i,hi,rfl,rfl,rfl,A⟩;have xG:=A.ext hL1;have WG:=A.wf;have hLG:=A.log;have nG:=A.next
 have gfG:=A.gf;have gaG:=A.ga;have g0G:=(xG.old _ (by omega)).trans g01;have g13G:=(xG.old _ (by omega)).trans g13;by_cases hlt:i<l.length
 ·obtain⟨p,hpi⟩:∃r,l[i]? =some r:=⟨l[i],List.getElem?_eq_getElem hlt⟩;have hps:=sp.ok p (List.mem_of_getElem? hpi);obtain⟨b,o,cc,vs,own,tt,hv,gl,hbl,gat⟩:=(sp1.ext xG).elem hpi;cases hv;have k1:=gat.cells;have k2:=aO hps.len;have mlt:aq .lss (.int .i64 (i:Nat)) (.int .i64 (l.length:Nat))=some (.bool true):=fR (by omega);have C:=vR hp F.de.ju.cb.qu.f35 F.de.ju.cb.qu.f121 (h:={G with log:=[]}) (.of WG) hps ht;have hfp:=DA (l:=fdL t l ak) (i:=i) (by rw[oT];omega);have hap:=DA (l:=l.map (eS t)) (i:=i) (by rw[List.length_map];omega);rw[oT]at hfp;rw[List.length_map]at hap;have hfs:=gH (pre (fdL t l ak) i);have has:=gH (pre (l.map (eS t)) i);have hai:(l.map (eS t))[i]? =some (eS t p):=by rw[List.getElem?_map,hpi];rfl
  have hfi:=BG t (ak:=ak) hpi;have haw:=y9 hai;refine Y21 ?_;refine FW.puD C (by(repeat apply aN rfl);exact bJ) ?_;clear C;refine Y8 ?_;refine aF (lQ (by exact rfl) (by exact rfl) (by assumption) (by exact rfl) (by exact rfl) (by omega)) ?_;refine Y5 ?_;have A1:nA H1 (G.wr h.next (H1.next+1) (.cells ((ints (cst (pre (l.map (eS t)) i))).set (0+i*1) (.int .i64 2)) true 1)) (pre (fdL t l ak) i) ((pre (l.map (eS t)) i).set i 2):=A.Q3 (by omega) i 2;generalize(G.wr h.next (H1.next+1) (.cells ((ints (cst (pre (l.map (eS t)) i))).set (0+i*1) (.int .i64 2)) true 1))=G1 at*;have xG1:=A1.ext hL1;have gaG1:=A1.ga;refine L5 (E0:=λr=>(1, .slice (some ⟨b,o,none⟩) l.length c)::(2, .slice a2 os.length c2)::(4, .slice a3 ak.length c3)::(5, .int .i64 pr)::(6, .pointer (some ⟨h.next,0,none⟩))::(13, .pointer (some ⟨H.next,0,none⟩))::(14, .slice (some ⟨H1.next,0,none⟩) l.length l.length)::(15, .slice (some ⟨H1.next+1,0,none⟩) l.length l.length)::(16, .int .i64 (i:Nat))::r) (P:=λh'=>nA H1 h' (pre (fdL t l ak) i) (pre (l.map (eS t)) (i+1))) ?_ ?_
  ·cases hin2:sIn p.cells t with
   |true=>
    have e1:eS t p=1:=by unfold eS;rw[if_pos hin2]
    rw[e1]at haw;have A2:nA H1 (G1.wr h.next (H1.next+1) (.cells ((ints (cst ((pre (l.map (eS t)) i).set i 2))).set (0+i*1) (.int .i64 1)) true 1)) (pre (fdL t l ak) i) (((pre (l.map (eS t)) i).set i 2).set i 1):=A1.Q3 (by omega) i 1;rw[List.set_set,haw]at A2;have has1:=gH ((pre (l.map (eS t)) i).set i 2);rw[List.length_set]at has1;refine Y5 ?_;refine aF (lQ (by exact rfl) (by exact rfl) (by assumption) (by exact rfl) (by exact rfl) (by omega)) ?_;refine dn ?_;refine y1 ?_;exact⟨rfl,⟨[],rfl⟩,rfl,A2⟩
   |false=>
    have e1:eS t p=2:=by unfold eS;rw[if_neg (by rw[hin2];simp)]
    rw[e1]at haw;rw[haw]at A1;refine Y2 ?_;exact⟨rfl,⟨[_],rfl⟩,rfl,A1⟩
  clear A1 xG1 gaG1 A xG WG hLG nG gfG gaG g0G g13G gl;intro r G2 A2;have xG2:=A2.ext hL1;have gf2:=A2.gf;have ga2:=A2.ga;have hget:=C7 (f:=pre (l.map (eS t)) (i+1)) (i:=i) (k:=eS t p) (by rw[←haw,List.getElem?_set_self (by omega)]);by_cases hk:i<ak.length
  ·obtain⟨bb,hbb⟩:∃r,ak[i]? =some r:=⟨ak[i],List.getElem?_eq_getElem hk⟩;obtain⟨b3,o3,c4,vs3,own3,tt3,hv,gl3,hbl3,el3⟩:=DH (sb1.ext xG2) (M6 hbb);cases hv;have mk:aq .lss (.int .i64 (i:Nat)) (.int .i64 (ak.length:Nat))=some (.bool true):=fR (by omega);have hD:ak.getD i false=bb:=by rw[List.getD_eq_getElem?_getD,hbb];rfl
   rw[hD]at hfi;cases bb with
   |true=>
    have A3:nA H1 (G2.wr h.next H1.next (.cells ((ints (cst (pre (fdL t l ak) i))).set (0+i*1) (.int .i64 ((eS t p:Nat):Int))) true 1)) ((pre (fdL t l ak) i).set i (eS t p)) (pre (l.map (eS t)) (i+1)):=A2.S0 (by omega) i (eS t p);rw[y9 (by simpa using hfi)]at A3;generalize eS t p=k at*;refine Y25 ?_;refine aF (lQ (by exact rfl) (by exact rfl) (by assumption) (by exact rfl) (by exact rfl) (by omega)) ?_;refine dn ?_;refine Y8 ?_;exact⟨l.length-(i+1),by omega,i+1,by omega,rfl,rfl,rfl,A3⟩
   |false=>
    have e3:=AZ (l:=fdL t l ak) (i:=i) (by simpa using hfi);rw[e3]at A2;refine Y25 ?_;exact⟨l.length-(i+1),by omega,i+1,by omega,rfl,rfl,rfl,A2⟩
  ·have mk:aq .lss (.int .i64 (i:Nat)) (.int .i64 (ak.length:Nat))=some (.bool false):=gj (by omega);have hD:ak.getD i false=false:=by rw[List.getD_eq_getElem?_getD,List.getElem?_eq_none (by omega)];rfl
   rw[hD]at hfi;have e3:=AZ (l:=fdL t l ak) (i:=i) (by simpa using hfi);rw[e3]at A2;refine Y21 ?_;exact⟨l.length-(i+1),by omega,i+1,by omega,rfl,rfl,rfl,A2⟩
 ·obtain rfl:i=l.length:=by omega
  have mlt:aq .lss (.int .i64 (l.length:Nat)) (.int .i64 (l.length:Nat))=some (.bool false):=gj (by omega);have A:nA H1 G (fdL t l ak) (l.map (eS t)):=by
   have e1:=Dw (fdL t l ak);have e2:=Dw (l.map (eS t));rw[oT]at e1;rw[List.length_map]at e2;rw[e1,e2]at A;exact A
  have hon:=Ko t l ak;have hfl:=hon.len;have hgl:(l.map (eS t)).length=l.length:=by rw[List.length_map]
  have gfG:=A.gf;have gaG:=A.ga;have sfG:=A.sf;have c54:=GI hw ht t1 t2 sp.ok hin hpe hon;have c55:=GH hw ht t1 t2 sp.ok hin hpe hon;have c56:=Aq hw ht t1 t2 sp.ok hon os;have hz:=ni (f:=fdL t l ak) sp.ok;have hbs:IsS (bsS w.1 (l.zip (fdL t l ak))):=lD hw.a hz;have hbt:sIn (bsS w.1 (l.zip (fdL t l ak))) t=true:=(dF hbs ht).2 (uJ hw ht t1 hz hon.hon);rw[hfl]at sfG;have hcl:=oQ (fdL t l ak);rw[hfl]at hcl;have spG:=sp1.ext xG;have soG:=(so.ext ey1).ext xG;have D1:=P5 F.de.ju.cb (h:={G with log:=[]}) (.of WG) hw (spG.log []) hl (sfG.log []) (by omega);have D2:=F7 F.de.ju.cb (h:={G with log:=[]}) (.of WG) hw (spG.log []) hl (sfG.log []) (by omega);rw[c54]at D1;rw[c55]at D2;dsimp only at D1 D2;have hmore:=λ{k:Nat} {p:Pb} (hp:l[k]? =some p) {o:List Nat} (ho:IsS o) (h0:¬o=s0)=>FL hw ht t1 t2 sp.ok hon hp ho h0;generalize bsS w.1 (l.zip (fdL t l ak))=bs at*;have kb8:=aO hbs.len;have kb9:=bn hbs.len;have kbn:=hbs.len;refine Y18 ?_;refine FW.pu D1 ?_;clear D1;refine Y11 ?_;refine FW.pu D2 ?_;clear D2;refine Y4 ?_;refine aF (br (by exact rfl) (by exact rfl) YG (by(simp only[aD];assumption)) (by exact rfl) (by exact cI _)) ?_;refine Y2 ?_;have x2:=eT (h:=G) (base:=h.next) (by omega) (.cells (aK 8 (.int .u64 0)) true 1) (.cells (us bs) true 1);have g20:=fQ (h:=G) (base:=h.next) (aK 8 (.int .u64 0)) (us bs);have n2:((G.push (.cells (aK 8 (.int .u64 0)) true 1)).wr h.next G.next (.cells (us bs) true 1)).next=G.next+1:=rfl
  generalize((G.push (.cells (aK 8 (.int .u64 0)) true 1)).wr h.next G.next (.cells (us bs) true 1))=G1 at*;have ey2:=(ey1.trans xG).trans x2;have W2:=ey2.wf hr.wf;have hL2:=x2.log.trans hLG;have g02:=(x2.old _ (by omega)).trans g0G;have g132:=(x2.old _ (by omega)).trans g13G;have gf2:=(x2.old _ (by omega)).trans gfG;have ga2:=(x2.old _ (by omega)).trans gaG;have D3:=Ay F.de.ju (h:={G1 with log:=[]}) (.of W2) (show Tab G1 from hg.ext ey2 h2) (by show 2<G1.next;omega) hw ((spG.ext x2).log []) hl ((sfG.ext x2).log []) (by omega) ((soG.ext x2).log []) hol;have hjl:=GS w l (cst (fdL t l ak)) os;have hj1:jJ w l os=0/\pP w=false->nw w l (cst (fdL t l ak)) os=(os.map λo=>iO (l.zip (fdL t l ak)) bs (ei w o),0):=λ⟨q1,q2⟩=>by
   rw[c56,if_neg (λq=>q q1),if_neg (by rw[q2];simp)]
  have hj2:¬ (jJ w l os=0/\pP w=false)->¬ (nw w l (cst (fdL t l ak)) os).2=0:=λq=>by
   rw[c56];by_cases q1:jJ w l os=0
   ·rw[if_neg (λz=>z q1),if_pos (by cases hm:pP w with|true=>rfl|false=>exact absurd ⟨q1,hm⟩ q)];decide
   ·rw[if_pos q1];exact q1
  clear c54 c55 c56 g0G g13G gfG gaG;refine Y6 ?_;refine FW.al D3 (λv h' m ⟨u,e,q⟩=>⟨u,e,q.log m⟩) ?_;clear D3;rintro _ H3 x3 ⟨u3,rfl,q3⟩;have q3:Own G1.next H3 1 u3 (nw w l (cst (fdL t l ak)) os).1.length (fL (nw w l (cst (fdL t l ak)) os).1):=q3
  have ey3:=ey2.trans x3;have W3:=ey3.wf hr.wf;have hL3:=x3.log.trans hL2;have n3:=x3.next
  have g03:=(x3.old _ (by omega)).trans g02;have g133:=(x3.old _ (by omega)).trans g132;have g203:=(x3.old _ (by omega)).trans g20;have gf3:=(x3.old _ (by omega)).trans gf2;have ga3:=(x3.old _ (by omega)).trans ga2;have C:=vR hp F.de.ju.cb.qu.f35 F.de.ju.cb.qu.f121 (h:={H3 with log:=[]}) (.of W3) hbs ht;rw[hbt]at C;have m0:aq .neq (.int .i64 0) (.int .i64 0)=some (.bool false):=rfl;clear g02 g132 g20 gf2 ga2;by_cases hje:jJ w l os=0/\pP w=false;case neg=>
   have hne:=hj2 hje;generalize(nw w l (cst (fdL t l ak)) os).2=je at*;have mj:aq .neq (.int .i64 je) (.int .i64 0)=some (.bool true):=kJ hne;have CS:Pu T 21 [] {H3 with log:=[]} (.bool true):=N7 F.f21 (show Tab H3 from hg.ext ey3 h2);refine Y29 ?_;refine FW.pu C ?_;clear C;refine Y15 ?_;refine FW.pu CS ?_;refine Y4 ?_;exact aA hL3 rfl rfl
  have hj:=hj1 hje;rw[hj]at q3;rw[hj];dsimp only at q3⊢;rw[List.length_map]at q3;obtain⟨pu,hu⟩:=JD hpr;have k1:eE .u64 ((l.length:Nat):Int)=((l.length:Nat):Int):=kg (by omega);have k2:aq .rem (.int .u64 (pu:Nat)) (.int .u64 (l.length:Nat))=some (.int .u64 ((pu % l.length:Nat):Int)):=NA hl0;have hkl:pu % l.length<l.length:=Nat.mod_lt _ (by omega);generalize pu % l.length=k at*;have k3:eE .i64 ((k:Nat):Int)=((k:Nat):Int):=bK (by omega) (by omega);refine Y29 ?_;refine FW.pu C ?_;clear C;refine Y17 ?_;refine aF (pU (by exact rfl) (by assumption)) ?_;refine Y2 ?_;refine aF (pU (by exact rfl) (by assumption)) ?_;refine yW ?_;refine aF (pU (by exact rfl) (by assumption)) ?_;refine Y3 ?_;refine aF (kr (by exact rfl) (by exact rfl)) ?_;refine yM ?_;obtain⟨p,hpk⟩:∃r,l[k]? =some r:=⟨l[k],List.getElem?_eq_getElem hkl⟩;have s3:=q3.slice (by omega);obtain⟨b3,d3,rfl⟩:=s3.form;have x4:Ext H3 (H3.push (.cells (dU 0 [I.O]) true (bG [I.O]))):=(Ext.refl H3).push _;have g4b:(H3.push (.cells (dU 0 [I.O]) true (bG [I.O]))).get H3.next=some (.cells [] true 1):=z3 _ _
  have hs1:dg (H3.push (.cells (dU 0 [I.O]) true (bG [I.O]))) 1 (.slice (some ⟨H1.next,0,none⟩) l.length l.length)=some (ints (cst (fdL t l ak)),l.length):=j8 ((x4.old _ (by omega)).trans gf3) (by rw[bg,List.drop_zero,bU,List.take_of_length_le (by rw[gH];omega)]) (by rw[gH];omega);have nx4:(H3.push (.cells (dU 0 [I.O]) true (bG [I.O]))).next=H3.next+1:=rfl
  refine Fm (lo:=H3.next) (b:=H3.next) g4b (Nat.lt_succ_self _) (Nat.le_refl _) (by omega) (by omega) (by exact rfl) (by exact rfl) hs1 (by rw[gH];omega) ?_;intro v4 H4 o4 x4';have x5:Ext H3 H4:=x4.trans x4';obtain⟨b4,rfl,hb41,hb42,g4⟩:=o4.blk hl0;clear o4 hs1 g4b x4' x4;have ey4:=ey3.trans x5;have n4:=x5.next
  have W4:=ey4.wf hr.wf;have ga4:=(x5.old _ (by omega)).trans ga3;have hai:(l.map (eS t))[k]? =some (eS t p):=by rw[List.getElem?_map,hpk];rfl
  have hget:=C7 hai;have hfs:=gH (fdL t l ak);have hset:=ints_set (fdL t l ak) k (eS t p);have hmo:=λ{o:List Nat} (ho:IsS o) (h0:¬o=s0)=>hmore hpk ho h0;have hon2:=hon.set hpk;have c562:=Aq hw ht t1 t2 sp.ok hon2 os;rw[if_neg (λq=>q hje.1),if_neg (by rw[hje.2];simp)]at c562;have hfl2:((fdL t l ak).set k (eS t p)).length=l.length:=by rw[List.length_set];exact hfl
  clear hmore hj1 hj2 hj;generalize eS t p=an at*;have q6w:=gH ((fdL t l ak).set k an);refine Y10 ?_;refine aF (lQ (by exact rfl) (by exact rfl) (by assumption) (by exact rfl) (by exact rfl) (by omega)) ?_;refine y3 ?_;have x6:Ext H3 (H4.wr h.next b4 (.cells ((ints (cst (fdL t l ak))).set (0+k*1) (.int .i64 ((an:Nat):Int))) true 1)):=⟨n4,(Heap.aB (by omega)).trans x5.log,λz hz=>(z5 (by omega)).trans (x5.old z hz),λw=>(x5.wf w).as (AS.wr _ _ _ _)⟩;have g5:(H4.wr h.next b4 (.cells ((ints (cst (fdL t l ak))).set (0+k*1) (.int .i64 ((an:Nat):Int))) true 1)).get b4=some (.cells (ints (cst ((fdL t l ak).set k an))) true 1):=by rw[hset,z6,g4];rfl
  have n6:(H4.wr h.next b4 (.cells ((ints (cst (fdL t l ak))).set (0+k*1) (.int .i64 ((an:Nat):Int))) true 1)).next=H4.next:=rfl
  generalize(H4.wr h.next b4 (.cells ((ints (cst (fdL t l ak))).set (0+k*1) (.int .i64 ((an:Nat):Int))) true 1))=H5 at*;have ey5:=ey3.trans x6;have W5:=ey5.wf hr.wf;have hL5:=x6.log.trans hL3;have g05:=(x6.old _ (by omega)).trans g03;have g135:=(x6.old _ (by omega)).trans g133;have s35:=s3.ext x6;have sf5:bY H5 1 (.slice (some ⟨b4,0,none⟩) l.length UNK) (cst ((fdL t l ak).set k an)).length (ints (cst ((fdL t l ak).set k an))):=by
   rw[oQ,hfl2];exact .mem ⟨by omega,⟨_,_,_,g5,by rw[bg,List.drop_zero,bU,List.take_of_length_le (by rw[gH];omega)]⟩,by rw[gH];omega⟩ (by unfold UNK;omega)
  have D5:=Ay F.de.ju (h:={H5 with log:=[]}) (.of W5) (show Tab H5 from hg.ext ey5 h2) (by show 2<H5.next;omega) hw ((sp.ext ey5).log []) hl (sf5.log []) (by rw[oQ];omega) ((so.ext ey5).log []) hol;rw[c562]at D5;dsimp only at D5;have hpr2:=(tI hje.1).2.2.1;have m0:aq .neq (.int .i64 0) (.int .i64 0)=some (.bool false):=rfl;have mn:aq .neq (.int .i64 (os.length:Nat)) (.int .i64 (os.length:Nat))=some (.bool false):=qc rfl;clear g03 g133 ga4 g4 ga3 gf3 g203 x5 ey4 W4;refine Y6 ?_;refine FW.al D5 (λv h' m ⟨u,e,q⟩=>⟨u,e,q.log m⟩) ?_;clear D5;rintro _ H6 x7 ⟨u6,rfl,q6⟩;have q6:Own H5.next H6 1 u6 (os.map λo=>iO (l.zip ((fdL t l ak).set k an)) (bsS w.1 (l.zip ((fdL t l ak).set k an))) (ei w o)).length (fL (os.map λo=>iO (l.zip ((fdL t l ak).set k an)) (bsS w.1 (l.zip ((fdL t l ak).set k an))) (ei w o))):=q6
  rw[List.length_map]at q6;have s6:=q6.slice (by omega);obtain⟨b6,d6,rfl⟩:=s6.form;have s36:=s35.ext x7;have ey6:=ey5.trans x7;have W6:=ey6.wf hr.wf;have hL6:=x7.log.trans hL5;have n7:=x7.next
  have g136:=(x7.old _ (by omega)).trans g135;have so6:=so.ext ey6;clear g135 g05 g5;refine Y40 ?_;refine Y3 ?_
  refine cF (λm e ds h'=>∃i:Nat,i<=os.length/\os.length-i=m/\e=[(2, .slice a2 os.length c2),(13, .pointer (some ⟨H.next,0,none⟩)),(22, .slice b3 os.length d3),(26, .slice b6 os.length d6),(28, .int .i64 (i:Nat))]/\ds=[]/\Ext H6 h')
   ⟨0,Nat.zero_le _,rfl,rfl,rfl, .refl _⟩ ?_
  rintro m e ds J ⟨i,hi,rfl,rfl,rfl,xJ⟩;have WJ:=xJ.wf W6;have hLJ:=xJ.log.trans hL6;have nJ:=xJ.next
  have g13J:=(xJ.old _ (by omega)).trans g136;by_cases hlt:i<os.length
  ·obtain⟨o,hoi⟩:∃r,os[i]? =some r:=⟨os[i],List.getElem?_eq_getElem hlt⟩;have ho:=so.ok o (List.mem_of_getElem? hoi);have ho0:=hpr2 o (List.mem_of_getElem? hoi);obtain⟨j1,j2,f1,f2,hcase⟩:=hmo ho ho0;have hj1:(os.map λo=>iO (l.zip (fdL t l ak)) bs (ei w o))[i]? =some j1:=by rw[List.getElem?_map,hoi,←f1];rfl
   have hj2:(os.map λo=>iO (l.zip ((fdL t l ak).set k an)) (bsS w.1 (l.zip ((fdL t l ak).set k an))) (ei w o))[i]? =some j2:=by rw[List.getElem?_map,hoi,←f2];rfl
   obtain⟨p1,o1,t1',vs1,own1,tt1,hv,gl1,hb1,el1⟩:=DH (s36.ext xJ) (MB hj1);cases hv;obtain⟨p2,o2,t2',vs2,own2,tt2,hv,gl2,hb2,el2⟩:=DH (s6.ext xJ) (MB hj2);cases hv;obtain⟨p3,o3,t3,vs3,own3,tt3,hv,gl3,hb3,el3⟩:=(so6.ext xJ).elem hoi;cases hv;have ko8:=aO ho.len;have mlt:aq .lss (.int .i64 (i:Nat)) (.int .i64 (os.length:Nat))=some (.bool true):=fR (by omega);have xJ1:Ext J (J.push (.cells [I.O,I.O,I.O,I.O] true 1)):=(Ext.refl J).push _;have nJ1:(J.push (.cells [I.O,I.O,I.O,I.O] true 1)).next=J.next+1:=rfl
   have gJ1:(J.push (.cells [I.O,I.O,I.O,I.O] true 1)).get J.next=some (.cells [I.O,I.O,I.O,I.O] true 1):=z3 _ _
   have C:=Nk F.fi (h:={(J.push (.cells [I.O,I.O,I.O,I.O] true 1))with log:=[]}) (.of (xJ1.wf WJ)) (show Tab (J.push (.cells [I.O,I.O,I.O,I.O] true 1))from hg.ext ((ey6.trans xJ).trans xJ1) h2) (by show 2<J.next+1;omega) ht ho;generalize pG t o=fb at*;refine Y19 ?_;refine sP rfl rfl rfl (by exact rfl) (by exact rfl) (by exact rfl) nk (by refine cN (au rfl (cA (by exact rfl) YG (by assumption) (by assumption)) (by exact nu _)) ?_;refine cN (au rfl (ud (by exact rfl) (by exact rfl) (by omega)) (by exact cE _)) ?_;refine cN (au rfl (iK (by exact rfl)) (by exact gQ _ _)) ?_;refine cN (au rfl (iK (by exact rfl)) (by exact mD _ _ _)) ?_;refine cN (au rfl (cA (by exact rfl) YG (by assumption) (by assumption)) (by exact nu _)) ?_;exact sN) ?_;refine qC ?_;refine FW.alD C (λv h' m q=>q) ?_;clear C;rintro _ J2 xJ2 ⟨t',x',y',z',rfl⟩;have nJ2:=xJ2.next
   have hLJ2:=(xJ1.trans xJ2).log.trans hLJ;have gJ2:=(xJ2.old _ (Nat.lt_succ_self _)).trans gJ1;have xx:=xJ1.trans xJ2;have gl12:=(xx.old _ hb1).trans gl1;have gl22:=(xx.old _ hb2).trans gl2;refine⟨_,by apply aL rfl (zq rfl) (by rfl);(repeat apply aN rfl);exact bJ,?_⟩;have xw:Ext J (J2.wr h.next J.next (.cells (cM [I.O,I.O,I.O,I.O] 0 (cellsOf (moV t' x' y' z'))) true 1)):=⟨xx.next,(Heap.aB (by omega)).trans xx.log,λz hz=>(z5 (by omega)).trans (xx.old z hz),λw=>(xx.wf w).as (AS.wr _ _ _ _)⟩;have xe:=xJ.trans xw;clear xw;rcases hcase with⟨rfl,rfl,rfl⟩|⟨rfl,rfl,rfl⟩|⟨rfl,rfl,rfl⟩|⟨rfl,rfl,rfl⟩|⟨rfl,rfl⟩
   all_goals
    clear f1 f2 hj1 hj2
   ·refine qM ?_;refine qE ?_;refine qE ?_;refine gJ rfl rfl rfl (by exact rfl) (by exact rfl) (by exact rfl) (by assumption) (by exact rfl) (by exact rfl) (by omega) (by omega) (by apply aL rfl (au rfl (jf (by exact rfl) (by exact rfl)) (by exact jy _)) rfl;(repeat apply aN rfl);exact bJ) ?_;refine Y9 ?_;refine aH rfl rfl rfl (by exact rfl) (by exact rfl) (by exact rfl) (dh (by exact rfl) YG (by assumption)) ?_;refine aH rfl rfl rfl (by exact rfl) (by exact rfl) (by exact rfl) (gU (by exact rfl) (by exact rfl) (by exact kJ (by omega))) ?_;refine Y4 ?_;refine aH rfl rfl rfl (by exact rfl) (by exact rfl) (by exact rfl) (dh (by exact rfl) YG (by assumption)) ?_;refine Y3 ?_;refine aH rfl rfl rfl (by exact rfl) (by exact rfl) (by exact rfl) (dh (by exact rfl) YG (by assumption)) ?_;refine aH rfl rfl rfl (by exact rfl) (by exact rfl) (by exact rfl) (gU (by exact rfl) (by exact rfl) (by exact qc (by omega))) ?_;refine Y5 ?_;refine aH rfl rfl rfl (by exact rfl) (by exact rfl) (by exact rfl) (dh (by exact rfl) YG (by assumption)) ?_;refine aH rfl rfl rfl (by exact rfl) (by exact rfl) (by exact rfl) (gU (by exact rfl) (by exact rfl) (by exact sC (by omega))) ?_;refine Y2 ?_;refine aH rfl rfl rfl (by exact rfl) (by exact rfl) (by exact rfl) (qH (by exact rfl)) ?_;refine Y6 ?_;refine aH rfl rfl rfl (by exact rfl) (by exact rfl) (by exact rfl) (dh (by exact rfl) YG (by assumption)) ?_;refine aH rfl rfl rfl (by exact rfl) (by exact rfl) (by exact rfl) (gU (by exact rfl) (by exact rfl) (by exact lI (by omega))) ?_;refine Y16 ?_;exact⟨os.length-(i+1),by omega,i+1,by omega,rfl,rfl,rfl,xe⟩
   ·refine qM ?_;refine qE ?_;refine qE ?_;refine gJ rfl rfl rfl (by exact rfl) (by exact rfl) (by exact rfl) (by assumption) (by exact rfl) (by exact rfl) (by omega) (by omega) (by apply aL rfl (au rfl (jf (by exact rfl) (by exact rfl)) (by exact jy _)) rfl;(repeat apply aN rfl);exact bJ) ?_;refine Y9 ?_;refine aH rfl rfl rfl (by exact rfl) (by exact rfl) (by exact rfl) (dh (by exact rfl) YG (by assumption)) ?_;refine aH rfl rfl rfl (by exact rfl) (by exact rfl) (by exact rfl) (gU (by exact rfl) (by exact rfl) (by exact kJ (by omega))) ?_;refine Y4 ?_;refine aH rfl rfl rfl (by exact rfl) (by exact rfl) (by exact rfl) (dh (by exact rfl) YG (by assumption)) ?_;refine Y3 ?_;refine aH rfl rfl rfl (by exact rfl) (by exact rfl) (by exact rfl) (dh (by exact rfl) YG (by assumption)) ?_;refine aH rfl rfl rfl (by exact rfl) (by exact rfl) (by exact rfl) (gU (by exact rfl) (by exact rfl) (by exact qc (by omega))) ?_;refine Y5 ?_;refine aH rfl rfl rfl (by exact rfl) (by exact rfl) (by exact rfl) (dh (by exact rfl) YG (by assumption)) ?_;refine aH rfl rfl rfl (by exact rfl) (by exact rfl) (by exact rfl) (gU (by exact rfl) (by exact rfl) (by exact lI (by omega))) ?_;refine Y9 ?_;refine aH rfl rfl rfl (by exact rfl) (by exact rfl) (by exact rfl) (dh (by exact rfl) YG (by assumption)) ?_;refine aH rfl rfl rfl (by exact rfl) (by exact rfl) (by exact rfl) (gU (by exact rfl) (by exact rfl) (by exact sC (by omega))) ?_;refine Y16 ?_;exact⟨os.length-(i+1),by omega,i+1,by omega,rfl,rfl,rfl,xe⟩
   ·refine qM ?_;refine qE ?_;refine qE ?_;refine gJ rfl rfl rfl (by exact rfl) (by exact rfl) (by exact rfl) (by assumption) (by exact rfl) (by exact rfl) (by omega) (by omega) (by apply aL rfl (au rfl (jf (by exact rfl) (by exact rfl)) (by exact jy _)) rfl;(repeat apply aN rfl);exact bJ) ?_;refine Y9 ?_;refine aH rfl rfl rfl (by exact rfl) (by exact rfl) (by exact rfl) (dh (by exact rfl) YG (by assumption)) ?_;refine aH rfl rfl rfl (by exact rfl) (by exact rfl) (by exact rfl) (gU (by exact rfl) (by exact rfl) (by exact qc (by omega))) ?_;refine Y15 ?_;refine aH rfl rfl rfl (by exact rfl) (by exact rfl) (by exact rfl) (dh (by exact rfl) YG (by assumption)) ?_;refine aH rfl rfl rfl (by exact rfl) (by exact rfl) (by exact rfl) (gU (by exact rfl) (by exact rfl) (by exact sC (by omega))) ?_;refine Y2 ?_;refine aH rfl rfl rfl (by exact rfl) (by exact rfl) (by exact rfl) (qH (by exact rfl)) ?_;refine Y6 ?_;refine aH rfl rfl rfl (by exact rfl) (by exact rfl) (by exact rfl) (dh (by exact rfl) YG (by assumption)) ?_;refine aH rfl rfl rfl (by exact rfl) (by exact rfl) (by exact rfl) (gU (by exact rfl) (by exact rfl) (by exact lI (by omega))) ?_;refine Y16 ?_;exact⟨os.length-(i+1),by omega,i+1,by omega,rfl,rfl,rfl,xe⟩
   ·refine qM ?_;refine qE ?_;refine qE ?_;refine gJ rfl rfl rfl (by exact rfl) (by exact rfl) (by exact rfl) (by assumption) (by exact rfl) (by exact rfl) (by omega) (by omega) (by apply aL rfl (au rfl (jf (by exact rfl) (by exact rfl)) (by exact jy _)) rfl;(repeat apply aN rfl);exact bJ) ?_;refine Y9 ?_;refine aH rfl rfl rfl (by exact rfl) (by exact rfl) (by exact rfl) (dh (by exact rfl) YG (by assumption)) ?_;refine aH rfl rfl rfl (by exact rfl) (by exact rfl) (by exact rfl) (gU (by exact rfl) (by exact rfl) (by exact qc (by omega))) ?_;refine Y15 ?_;refine aH rfl rfl rfl (by exact rfl) (by exact rfl) (by exact rfl) (dh (by exact rfl) YG (by assumption)) ?_;refine aH rfl rfl rfl (by exact rfl) (by exact rfl) (by exact rfl) (gU (by exact rfl) (by exact rfl) (by exact lI (by omega))) ?_;refine Y9 ?_;refine aH rfl rfl rfl (by exact rfl) (by exact rfl) (by exact rfl) (dh (by exact rfl) YG (by assumption)) ?_;refine aH rfl rfl rfl (by exact rfl) (by exact rfl) (by exact rfl) (gU (by exact rfl) (by exact rfl) (by exact sC (by omega))) ?_;refine Y16 ?_;exact⟨os.length-(i+1),by omega,i+1,by omega,rfl,rfl,rfl,xe⟩
   ·refine qM ?_;refine qE ?_;refine qE ?_;refine gJ rfl rfl rfl (by exact rfl) (by exact rfl) (by exact rfl) (by assumption) (by exact rfl) (by exact rfl) (by omega) (by omega) (by apply aL rfl (au rfl (jf (by exact rfl) (by exact rfl)) (by exact jy _)) rfl;(repeat apply aN rfl);exact bJ) ?_;refine Y9 ?_;refine aH rfl rfl rfl (by exact rfl) (by exact rfl) (by exact rfl) (dh (by exact rfl) YG (by assumption)) ?_;refine aH rfl rfl rfl (by exact rfl) (by exact rfl) (by exact rfl) (gU (by exact rfl) (by exact rfl) (by exact qc (by omega))) ?_;refine Y15 ?_;refine aH rfl rfl rfl (by exact rfl) (by exact rfl) (by exact rfl) (dh (by exact rfl) YG (by assumption)) ?_;refine aH rfl rfl rfl (by exact rfl) (by exact rfl) (by exact rfl) (gU (by exact rfl) (by exact rfl) (by exact lI (by omega))) ?_;refine Y9 ?_;refine aH rfl rfl rfl (by exact rfl) (by exact rfl) (by exact rfl) (dh (by exact rfl) YG (by assumption)) ?_;refine aH rfl rfl rfl (by exact rfl) (by exact rfl) (by exact rfl) (gU (by exact rfl) (by exact rfl) (by exact lI (by omega))) ?_;refine Y16 ?_;exact⟨os.length-(i+1),by omega,i+1,by omega,rfl,rfl,rfl,xe⟩
  ·obtain rfl:i=os.length:=by omega
   have mlt:aq .lss (.int .i64 (os.length:Nat)) (.int .i64 (os.length:Nat))=some (.bool false):=gj (by omega);have CS:Pu T 21 [] {J with log:=[]} (.bool true):=N7 F.f21 (show Tab J from hg.ext (ey6.trans xJ) h2);refine Y15 ?_;refine FW.pu CS ?_;refine Y3 ?_;exact aA hLJ rfl rfl
end Go.A.Pk
end
section
namespace Go.A.Pk
open Go Go.Proofs Go.Joins Go.ChangeShapes Go.WideShapes Go.RowKit Go.Deep
section
variable {H:Type} {enc:TypeId×Value->H} {W:World} {base:Nat} {spare:Nat->Bool} {held:Bool}
theorem yJ{t e:TypeId}{n:Nat}{v:Value}(ht:Tryz.prog.underlying t=some (.array n e))(h:Value.okWide Tryz.prog W .any base t v):∃cs,v= .agg cs:=by
 simp only[Value.okWide,ht]at h;obtain⟨cs,h1,_⟩:=h;exact⟨cs,h1⟩
theorem B1{v:Value}{d:DataW H}{p:List MemPlace}(hv:Value.okWide Tryz.prog W .any base 24 v)(h:DataW.Trod enc Tryz.prog W 0 spare held 24 v d p):∃s:List Nat,IsS s/\v=sv s:=by
 obtain⟨cs,rfl⟩:=yJ Tryz.underlying24 hv;obtain⟨fuel,hf⟩:=h;obtain⟨s,hs,hk⟩:=jH hf;refine⟨s,hs,?_⟩;have:cs=(us s).toArray:=by rw[←hk];simp[Value.cells]
 rw[this];rfl
end
end Go.A.Pk
end
section
namespace Go.A.Pk
open Go Go.Proofs Go.Joins Go.ChangeShapes Go.WideShapes Go.RowKit Go.Deep
section
variable {H:Type} {enc:TypeId×Value->H} {W:World} {base:Nat} {spare:Nat->Bool} {held:Bool}
theorem Ke:Tryz.prog.cellsOf 26=16:=by kernel_rfl
theorem CD{fuel:Nat}{cs:List Value}{x:DataW H×List MemPlace}(h:DataW.trod enc Tryz.prog W base spare held fuel 26 cs=some x):∃w:List Nat×List Nat,IsW w/\cs=wL w:=by
 obtain⟨xs,n,_,hx,hcl,hlen,hg⟩:=DataW.trod_struct Tryz.underlying26 h;rw[Ke]at hcl
 match cs,hcl with
 |[c0,c1,c2,c3,c4,c5,c6,c7,c8,c9,c10,c11,c12,c13,c14,c15],_=>
  match xs,hlen with
  |[yq0,yq1],_=>
   have g0:DataW.trod enc Tryz.prog W base spare held n 24 [c0,c1,c2,c3,c4,c5,c6,c7]=some yq0:=by have:=hg 0 _ rfl;simpa[qR]using this
   have g1:DataW.trod enc Tryz.prog W base spare held n 24 [c8,c9,c10,c11,c12,c13,c14,c15]=some yq1:=by have:=hg 1 _ rfl;simpa[qR]using this
   obtain⟨s0,h0,e0⟩:=jH g0;obtain⟨s1,h1,e1⟩:=jH g1;refine⟨(s0,s1),⟨h0,h1⟩,?_⟩;show _=us s0++us s1;rw[←e0,←e1];rfl
theorem EL{v:Value}{d:DataW H}{p:List MemPlace}(hv:Value.okWide Tryz.prog W .any base 26 v)(h:DataW.Trod enc Tryz.prog W 0 spare held 26 v d p):∃w:List Nat×List Nat,IsW w/\v=wV w:=by
 obtain⟨cs,rfl,_⟩:=okWide_struct Tryz.underlying26 hv;obtain⟨fuel,hf⟩:=h;have hf:DataW.trod enc Tryz.prog W 0 spare held fuel 26 cs.toList=some (d,p):=by simpa[Value.cells]using hf
 obtain⟨w,hw,e⟩:=CD hf;refine⟨w,hw,?_⟩;have hcs:cs=cs.toList.toArray:=by simp
 rw[hcs,e];rfl
end
end Go.A.Pk
end
section
namespace Go.A.Pk
open Go Go.Proofs Go.Joins Go.ChangeShapes Go.WideShapes Go.RowKit Go.Deep
theorem Am{α:Type}{cL:α->List Value}{k:Nat}:∀{l:List α},(∀a∈l,(cL a).length=k)->(l.flatMap cL).length=l.length*k
 |[],_=>by simp
 |a::l,h=>by
  rw[List.flatMap_cons,List.length_append,h a List.mem_cons_self,Am λx hx=>h x (List.mem_cons_of_mem _ hx),List.length_cons,Nat.add_mul];omega
theorem Ak{α:Type}{cL:α->List Value}{k:Nat}:∀{l:List α} {i j:Nat} {a:α},(∀a∈l,(cL a).length=k)->l[i]? =some a->j<k->(l.flatMap cL)[i*k+j]? =(cL a)[j]?
 |[],i,j,a,_,h,_=>by simp at h
 |b::l,0,j,a,hl,h,hj=>by
  simp at h;subst h;rw[List.flatMap_cons,Nat.zero_mul,Nat.zero_add,List.getElem?_append_left (by rw[hl b List.mem_cons_self];exact hj)]
 |b::l,i+1,j,a,hl,h,hj=>by
  have hb:=hl b List.mem_cons_self;rw[List.flatMap_cons,List.getElem?_append_right (by rw[hb,Nat.add_mul];omega),hb,show(i+1)*k+j-k=i*k+j by rw[Nat.add_mul];omega];exact Ak (λx hx=>hl x (List.mem_cons_of_mem _ hx)) (by simpa using h) hj
section
variable {H:Type} {enc:TypeId×Value->H} {W:World} {base:Nat} {held:Bool}
theorem qf{α:Type}[Inhabited α]{st et k bsz:Nat}(hu:Tryz.prog.underlying st=some (.slice et))(hk:Tryz.prog.cellsOf et=k)(hk0:0<k)(hbs:Tryz.prog.bytesOf et=bsz)(hb0:0<bsz)(ok:α->Prop)(cL:α->List Value)(hlen:∀a,ok a->(cL a).length=k)(hno:∀a,∀v∈cL a,cg v=true)
 (hel:∀{fuel:Nat} {cs:List Value} {x:DataW H×List MemPlace},DataW.trod enc Tryz.prog W 0 (λ_=>true) held fuel et cs=some x->∃a,ok a/\cs=cL a)
 {v:Value}{d:DataW H}{p:List MemPlace}(hv:Value.okWide Tryz.prog W .any base st v)(h:DataW.Trod enc Tryz.prog W 0 (λ_=>true) held st v d p)(hz:∀n∈d.weights Tryz.prog st,n<=reachBytes):∃l:List α,gX W k v l.length (l.flatMap cL)/\∀a∈l,ok a:=by
 have hcell:Cell.okWide Tryz.prog W .any base st v:=by
  simpa only[Value.okWide,hu]using hv
 obtain⟨a0,len0,cap0,rfl⟩:=okWide_slice hu hv;obtain⟨fuel,hf⟩:=h;have hf:DataW.trod enc Tryz.prog W 0 (λ_=>true) held fuel st [.slice a0 len0 cap0]=some (d,p):=by simpa[Value.cells]using hf
 rcases open_slice hu hf with⟨h2,_⟩|⟨a,len,cap,m,n',D,Pl,h2,_,hl,hcap,hm,hy,hx⟩
 ·cases h2;exact⟨[], .nil,λx hx=>by cases hx⟩
 ·cases h2;simp only[Cell.okWide,Cell.ok,hu,World.has]at hcell;obtain⟨_,_,_,hspot,row,cells,hsh,_⟩:=hcell;obtain⟨b,o,sp⟩:=a;simp only at hspot hsh;subst hspot;rw[if_pos rfl]at hm;subst hm;have hcapU:m*bsz<=reachBytes:=by
   refine hz (m*bsz) ?_;cases hy;simp only[DataW.weights,hu,hbs,List.length_map,List.length_range,show len0+(m-len0)=m by omega];simp
  have hmU:m<UNK:=by
   have:m*1<=m*bsz:=Nat.mul_le_mul_left _ hb0;unfold reachBytes at hcapU;unfold UNK;omega
  obtain⟨c,el,fz,hheap⟩:∃c el fz,W.heap[b]? =some (.cells c el fz):=by
   unfold World.shape? at hsh;split at hsh
   ·rename_i c el fz he;exact⟨c,el,fz,he⟩
   ·cases hsh
  obtain⟨f,hf⟩:=choose_lt (α:=α) (n:=len0) (p:=λi x=>ok x/\∀j,j<k->c[o+(i*k+j)]? =(cL x)[j]?) (λi hi=>by
   obtain⟨cs',hc,ht⟩:=hx i (by omega);obtain⟨x,hx2,hxk⟩:=hel ht;subst hxk;refine⟨x,hx2,λj hj=> ?_⟩;rw[hk]at hc;obtain⟨_,_,hat⟩:=World.cells?_some hc;have:=hat j hj;rw[add_eq,add_eq]at this;rw[←this,Nat.add_assoc];unfold World.cell?;simp only[hheap];rfl)
  by_cases h0:len0=0
  ·subst h0;exact⟨[], .empty hheap hmU,λx hx=>by cases hx⟩
  ·have hll:((List.range len0).map f).length=len0:=by simp
   have hok:∀r∈(List.range len0).map f,ok r:=λx hx=>by
    obtain⟨i,hi,rfl⟩:=List.mem_map.1 hx;exact(hf i (List.mem_range.1 hi)).1
   refine⟨(List.range len0).map f,?_,hok⟩;rw[hll];refine .full hheap h0 (by rw[Am λa ha=>hlen a (hok a ha),hll]) hk0 hl hmU (λj hj=> ?_) (λv hv=> ?_)
   ·have h5:j / k<len0:=by rw[Nat.div_lt_iff_lt_mul hk0];exact hj
    have e1:j=j / k*k+j % k:=(Nat.div_add_mod' j k).symm;have g1:=(hf (j / k) h5).2 (j % k) (Nat.mod_lt _ hk0);have g2:=Ak (cL:=cL) (k:=k) (l:=(List.range len0).map f) (i:=j / k) (j:=j % k) (a:=f (j / k)) (λa ha=>hlen a (hok a ha)) (by simp[h5]) (Nat.mod_lt _ hk0);rw[←e1]at g1 g2;rw[g1,g2]
   ·obtain⟨a,_,ha⟩:=List.mem_flatMap.1 hv;exact hno a v ha
theorem CV:Tryz.prog.cellsOf 67=9:=by kernel_rfl
theorem A8{fuel:Nat}{cs:List Value}{spare:Nat->Bool}{x:DataW H×List MemPlace}(h:DataW.trod enc Tryz.prog W base spare held fuel 67 cs=some x):∃p:Pb,IsS p.cells/\cs=pbL p:=by
 obtain⟨xs,n,_,hx,hcl,hlen,hg⟩:=DataW.trod_struct Tryz.underlying67 h;rw[CV]at hcl
 match cs,hcl with
 |[c0,c1,c2,c3,c4,c5,c6,c7,c8],_=>
  match xs,hlen with
  |[y0,y1],_=>
   have g3:DataW.trod enc Tryz.prog W base spare held n 24 [c0,c1,c2,c3,c4,c5,c6,c7]=some y0:=by have:=hg 0 _ rfl;simpa[qR]using this
   have g4:DataW.trod enc Tryz.prog W base spare held n 3 [c8]=some y1:=by have:=hg 1 _ rfl;simpa[Na]using this
   obtain⟨pl,hp,h3⟩:=jH g3;obtain⟨a4,h4,_⟩:=DataW.trod_int Tryz.underlying3 g4;cases h4;refine⟨⟨pl,a4⟩,hp,?_⟩;show _=us pl++[_];rw[←h3];rfl
theorem AL(s:List Nat):∀v∈us s,cg v=true:=λv hv=>by
 obtain⟨n,_,rfl⟩:=List.mem_map.1 hv;rfl
theorem Eu(p:Pb):∀v∈pbL p,cg v=true:=λv hv=>by
 rcases List.mem_append.1 hv with q|q
 ·exact AL _ v q
 ·rw[List.mem_singleton.1 q];rfl
instance:Inhabited Pb:=⟨⟨[],0⟩⟩
def Mw(W:World)(v:Value)(l:List Pb):Prop:=gX W 9 v l.length (y6 l)/\∀p∈l,IsS p.cells
theorem AT{v:Value}{d:DataW H}{p:List MemPlace}(hv:Value.okWide Tryz.prog W .any base 35 v)(h:DataW.Trod enc Tryz.prog W 0 (λ_=>true) held 35 v d p)(hz:∀n∈d.weights Tryz.prog 35,n<=reachBytes):∃l,Mw W v l:=
 qf (α:=Pb) Tryz.underlying35 CV (by decide) (show Tryz.prog.bytesOf 67=72 by kernel_rfl) (by decide) (λp=>IsS p.cells) pbL (λp h=>jo h) Eu (λh=>A8 h) hv h hz
def O3(W:World)(v:Value)(l:List (List Nat)):Prop:=gX W 8 v l.length (ssL l)/\∀s∈l,IsS s
theorem AU{v:Value}{d:DataW H}{p:List MemPlace}(hv:Value.okWide Tryz.prog W .any base 29 v)(h:DataW.Trod enc Tryz.prog W 0 (λ_=>true) held 29 v d p)(hz:∀n∈d.weights Tryz.prog 29,n<=reachBytes):∃l,O3 W v l:=
 qf (α:=List Nat) Tryz.underlying29 qR (by decide) (show Tryz.prog.bytesOf 24=64 by kernel_rfl) (by decide) IsS us (λp h=>by rw[aD,h.len]) AL (λh=>jH h) hv h hz
end
theorem Ns{W:World}{G:Gl}(hG:tU W G){z1 n1 z2 n2 z3 n3:Nat}{s1 s2 s3:Value}{c1 c2 c3:List Value}(h1:gX W z1 s1 n1 c1)(h2:gX W z2 s2 n2 c2)(h3:gX W z3 s3 n3 c3):
 ∃(h:Heap) (μ:Mu),R Tryz.prog μ h W/\(∀b o,h.get b=some o->o.ro=true∨o.live=false)/\Rdy h/\1000<=h.next/\(∀g vs,(g,vs)∈G->h.get g=some (.cells vs false 1))∧
 (∃a c,VR μ (.slice a n1 c) s1/\bY h z1 (.slice a n1 c) n1 c1/\c<UNK)/\(∃a c,VR μ (.slice a n2 c) s2/\bY h z2 (.slice a n2 c) n2 c2/\c<UNK)/\(∃a c,VR μ (.slice a n3 c) s3/\bY h z3 (.slice a n3 c) n3 c3/\c<UNK):=by
 obtain⟨o1,k1,q1⟩:=h1.lay hG;obtain⟨o2,k2,q2⟩:=h2.lay hG;obtain⟨o3,k3,q3⟩:=h3.lay hG;have hat:∀(A B C:List Ob) (o:Ob),B[0]? =some o->(A++B++C)[A.length]? =some o:=λA B C o ho=>by
  have hl:=(List.getElem?_eq_some_iff.1 ho).1;rw[List.append_assoc,List.getElem?_append_right (Nat.le_refl _),Nat.sub_self,List.getElem?_append_left hl];exact ho
 refine⟨obH G (o1++o2++o3),obM G (o1++o2++o3),R.obs hG λo ho=> ?_,NX hG,K4 hG _,Nat.le_add_right _ _,λg vs h=>NW hG _ h,q1 _ 0 λo ho=> ?_,q2 _ o1.length (hat o1 o2 o3),q3 _ (o1++o2).length λo ho=> ?_⟩
 ·rcases List.mem_append.1 ho with ho|ho
  ·rcases List.mem_append.1 ho with ho|ho
   ·exact k1 _ o ho
   ·exact k2 _ o ho
  ·exact k3 _ o ho
 ·have:=hat [] o1 (o2++o3) o ho
  rwa [List.nil_append,←List.append_assoc]at this
 ·have:=hat (o1++o2) o3 [] o ho
  rwa [List.append_nil]at this
end Go.A.Pk
end
section
namespace Go.A.Pk
open Go Go.Proofs
theorem Qj:mH.h0=EC 2 (zY.map λn=> .int .u8 (n:Nat)) 1000:=by kernel_rfl
theorem SU:Entry Tryz.prog 21 (.jN pSd):= .jN (Iy sound (g:=2) (n:=1000) (vs:=zY.map λn=> .int .u8 (n:Nat)) Tryz.func21 (of_decide_eq_true (by kernel_rfl)) (by kernel_rfl) lW (by decide) (by kernel_rfl) (by kernel_rfl) λargs v h h' hp=>by
 unfold pSd at hp;split at hp
 ·split at hp
  ·rename_i hT;cases hp;refine⟨rfl,hT,λa ha=>(nomatch ha),rfl,?_⟩;rw[←Qj];exact mH.run
  ·cases hp
 ·cases hp)
end Go.A.Pk
end
section
namespace Go.A.Pk
open Go Go.Proofs
theorem c11:aI Tryz.prog Tryz.f11 [[1,2,4,5,6,9],[1,2,4,5,6,9,54],[12],[1,2,4,5,6,13],[1,2,4,5,6,13,14],[1,2,4,5,6,13,14,15],[1,2,4,5,6,13,14,15,16],[1,2,4,5,6,13,14,15,16,68],[1,2,4,5,6,13,14,15,16,17],[1,2,4,5,6,13,14,15,16,17],[1,2,4,5,6,13,14,15,16,81],[1,2,4,5,6,13,14,15,16],[1,2,4,5,6,13,14,15,16,94],[1,2,4,5,6,13,14,15,16],[1,2,4,5,6,13,14,15,16],[1,2,5,6,13,14,15,18,19],[1,2,5,6,13,14,15,18,19,20,21],[1,2,5,6,13,14,15,18,19,20,21,22,23],[1,2,5,6,13,14,15,22,23,139],[12],[1,2,5,6,13,14,15,22,141],[12],[1,2,6,13,14,15,22,24],[1,2,6,13,15,22,24,25],[1,2,6,13,22,25],[2,13,22,26,27],[2,13,22,26,183],[12],[2,13,22,26,28],[2,13,22,26,28,187],[2,13,22,26,28,30],[2,13,22,26,28,235],[12],[2,13,22,26,28],[12]]=some f11:=by kernel_rfl
theorem c20:aI Tryz.prog Tryz.f20 [[1,2],[1,10],[4],[1,5],[1,5,17],[1,5,6],[1,5,34],[4],[1,5],[4]]=some f20:=by kernel_rfl
theorem c31:aI Tryz.prog Tryz.f31 [[1],[8],[2],[2]]=some f31:=by kernel_rfl
theorem c32:aI Tryz.prog Tryz.f32 [[2,3,4],[4]]=some f32:=by kernel_rfl
theorem c35:aI Tryz.prog Tryz.f35 [[2,3],[4]]=some f35:=by kernel_rfl
theorem c49:aI Tryz.prog Tryz.f49 [[2,3],[2,3,6],[2,3,6,14],[2,3,6],[2,3,6,19],[4,5],[2,3,8],[8,10],[10,35],[4,5],[36],[4,5],[4,5]]=some f49:=by kernel_rfl
theorem c51:aI Tryz.prog Tryz.f51 [[2,3,4],[2,3,4,19],[4,5],[2,3,4,25],[4,5],[2,3,4,6],[2,3,4,6,28],[2,3,4,6,7],[2,3,4,6,7,9],[2,3,4,6,7,9,11],[2,3,4,6,7,9,11,51],[2,3,4,6,7,9,11,12],[2,3,4,6,7,9,11,12,63],[2,3,4,6,7,9,11,12,13],[2,3,4,6,7,9,11,12,13,75],[2,3,4,6,7,9,11,12,13,14],[2,3,4,6,7,9,11,12,13,16],[2,3,4,6,7,9,11,12,13,89],[4,5],[2,3,4,6,7,9,11,12,13],[2,3,4,6,7,9,11,12],[2,3,4,6,7,9,11],[2,3,4,6],[4,5]]=some f51:=by kernel_rfl
theorem c52:aI Tryz.prog Tryz.f52 [[2,3],[4]]=some f52:=by kernel_rfl
theorem c53:aI Tryz.prog Tryz.f53 [[0],[0,6],[2],[0,3],[0,3,10],[0,3,28],[2],[0,3],[2]]=some f53:=by kernel_rfl
theorem c54:aI Tryz.prog Tryz.f54 [[1,2,3],[2,8,9],[2,8,9,19],[6,7],[8,10,11],[8,10,28],[6,7],[11],[6,7]]=some f54:=by kernel_rfl
theorem c55:aI Tryz.prog Tryz.f55 [[1,2,3,6],[2,6,8,9],[2,6,8,9,20],[6,7],[6,8,10,11],[6,8,10,30],[6,7],[6,11,12],[6,12,39],[6,7],[6,7]]=some f55:=by kernel_rfl
theorem c56:aI Tryz.prog Tryz.f56 [[1,2,3,4],[8,9]]=some f56:=by kernel_rfl
theorem c64:aI Tryz.prog Tryz.f64 [[1,2,3,4],[10,11],[8,9]]=some f64:=by kernel_rfl
theorem c84:aI Tryz.prog Tryz.f84 [[1],[2]]=some f84:=by kernel_rfl
theorem c93:aI Tryz.prog Tryz.f93 [[0],[0,6],[2],[0,3],[0,3,10],[0,3,18],[2],[0,3],[2]]=some f93:=by kernel_rfl
theorem RF:aI Tryz.prog Tryz.f112 [[0,1],[1,10],[4],[1,5],[1,5,14],[1,5,22],[4],[1,5],[4]]=some f112:=by kernel_rfl
theorem RG:aI Tryz.prog Tryz.f113 [[0,1,2],[6]]=some f113:=by kernel_rfl
theorem RH:aI Tryz.prog Tryz.f115 [[1,2,3,6],[1,2,3,6,8],[1,2,3,6,8,9],[1,2,3,6,8,9,15],[1,2,3,6,8,9,22],[1,2,3,6,8,9],[1,2,3,6,8,9],[6,7]]=some f115:=by kernel_rfl
theorem RI:aI Tryz.prog Tryz.f118 [[2,3,4],[2,3,4,5],[2,3,4,5,7],[2,3,4,5],[2,3,4,5],[4]]=some f118:=by kernel_rfl
theorem RJ:aI Tryz.prog Tryz.f119 [[2,3,4],[2,3,4,5],[2,3,4,5,7],[2,3,4,5],[2,3,4,5],[4]]=some f119:=by kernel_rfl
theorem RT:aI Tryz.prog Tryz.f137 [[1,2,4],[1,2,4,14],[4,5],[1,2,4,6],[1,4,6,7],[1,4,6,7,8],[1,4,6,7,8,21],[1,4,6,7,8],[1,4,6,7,8],[4,5]]=some f137:=by kernel_rfl
theorem RU:aI Tryz.prog Tryz.f138 [[1,2],[2,4],[2,4,11],[2,3],[2,4,5],[2,4,5,6],[2,4,5,6,23],[2,4,5,6],[2,4,5,6],[2,4,5,6],[2,4,5,6],[2,4,5,6],[2,4,5,6],[2,4,5,6],[2,3]]=some f138:=by kernel_rfl
theorem RV:aI Tryz.prog Tryz.f139 [[1,2,3,4,8],[1,2,3,8,10],[1,2,3,8,10,33],[8,9],[1,2,3,8,10,11],[1,2,3,8,10,11,12],[1,2,3,8,10,11,12,38],[1,2,3,8,10,11,12,13],[1,2,3,8,10,11,12,13,51],[8,9],[1,2,3,8,10,11,12],[1,2,3,8,10,11,12],[8,9]]=some f139:=by kernel_rfl
theorem RW:aI Tryz.prog Tryz.f140 [[2,3,4],[2,3,4,5],[2,3,4,5,7],[2,3,4,5],[2,3,4,5],[4]]=some f140:=by kernel_rfl
theorem RX:aI Tryz.prog Tryz.f142 [[0,1,4],[0,1,4,6],[0,1,4,6,9,10,11],[0,1,4,6,9,10,11,12],[0,1,4,6,7,8,9,10,11],[0,1,4,6,7,8,9,10,11,27],[4,5],[0,1,4,6,9,10,11],[0,1,4,6,9,10,11],[4,5]]=some f142:=by kernel_rfl
theorem RY:aI Tryz.prog Tryz.f144 [[1,2,3,4],[2,3,4,10,11],[2,3,4,10,11,26],[8,9],[3,4,10,12,13],[3,4,10,12,34],[8,9],[3,10,12,37],[8,9],[3,10,12,14,15],[3,10,12,14,47],[8,9],[3,10,12,14],[3,10,12,14,16],[10,12,14,16,51,52],[10,12,14,16,51,52,53],[10,12,14,16,17,51,52],[10,12,14,16,51,52],[10,12,14,16,51,52],[8,9]]=some f144:=by kernel_rfl
theorem R5:aI Tryz.prog Tryz.f157 [[0,1],[4]]=some f157:=by kernel_rfl
theorem R7:aI Tryz.prog Tryz.f170 [[1],[1,3],[1,3,4],[1,3,4,9],[1,3,4,5],[1,3,4,5,13],[1,3,4,5,6],[1,3,4,5,6,17],[1,3,4,5,6,7],[1,3,4,5,6,7,26],[1,3,4,5,6],[1,3,4,5,6],[1,3,4,5],[1,3,4],[2]]=some f170:=by kernel_rfl
theorem R8:aI Tryz.prog Tryz.f171 [[2,3],[4]]=some f171:=by kernel_rfl
theorem Sh:aI Tryz.prog Tryz.f208 [[1,2,4,7],[1,2,7,22],[8],[1,2,7,9],[1,2,7,9,26],[1,2,7,9,10],[1,2,7,9,54],[8],[1,2,7,9],[8]]=some f208:=by kernel_rfl
theorem Sn:aI Tryz.prog Tryz.f221 [[2,3,4],[2,4],[4]]=some f221:=by kernel_rfl
theorem Sq:aI Tryz.prog Tryz.f222 [[1,2,4],[1,2,4],[1,2,4,5],[1,2,4,5,13],[1,2,4,5],[1,2,4,5],[4]]=some f222:=by kernel_rfl
theorem Sr:aI Tryz.prog Tryz.f223 [[0],[2]]=some f223:=by kernel_rfl
theorem Ss:aI Tryz.prog Tryz.f224 [[1,2,3,4,8],[8]]=some f224:=by kernel_rfl
theorem Su:aI Tryz.prog Tryz.f225 [[1],[2]]=some f225:=by kernel_rfl
theorem Sw:aI Tryz.prog Tryz.f232 [[0,1],[0,1,7,8],[0,1,7,8,9],[0,1,5,7,8],[0,1,5,7,8,16],[4],[0,1,7,8],[4]]=some f232:=by kernel_rfl
theorem SC:aI Tryz.prog Tryz.f267 [[1,2,4],[2,4,5],[2,4,5,6],[4],[2,4,5,16],[4],[2,4,5,27],[4],[2,4,5,37],[4],[2,4,47],[4],[4]]=some f267:=by kernel_rfl
noncomputable def Cx:Tr:=(.node (.node (.node (.node (.node (.node (.node .nil 11 f11 .nil) 20 f20 .nil) 21 (.jN pSd) (.node (.node .nil 22 f22 .nil) 31 f31 .nil)) 32 f32 (.node (.node (.node .nil 34 f34 .nil) 35 f35 .nil) 49 f49 (.node (.node .nil 51 f51 .nil) 52 f52 .nil))) 53 f53 (.node (.node (.node (.node .nil 54 f54 .nil) 55 f55 .nil) 56 f56 (.node (.node .nil 62 f62 .nil) 64 f64 .nil)) 72 f72 (.node (.node (.node .nil 84 f84 .nil) 89 f89 .nil) 90 f90 (.node (.node .nil 91 f91 .nil) 92 f92 .nil)))) 93 f93 (.node (.node (.node (.node (.node .nil 106 f106 .nil) 112 f112 .nil) 113 f113 (.node (.node .nil 115 f115 .nil) 118 f118 .nil)) 119 f119 (.node (.node (.node .nil 120 f120 .nil) 121 f121 .nil) 123 f123 (.node (.node .nil 124 f124 .nil) 126 f126 .nil))) 127 f127 (.node (.node (.node (.node .nil 137 f137 .nil) 138 f138 .nil) 139 f139 (.node (.node .nil 140 f140 .nil) 141 f141 .nil)) 142 f142 (.node (.node (.node .nil 143 f143 .nil) 144 f144 .nil) 155 f155 (.node .nil 156 f156 .nil))))) 157 f157 (.node (.node (.node (.node (.node (.node .nil 167 f167 .nil) 170 f170 .nil) 171 f171 (.node (.node .nil 174 f174 .nil) 188 f188 .nil)) 189 (.jN (oh 168 190)) (.node (.node (.node .nil 192 f192 .nil) 193 f193 .nil) 194 f194 (.node (.node .nil 195 f195 .nil) 196 f196 .nil))) 197 f197 (.node (.node (.node (.node .nil 201 f201 .nil) 207 f207 .nil) 208 f208 (.node (.node .nil 209 f209 .nil) 210 f210 .nil)) 211 f211 (.node (.node (.node .nil 212 f212 .nil) 213 f213 .nil) 214 f214 (.node .nil 215 f215 .nil)))) 221 f221 (.node (.node (.node (.node (.node .nil 222 f222 .nil) 223 f223 .nil) 224 f224 (.node (.node .nil 225 f225 .nil) 226 f226 .nil)) 231 f231 (.node (.node (.node .nil 232 f232 .nil) 254 f254 .nil) 257 f257 (.node (.node .nil 261 f261 .nil) 262 f262 .nil))) 263 f263 (.node (.node (.node (.node .nil 264 f264 .nil) 265 f265 .nil) 266 f266 (.node (.node .nil 267 f267 .nil) 317 f317 .nil)) 318 f318 (.node (.node (.node .nil 319 f319 .nil) 320 f320 .nil) 321 f321 (.node .nil 322 f322 .nil))))))
noncomputable def T11:Nat->Option af:=Cx.get
theorem O7:Cx.all (Entry Tryz.prog):=by
 unfold Cx;exact(Tr.aa (Tr.aa (Tr.aa (Tr.aa (Tr.aa (Tr.aa (Tr.aa zq0 (.of Tryz.func11 c11) zq0) (.of Tryz.func20 c20) zq0) SU (Tr.aa (Tr.aa zq0 (.of Tryz.func22 c22) zq0) (.of Tryz.func31 c31) zq0)) (.of Tryz.func32 c32) (Tr.aa (Tr.aa (Tr.aa zq0 (.of Tryz.func34 c34) zq0) (.of Tryz.func35 c35) zq0) (.of Tryz.func49 c49) (Tr.aa (Tr.aa zq0 (.of Tryz.func51 c51) zq0) (.of Tryz.func52 c52) zq0))) (.of Tryz.func53 c53) (Tr.aa (Tr.aa (Tr.aa (Tr.aa zq0 (.of Tryz.func54 c54) zq0) (.of Tryz.func55 c55) zq0) (.of Tryz.func56 c56) (Tr.aa (Tr.aa zq0 (.of Tryz.func62 c62) zq0) (.of Tryz.func64 c64) zq0)) (.of Tryz.func72 c72) (Tr.aa (Tr.aa (Tr.aa zq0 (.of Tryz.func84 c84) zq0) (.of Tryz.func89 c89) zq0) (.of Tryz.func90 c90) (Tr.aa (Tr.aa zq0 (.of Tryz.func91 c91) zq0) (.of Tryz.func92 c92) zq0)))) (.of Tryz.func93 c93) (Tr.aa (Tr.aa (Tr.aa (Tr.aa (Tr.aa zq0 (.of Tryz.func106 Pa) zq0) (.of Tryz.func112 RF) zq0) (.of Tryz.func113 RG) (Tr.aa (Tr.aa zq0 (.of Tryz.func115 RH) zq0) (.of Tryz.func118 RI) zq0)) (.of Tryz.func119 RJ) (Tr.aa (Tr.aa (Tr.aa zq0 (.of Tryz.func120 Pc) zq0) (.of Tryz.func121 Pd) zq0) (.of Tryz.func123 Pe) (Tr.aa (Tr.aa zq0 (.of Tryz.func124 Pf) zq0) (.of Tryz.func126 Pg) zq0))) (.of Tryz.func127 Ph) (Tr.aa (Tr.aa (Tr.aa (Tr.aa zq0 (.of Tryz.func137 RT) zq0) (.of Tryz.func138 RU) zq0) (.of Tryz.func139 RV) (Tr.aa (Tr.aa zq0 (.of Tryz.func140 RW) zq0) (.of Tryz.func141 Pj) zq0)) (.of Tryz.func142 RX) (Tr.aa (Tr.aa (Tr.aa zq0 (.of Tryz.func143 Pm) zq0) (.of Tryz.func144 RY) zq0) (.of Tryz.func155 Pn) (Tr.aa zq0 (.of Tryz.func156 Po) zq0))))) (.of Tryz.func157 R5) (Tr.aa (Tr.aa (Tr.aa (Tr.aa (Tr.aa (Tr.aa zq0 (.of Tryz.func167 Pp) zq0) (.of Tryz.func170 R7) zq0) (.of Tryz.func171 R8) (Tr.aa (Tr.aa zq0 (.of Tryz.func174 Pq) zq0) (.of Tryz.func188 Pr) zq0)) QF (Tr.aa (Tr.aa (Tr.aa zq0 (.of Tryz.func192 Pt) zq0) (.of Tryz.func193 Pv) zq0) (.of Tryz.func194 Pw) (Tr.aa (Tr.aa zq0 (.of Tryz.func195 Px) zq0) (.of Tryz.func196 Py) zq0))) (.of Tryz.func197 Pz) (Tr.aa (Tr.aa (Tr.aa (Tr.aa zq0 (.of Tryz.func201 PA) zq0) (.of Tryz.func207 PB) zq0) (.of Tryz.func208 Sh) (Tr.aa (Tr.aa zq0 (.of Tryz.func209 PC) zq0) (.of Tryz.func210 PD) zq0)) (.of Tryz.func211 PE) (Tr.aa (Tr.aa (Tr.aa zq0 (.of Tryz.func212 PF) zq0) (.of Tryz.func213 PG) zq0) (.of Tryz.func214 PI) (Tr.aa zq0 (.of Tryz.func215 PJ) zq0)))) (.of Tryz.func221 Sn) (Tr.aa (Tr.aa (Tr.aa (Tr.aa (Tr.aa zq0 (.of Tryz.func222 Sq) zq0) (.of Tryz.func223 Sr) zq0) (.of Tryz.func224 Ss) (Tr.aa (Tr.aa zq0 (.of Tryz.func225 Su) zq0) (.of Tryz.func226 PK) zq0)) (.of Tryz.func231 PL) (Tr.aa (Tr.aa (Tr.aa zq0 (.of Tryz.func232 Sw) zq0) (.of Tryz.func254 PM) zq0) (.of Tryz.func257 PN) (Tr.aa (Tr.aa zq0 (.of Tryz.func261 PO) zq0) (.of Tryz.func262 PR) zq0))) (.of Tryz.func263 PS) (Tr.aa (Tr.aa (Tr.aa (Tr.aa zq0 (.of Tryz.func264 PT) zq0) (.of Tryz.func265 PU) zq0) (.of Tryz.func266 PV) (Tr.aa (Tr.aa zq0 (.of Tryz.func267 SC) zq0) (.of Tryz.func317 PX) zq0)) (.of Tryz.func318 PY) (Tr.aa (Tr.aa (Tr.aa zq0 (.of Tryz.func319 PZ) zq0) (.of Tryz.func320 P0) zq0) (.of Tryz.func321 P3) (Tr.aa zq0 (.of Tryz.func322 P4) zq0))))))
theorem dZ:dR Tryz.prog T11:=pn (by kernel_rfl) O7
theorem Qf:FA T11:={de:={ju:={cb:={ak:={ne:={nd:={pl:={fi:={ft:={mp:={cp:={p:=dZ.aR,f123:=by kernel_rfl,f213:=by kernel_rfl,f214:=by kernel_rfl,f264:=by kernel_rfl,f265:=by kernel_rfl,f266:=by kernel_rfl},tu:={p:=dZ.aR,f263:=by kernel_rfl,f317:=by kernel_rfl,f318:=by kernel_rfl,f319:=by kernel_rfl,f320:=by kernel_rfl,f321:=by kernel_rfl,f322:=by kernel_rfl},f126:=by kernel_rfl,f127:=by kernel_rfl,f211:=by kernel_rfl,f215:=by kernel_rfl,f261:=by kernel_rfl,f262:=by kernel_rfl},bd:={cp:={p:=dZ.aR,f123:=by kernel_rfl,f213:=by kernel_rfl,f214:=by kernel_rfl,f264:=by kernel_rfl,f265:=by kernel_rfl,f266:=by kernel_rfl},f210:=by kernel_rfl},li:={p:=dZ.aR,f212:=by kernel_rfl},co:={p:=dZ.aR,f188:=by kernel_rfl,f254:=by kernel_rfl},f35:=by kernel_rfl,f121:=by kernel_rfl,f209:=by kernel_rfl},f34:=by kernel_rfl,f120:=by kernel_rfl},f72:=by kernel_rfl,f167:=by kernel_rfl,f189:=by kernel_rfl,f192:=by kernel_rfl},f35:=by kernel_rfl,f92:=by kernel_rfl,f121:=by kernel_rfl,f124:=by kernel_rfl,f193:=by kernel_rfl,f194:=by kernel_rfl,f195:=by kernel_rfl,f196:=by kernel_rfl,f197:=by kernel_rfl,f257:=by kernel_rfl},f22:=by kernel_rfl,f89:=by kernel_rfl,f90:=by kernel_rfl,f91:=by kernel_rfl},cp:={p:=dZ.aR,f62:=by kernel_rfl,f90:=by kernel_rfl,f106:=by kernel_rfl,f155:=by kernel_rfl,f156:=by kernel_rfl,f231:=by kernel_rfl},f141:=by kernel_rfl},qu:={p:=dZ.aR,f35:=by kernel_rfl,f121:=by kernel_rfl,f143:=by kernel_rfl,f174:=by kernel_rfl,f207:=by kernel_rfl,f226:=by kernel_rfl},fn:={p:=dZ.aR,f106:=by kernel_rfl,f142:=by kernel_rfl},f54:=by kernel_rfl,f55:=by kernel_rfl},lk:={nd:={pl:={fi:={ft:={mp:={cp:={p:=dZ.aR,f123:=by kernel_rfl,f213:=by kernel_rfl,f214:=by kernel_rfl,f264:=by kernel_rfl,f265:=by kernel_rfl,f266:=by kernel_rfl},tu:={p:=dZ.aR,f263:=by kernel_rfl,f317:=by kernel_rfl,f318:=by kernel_rfl,f319:=by kernel_rfl,f320:=by kernel_rfl,f321:=by kernel_rfl,f322:=by kernel_rfl},f126:=by kernel_rfl,f127:=by kernel_rfl,f211:=by kernel_rfl,f215:=by kernel_rfl,f261:=by kernel_rfl,f262:=by kernel_rfl},bd:={cp:={p:=dZ.aR,f123:=by kernel_rfl,f213:=by kernel_rfl,f214:=by kernel_rfl,f264:=by kernel_rfl,f265:=by kernel_rfl,f266:=by kernel_rfl},f210:=by kernel_rfl},li:={p:=dZ.aR,f212:=by kernel_rfl},co:={p:=dZ.aR,f188:=by kernel_rfl,f254:=by kernel_rfl},f35:=by kernel_rfl,f121:=by kernel_rfl,f209:=by kernel_rfl},f34:=by kernel_rfl,f120:=by kernel_rfl},f72:=by kernel_rfl,f167:=by kernel_rfl,f189:=by kernel_rfl,f192:=by kernel_rfl},f35:=by kernel_rfl,f92:=by kernel_rfl,f121:=by kernel_rfl,f124:=by kernel_rfl,f193:=by kernel_rfl,f194:=by kernel_rfl,f195:=by kernel_rfl,f196:=by kernel_rfl,f197:=by kernel_rfl,f257:=by kernel_rfl},f201:=by kernel_rfl},f56:=by kernel_rfl,f144:=by kernel_rfl},f64:=by kernel_rfl,f157:=by kernel_rfl,f232:=by kernel_rfl},r8:={p:=dZ.aR,f52:=by kernel_rfl,f53:=by kernel_rfl,f112:=by kernel_rfl,f113:=by kernel_rfl,f115:=by kernel_rfl,f118:=by kernel_rfl,f140:=by kernel_rfl,f208:=by kernel_rfl},lt:={cr:={hr:={p:=dZ.aR,f171:=by kernel_rfl,f225:=by kernel_rfl},f170:=by kernel_rfl},f20:=by kernel_rfl,f84:=by kernel_rfl},rs:={rf:={tr:={cr:={hr:={p:=dZ.aR,f171:=by kernel_rfl,f225:=by kernel_rfl},f170:=by kernel_rfl},f137:=by kernel_rfl,f139:=by kernel_rfl,f221:=by kernel_rfl,f222:=by kernel_rfl,f223:=by kernel_rfl,f224:=by kernel_rfl,f267:=by kernel_rfl},f51:=by kernel_rfl,f52:=by kernel_rfl,f84:=by kernel_rfl,f138:=by kernel_rfl,f140:=by kernel_rfl,f225:=by kernel_rfl},f31:=by kernel_rfl,f49:=by kernel_rfl,f93:=by kernel_rfl},fi:={ft:={mp:={cp:={p:=dZ.aR,f123:=by kernel_rfl,f213:=by kernel_rfl,f214:=by kernel_rfl,f264:=by kernel_rfl,f265:=by kernel_rfl,f266:=by kernel_rfl},tu:={p:=dZ.aR,f263:=by kernel_rfl,f317:=by kernel_rfl,f318:=by kernel_rfl,f319:=by kernel_rfl,f320:=by kernel_rfl,f321:=by kernel_rfl,f322:=by kernel_rfl},f126:=by kernel_rfl,f127:=by kernel_rfl,f211:=by kernel_rfl,f215:=by kernel_rfl,f261:=by kernel_rfl,f262:=by kernel_rfl},bd:={cp:={p:=dZ.aR,f123:=by kernel_rfl,f213:=by kernel_rfl,f214:=by kernel_rfl,f264:=by kernel_rfl,f265:=by kernel_rfl,f266:=by kernel_rfl},f210:=by kernel_rfl},li:={p:=dZ.aR,f212:=by kernel_rfl},co:={p:=dZ.aR,f188:=by kernel_rfl,f254:=by kernel_rfl},f35:=by kernel_rfl,f121:=by kernel_rfl,f209:=by kernel_rfl},f34:=by kernel_rfl,f120:=by kernel_rfl},f11:=by kernel_rfl,f21:=by kernel_rfl,f32:=by kernel_rfl,f119:=by kernel_rfl}
open Go.RowKit Go.ChangeShapes Go.WideShapes Go.Deep in
section
variable {H:Type} {enc:TypeId×Value->H} {W:World} {base:Nat} {held:Bool}
theorem Kf:Tryz.prog.cellsOf 4=1:=by kernel_rfl
theorem F9(l:List Bool):l.flatMap (λx=>[Value.bool x])=bls l:=by
 unfold bls;induction l with
 |nil=>rfl
 |cons a l ih=>rw[List.flatMap_cons,ih];rfl
theorem B0{v:Value}{d:DataW H}{p:List MemPlace}(hv:Value.okWide Tryz.prog W .any base 82 v)(h:DataW.Trod enc Tryz.prog W 0 (λ_=>true) held 82 v d p)(hz:∀n∈d.weights Tryz.prog 82,n<=reachBytes):∃l:List Bool,gX W 1 v l.length (bls l):=by
 obtain⟨l,hl,_⟩:=qf (α:=Bool) Tryz.underlying82 Kf (by decide) (show Tryz.prog.bytesOf 4=1 by kernel_rfl) (by decide) (λ_=>True) (λx=>[Value.bool x]) (λ_ _=>rfl) (λa v hv=>by rw[List.mem_singleton.1 hv];rfl) (λh=>by
  obtain⟨z,hz,_⟩:=DataW.trod_bool Tryz.underlying4 h;exact⟨z,trivial,hz⟩) hv h hz
 rw[F9]at hl;exact⟨l,hl⟩
end
open Go.RowKit in
theorem vO{W:World}(V:vV W){w:List Nat×List Nat}(hw:IsW w){sl1 sl2 sl3:Value}{l:List Pb}(h1:Mw W sl1 l){os:List (List Nat)}(h2:O3 W sl2 os){s:List Nat}(hs:IsS s){ak:List Bool}(h3:gX W 1 sl3 ak.length (bls ak)){pr:Int}(hpr: -9223372036854775808<=pr/\pr<9223372036854775808):Calls Tryz.prog 11 #[wV w,sl1,sl2,sv s,sl3, .int .i64 pr] W λe W'=>e= .returned (.bool true)/\Below W.heap.size W W':=by
 obtain⟨h,μ,hRR,hro,hrd,hnx,hgl,⟨a1,n1,hu1,hs1,hc1⟩,⟨a2,n2,hu2,hs2,hc2⟩,a3,n3,hu3,hs3,hc3⟩:=Ns V.gl h1.1 h2.1 h3;have hol:os.length<4611686018427387904:=by
  rcases bY.inv hs2 with⟨_,_,h0,_⟩|⟨b,o,cap,hv,_,hc⟩
  ·rw[h0];decide
  ·cases hv;unfold UNK at hc2;omega
 obtain⟨r',h',⟨m,hm⟩,rfl,rfl⟩:=Qs Qf hrd (hgl 2 _ List.mem_cons_self) (by omega) hw ⟨hs1,h1.2⟩ ⟨hs2,h2.2⟩ hol hs hs3 hpr;have hrun:=hm m (Nat.le_refl _);have ha:LR μ [wV w, .slice a1 l.length n1, .slice a2 os.length n2,sv s, .slice a3 ak.length n3, .int .i64 pr] [wV w,sl1,sl2,sv s,sl3, .int .i64 pr]:= .cons (VR.cg (HM w)).1 (.cons hu1 (.cons hu2 (.cons (VR.cg (fH s)).1 (.cons hu3 (.cons (VR.cg rfl).1 .nil)))));refine(kW dZ hrun hrd.log (by kernel_rfl) hRR ha).mono λe W' hq=> ?_;obtain⟨μ',q1,q2,q3⟩:=hq;cases e with
 |returned v'=>
  have hv:VR μ' (.bool true) v':=q1;cases hv;exact⟨rfl,St.below q3 hro⟩
 |panicked _=>exact q1.elim
 |outgrown=>exact q1.elim
end Go.A.Pk
end
