/- Walks of functions, plain laws, the table. -/
import Derived.Test.YtgffeapobcfigaaGreatDoorJU3
import Derived.Test.YtgffeapobcfigaaGreatDoorJF
import Derived.Test.YtgffeapobcfigaaGreatDoorJU2
import Derived.Test.YtgffeapobcfigaaGreatDoorJD
set_option linter.all false
set_option maxHeartbeats 16000000
set_option maxRecDepth 100000
section
namespace Go.A.Pk
variable {T:Nat->Option af}
theorem DH{h:Heap}{v:Value}{n:Nat}{cs:List Value}(s:bY h 1 v n cs){i:Nat}{x:Value}(hi:cs[i]? =some x):
 ∃b o c vs own t,v= .slice (some ⟨b,o,none⟩) n c/\h.get b=some (.cells vs own t)/\b<h.next/\bN vs (o+i*1)=some x:=by
 have hlt:=(List.getElem?_eq_some_iff.1 hi).1;rcases bY.inv s with⟨_,_,h0,hc⟩|⟨b,o,cap,hs,s3,hc⟩
 ·rw[hc]at hlt;simp at hlt
 ·obtain⟨vs,own,t,g1,g2⟩:=s3.obj;have hl:=s3.len;refine⟨b,o,cap,vs,own,t,hs,g1,s3.lt,?_⟩;rw[bU,bg]at g2;rw[←g2,List.getElem?_take_of_lt (by omega),List.getElem?_drop]at hi;rw[cD,Nat.mul_one];exact hi
theorem ints_at{l:List Int}{i:Nat}{x:Int}(h:l[i]? =some x):(ints l)[i]? =some (.int .i64 x):=by simp[ints,h]
def mV(l:List Nat):List Nat:=l++List.replicate (8-l.length) 0
theorem rI{l:List Nat}(h:l.length<=8):(mV l).length=8:=by unfold mV;rw[List.length_append,List.length_replicate];omega
theorem Ir{l:List Nat}{k:Nat}(h:l.length<8):(mV l).set l.length k=mV (l++[k]):=by
 unfold mV;rw[List.set_append_right _ _ (Nat.le_refl _),Nat.sub_self];obtain⟨m,hm⟩:∃m,8-l.length=m+1:=⟨8-l.length-1,by omega⟩;rw[hm,List.replicate_succ,List.set_cons_zero,List.append_assoc,List.length_append,List.length_singleton,show 8-(l.length+1)=m by omega];rfl
def z8:List Nat:=[0,0,0,0,0,0,0,0]
def sF(l:List Int):Bool:=l.all λx=>inR x 0 2
def kC(l:List Int)(n:Nat):List Nat×Bool:=if n<l.length∨sF l=false then(z8,false)else(mV (l.map Int.toNat),decide (l.length=n))
theorem Nj(f:List Nat)(i k:Nat):(fL f).set (0+i*1) (.int .u8 (k:Nat))=fL (f.set i k):=by
 rw[Nat.zero_add,Nat.mul_one];unfold fL;rw[List.map_set]
structure Mo (T:Nat->Option af):Prop where
 p:aR T
 f106:T 106=some f106
 f142:T 142=some f142
theorem Kn(f:List Nat)(b:Bool):cg (.tuple #[fV f, .bool b])=true:=by
 have q:flat (fV f)=true:=by
  show cO (fL f).toArray.toList=true;rw[List.toList_toArray];induction f with
  |nil=>rfl
  |cons a f ih=>exact ih
 show gI [fV f, .bool b]=true;simp only[gI,q];rfl
theorem uF(F:Mo T){h:Heap}(hr:Rdy h){q:Nat}{w:List Nat×List Nat}(hw:IsW w){pv nv ov mv:Value}(gq:h.get q=some (.cells (quL w pv nv ov mv) true 1)){l:List Pb}(sp:PbS h pv l)(hl:l.length<=8){v:Value}{fs:List Int}(sf:bY h 1 v fs.length (ints fs))(hfl:fs.length<1000000):
 Pu T 142 [.pointer (some ⟨q,0,none⟩),v] h (.tuple #[fV (kC fs l.length).1, .bool (kC fs l.length).2]):=by
 refine .of F.p F.f142 hr (Kn _ _) ?_;obtain⟨a,c,rfl⟩:=sp.form;obtain⟨a2,c2,rfl⟩:=sf.form;have hqn:=hr.wf.fK gq;have kp:=II hw (.slice a l.length c) nv ov mv;have x0:Ext h ((h.push (.cells (aK 8 (.int .u8 0)) true 1)).push (.cells (aK 8 (.int .u8 0)) true 1)):=((Ext.refl h).push _).push _;have g4:((h.push (.cells (aK 8 (.int .u8 0)) true 1)).push (.cells (aK 8 (.int .u8 0)) true 1)).get h.next=some (.cells (fL z8) true 1):=(z4 (Nat.lt_succ_self _)).trans (z3 h _)
 have g6:((h.push (.cells (aK 8 (.int .u8 0)) true 1)).push (.cells (aK 8 (.int .u8 0)) true 1)).get (h.next+1)=some (.cells (fL (mV ((fs.take 0).map Int.toNat))) true 1):=z3 _ _;have n0:((h.push (.cells (aK 8 (.int .u8 0)) true 1)).push (.cells (aK 8 (.int .u8 0)) true 1)).next=h.next+2:=rfl
 refine Y7 ?_;have gqH:=(x0.old _ hqn).trans gq;have sfH:=sf.ext x0;generalize((h.push (.cells (aK 8 (.int .u8 0)) true 1)).push (.cells (aK 8 (.int .u8 0)) true 1))=H at*;have W:=x0.wf hr.wf;have hL:=x0.log.trans hr.log;have hnx:(h.push (.cells (aK 8 (.int .u8 0)) true 1)).next=h.next+1:=rfl
 rw[hnx];clear hnx;refine Y7 ?_
 refine cF (λm e ds h'=>∃i:Nat,i<=fs.length/\i<=l.length/\m=fs.length-i/\e=[(0, .pointer (some ⟨q,0,none⟩)),(1, .slice a2 fs.length c2),(4, .pointer (some ⟨h.next,0,none⟩)),(6, .pointer (some ⟨h.next+1,0,none⟩)),(9, .slice a2 fs.length c2),(10, .int .i64 (fs.length:Nat)),(11, .int .i64 (i:Nat))]/\ds=[]/\WF h'∧h'.log=[]/\h'.next=H.next/\(∀z,z≠h.next+1->h'.get z=H.get z)/\h'.get (h.next+1)=some (.cells (fL (mV ((fs.take i).map Int.toNat))) true 1)/\sF (fs.take i)=true)
  ⟨0,Nat.zero_le _,Nat.zero_le _,rfl,rfl,rfl,W,hL,rfl,λ_ _=>rfl,g6,rfl⟩ ?_
 rintro m e ds G ⟨i,hi,hil,rfl,rfl,rfl,WG,hLG,nG,oG,g6G,hok⟩;have gqG:=(oG q (by omega)).trans gqH;have g4G:=(oG h.next (by omega)).trans g4;by_cases hlt:i<fs.length
 ·obtain⟨x,hx⟩:∃s,fs[i]? =some s:=⟨fs[i],List.getElem?_eq_getElem hlt⟩;obtain⟨b,o,c3,vs,own,tt,hv,gl,hbl,el⟩:=DH sf (ints_at hx);cases hv;have glG:=((oG b (by omega)).trans (x0.old b hbl)).trans gl;have mlt:aq .lss (.int .i64 (i:Nat)) (.int .i64 (fs.length:Nat))=some (.bool true):=fR (by omega);have kz8:cu 8 (bM 0 (fL z8))=fL z8:=rfl;have kz9:Nat.beq (bG (fL z8)) 8=true:=rfl;by_cases hil2:i<l.length
  ·have mge:aq .geq (.int .i64 (i:Nat)) (.int .i64 (l.length:Nat))=some (.bool false):=yp (by omega);have C:=MF F.p F.f106 (h:={G with log:=[]}) (.of WG) x 0 2;have hst:sF (fs.take (i+1))=(sF (fs.take i)&&inR x 0 2):=by
    obtain⟨hlt2,rfl⟩:=List.getElem?_eq_some_iff.1 hx;unfold sF;rw[List.take_succ_eq_append_getElem hlt2,List.all_append];simp
   have hno:inR x 0 2=false->sF fs=false:=λq=>by
    unfold sF;rw[List.all_eq_false];exact⟨x,List.mem_of_getElem? hx,by rw[q];simp⟩
   cases hin:inR x 0 2 with
   |false=>
    rw[hin]at C;have e:kC fs l.length=(z8,false):=by unfold kC;rw[if_pos (.inr (hno hin))]
    rw[e];refine Y30 ?_;refine FW.pu C ?_;refine Y17 ?_;refine aA ?_ (bW (own:=true) (s:=1) rfl ?_ kz8 kz9 (iW rfl rfl)) rfl
    ·rw[Heap.aB (by omega)];exact hLG
    ·exact YG
   |true=>
    rw[hin]at C hst;obtain⟨k,rfl⟩:∃k:Nat,x=(k:Int):=⟨x.toNat,by unfold inR at hin;have:=of_decide_eq_true hin;omega⟩;have hk2:k<=2:=by unfold inR at hin;have:=of_decide_eq_true hin;omega
    have kcv:eE .u8 (k:Int)=((k:Nat):Int):=by
     have:k=0∨k=1∨k=2:=by omega
     rcases this with rfl|rfl|rfl<;>rfl
    have htl:((fs.take i).map Int.toNat).length=i:=by rw[List.length_map,List.length_take];omega
    have hpl:(mV ((fs.take i).map Int.toNat)).length=8:=rI (by omega);have hps:(mV ((fs.take i).map Int.toNat)).set i k=mV ((fs.take (i+1)).map Int.toNat):=by
     have:=Ir (l:=(fs.take i).map Int.toNat) (k:=k) (by omega);rw[htl]at this;rw[this];obtain⟨hlt2,e⟩:=List.getElem?_eq_some_iff.1 hx;rw[List.take_succ_eq_append_getElem hlt2,e,List.map_append];rfl
    have hset:=Nj (mV ((fs.take i).map Int.toNat)) i k;rw[hps]at hset;generalize mV ((fs.take i).map Int.toNat)=f at*;have hfl2:(fL f).length=8:=by rw[ji];exact hpl
    refine Y30 ?_;refine FW.pu C ?_;clear C;refine Y10 ?_;refine aF (pU (by exact rfl) (by assumption)) ?_;refine aF (nD (by exact rfl) (by exact rfl) (by omega)) ?_;refine aF (lQ (by exact rfl) (by exact rfl) (by assumption) (by exact rfl) (by exact rfl) (by omega)) ?_;refine dn ?_;refine Y7 ?_;exact⟨fs.length-(i+1),by omega,i+1,by omega,by omega,rfl,rfl,rfl,WG.as (AS.wr h.next _ _ _),(Heap.aB (by omega)).trans hLG,nG,λz hz=>(z5 hz).trans (oG z hz),by rw[←hset];(simp(disch:=first|omega|(simp only[z1,z2];omega))only[z3,z4,z5,z6,z7,z1,z2,gq,g4,g6,gqH,gqG,g4G,gl,glG,g6G];done),by rw[hst,hok];rfl⟩
  ·have mge:aq .geq (.int .i64 (i:Nat)) (.int .i64 (l.length:Nat))=some (.bool true):=BN (by omega);have e:kC fs l.length=(z8,false):=by unfold kC;rw[if_pos (.inl (by omega))]
   rw[e];refine Y40 ?_;refine Y4 ?_;refine aA ?_ (bW (own:=true) (s:=1) rfl ?_ kz8 kz9 (iW rfl rfl)) rfl
   ·rw[Heap.aB (by omega)];exact hLG
   ·exact YG
 ·obtain rfl:i=fs.length:=by omega
  have mlt:aq .lss (.int .i64 (fs.length:Nat)) (.int .i64 (fs.length:Nat))=some (.bool false):=gj (by omega);rw[List.take_length]at g6G hok;have e:kC fs l.length=(mV (fs.map Int.toNat),decide (fs.length=l.length)):=by
   unfold kC;rw[if_neg (λq=>q.elim (by omega) (by rw[hok];simp))]
  rw[e];have hpl:(mV (fs.map Int.toNat)).length=8:=rI (by rw[List.length_map];omega);generalize mV (fs.map Int.toNat)=f at*;have kf8:=si hpl;have kf9:=oS hpl;have kfl:(fL f).length=8:=by rw[ji];exact hpl
  have kfo:=qX f;have meq:aq .eql (.int .i64 (fs.length:Nat)) (.int .i64 (l.length:Nat))=some (.bool (decide (fs.length=l.length))):=Hl rfl;refine Y14 ?_;refine aH rfl rfl rfl (by exact rfl) (by exact rfl) (by exact rfl) (ue (by exact rfl)) ?_;refine Y4 ?_;refine aH rfl rfl rfl (by exact rfl) (by exact rfl) (by exact rfl) (ue (by exact rfl)) ?_;refine qW ?_;refine lu rfl rfl rfl (by exact rfl) (by exact rfl) (by exact rfl) (by assumption) (by assumption) (by exact rfl) (by assumption) (by omega) (by omega) (by apply aL rfl (au rfl (gU (by exact rfl) (by exact rfl) (by with_reducible assumption)) (by exact jy _)) rfl;apply aL rfl (au rfl (ue (by exact rfl)) (by exact gQ _ _)) rfl;apply aL rfl (au rfl (dh (by exact rfl) YG (by assumption)) (by exact mD _ _ _)) rfl;apply aL rfl (au rfl (cT (by exact rfl)) (by exact cE _)) rfl;apply aL rfl (au rfl (nE (by exact rfl)) (by exact cE _)) rfl;apply aL rfl (au rfl (iK (by exact rfl)) (by exact cE _)) rfl;apply aL rfl (au rfl (ue (by exact rfl)) (by exact gQ _ _)) rfl;apply aL rfl (au rfl (iK (by exact rfl)) (by exact mD _ _ _)) rfl;apply aN rfl;exact bJ) ?_;refine Y5 ?_;refine aA ?_ (bW (own:=true) (s:=1) rfl ?_ kf8 kf9 (iW rfl rfl)) rfl
  ·rw[Heap.aB (by omega)];exact hLG
  ·exact YG
theorem tI{w:List Nat×List Nat}{l:List Pb}{os:List (List Nat)}(h:jJ w l os=0):sIn w.1 w.2=true/\os.length<=6/\(∀s∈os,¬s=s0)/\l.length<=8:=by
 unfold jJ at h;split at h
 ·cases h
 ·rename_i h1;split at h
  ·cases h
  ·rename_i h2;split at h
   ·cases h
   ·rename_i h3;refine⟨by simpa using h1,by omega,λs hs e=>h3 (List.any_eq_true.2 ⟨s,hs,decide_eq_true e⟩),?_⟩;unfold prE at h;split at h
    ·cases h
    ·omega
theorem xX{fs:List Int}{n:Nat}(hn:n<=8)(h:(kC fs n).2=true):(kC fs n).1=mV (fs.map Int.toNat)/\(kC fs n).1.length=8/\fs.length=n/\sF fs=true:=by
 unfold kC at h⊢;split at h
 ·cases h
 ·rename_i hc;rw[if_neg hc];have e:=of_decide_eq_true h;exact⟨rfl,rI (by rw[List.length_map];omega),e,by cases q:sF fs with
   |true=>rfl
   |false=>exact absurd (.inr q) hc⟩
theorem uE{fs:List Int}{n:Nat}(hn:n<=8):(kC fs n).1.length=8:=by
 unfold kC;split
 ·rfl
 ·exact rI (by rw[List.length_map];omega)
def zsF(l:List Pb)(fs:List Int):Zs:=l.zip (fs.map Int.toNat)
theorem CH{l:List Pb}{fs:List Int}(h:fs.length=l.length):l.zip (mV (fs.map Int.toNat))=zsF l fs:=by
 unfold zsF mV;have e:(fs.map Int.toNat).length=l.length:=by rw[List.length_map];exact h
 generalize fs.map Int.toNat=f at*;generalize List.replicate (8-f.length) 0=r;clear h;induction l generalizing f with
 |nil=>cases f with
  |nil=>simp
  |cons a f=>simp at e
 |cons p l ih=>cases f with
  |nil=>simp at e
  |cons a f=>simp[ih f (by simpa using e)]
def Gf(w:List Nat×List Nat)(l:List Pb)(fs:List Int):Bool×Int:=
 if jJ w l []≠0 then(false,jJ w l [])else if(kC fs l.length).2=false then(false,1)else(bsB w (zsF l fs),0)
def F6(w:List Nat×List Nat)(l:List Pb)(fs:List Int):List Nat×Int:=
 if jJ w l []≠0 then(s0,jJ w l [])else if(kC fs l.length).2=false then(s0,1)else if bsB w (zsF l fs)=false then(s0,5)else(bsS w.1 (zsF l fs),0)
structure Fx (T:Nat->Option af):Prop where
 ak:Ml T
 qu:CM T
 fn:Mo T
 f54:T 54=some f54
 f55:T 55=some f55
theorem DM{h:Heap}:SsQ h (.slice none 0 0) []:=⟨.nil,λs hs=>by cases hs⟩
theorem P5(F:Fx T){h:Heap}(hr:Rdy h){w:List Nat×List Nat}(hw:IsW w){pv:Value}{l:List Pb}(sp:PbS h pv l)(hl:l.length<1000000){v:Value}{fs:List Int}(sf:bY h 1 v fs.length (ints fs))(hfl:fs.length<1000000):
 Pu T 54 [wV w,pv,v] h (.tuple #[.bool (Gf w l fs).1, .int .i64 (Gf w l fs).2]):=by
 refine .of F.fn.p F.f54 hr rfl ?_;have hwc:cellsOf (wV w)=wL w:=by show(wL w).toArray.toList=_;simp
 obtain⟨a,c,rfl⟩:=sp.form;obtain⟨a2,c2,rfl⟩:=sf.form;have x0:Ext h (h.push (.cells (cellsOf (wV w)) true 1)):=(Ext.refl h).push _;have g0:(h.push (.cells (cellsOf (wV w)) true 1)).get h.next=some (.cells (wL w) true 1):=by rw[hwc];exact z3 h _
 have n0:(h.push (.cells (cellsOf (wV w)) true 1)).next=h.next+1:=rfl
 refine Y5 ?_;generalize(h.push (.cells (cellsOf (wV w)) true 1))=H at*;have W:=x0.wf hr.wf;have hL:=x0.log.trans hr.log;have wk:=qq hw;have wkl:=lB hw;have C1:=uo F.ak (h:={H with log:=[]}) (.of W) hw ((sp.ext x0).log []) hl DM (by decide);unfold Gf;have hask:=tI (w:=w) (l:=l) (os:=[]);generalize jJ w l []=er at*;refine Y4 ?_;refine FW.al C1 (λv h' m q=>q) ?_;clear C1;rintro _ H1 x1 (⟨he,rfl⟩|⟨rfl,q,m,rfl,hq1,hq2,hq3,gq,gm⟩)
 ·rw[if_pos he];have hL1:=x1.log.trans hL;have mn:aq .neq (.int .i64 er) (.int .i64 0)=some (.bool true):=kJ he;refine Y19 ?_;exact aA hL1 rfl rfl
 ·rw[if_neg (λq=>q rfl)];have hl8:=(hask rfl).2.2.2;have ey1:=x0.trans x1;have W1:=ey1.wf hr.wf;have hL1:=x1.log.trans hL;have n1:=x1.next
  have C2:=uF F.fn (h:={H1 with log:=[]}) (.of W1) hw gq ((sp.ext ey1).log []) hl8 ((sf.ext ey1).log []) hfl;have hfn:=xX (fs:=fs) hl8;have hzp:=λe=>CH (l:=l) (fs:=fs) e;have mn:aq .neq (.int .i64 0) (.int .i64 0)=some (.bool false):=rfl;have hf8:=uE (fs:=fs) hl8;generalize kC fs l.length=fp at*;obtain⟨f,ok⟩:=fp;dsimp only at C2 hfn hf8⊢;have kf8:=si hf8;have kf9:=oS hf8;have kfl:(fL f).length=8:=by rw[ji];exact hf8
  have kfo:=qX f;refine Y18 ?_;refine FW.pu C2 ?_;clear C2;cases ok with
  |false=>
   rw[if_pos rfl];refine Y4 ?_;refine aF (br (by exact rfl) (by exact rfl) YG (by assumption) (by exact rfl) (by assumption)) ?_;refine Y14 ?_;refine aA ?_ rfl rfl;rw[Heap.aB (by show h.next<=H1.next;omega)];exact hL1
  |true=>
   rw[if_neg (by simp)];obtain⟨hf1,_,hfe,_⟩:=hfn rfl;have hz:l.zip f=zsF l fs:=by rw[hf1];exact hzp hfe
   have x2:=eT (h:=H1) (base:=h.next) (by omega) (.cells (aK 8 (.int .u8 0)) true 1) (.cells (fL f) true 1);have g10:=fQ (h:=H1) (base:=h.next) (aK 8 (.int .u8 0)) (fL f);have n2:((H1.push (.cells (aK 8 (.int .u8 0)) true 1)).wr h.next H1.next (.cells (fL f) true 1)).next=H1.next+1:=rfl
   refine Y4 ?_;refine aF (br (by exact rfl) (by exact rfl) YG (by assumption) (by exact rfl) (by assumption)) ?_;refine Y2 ?_;generalize((H1.push (.cells (aK 8 (.int .u8 0)) true 1)).wr h.next H1.next (.cells (fL f) true 1))=H2 at*;have ey2:=ey1.trans x2;have W2:=ey2.wf hr.wf;have hL2:=x2.log.trans hL1;have gq2:=(x2.old q hq3).trans gq;have C3:=xN F.qu (h:={H2 with log:=[]}) (.of W2) hw gq2 ((sp.ext ey2).log []) hl8 hf8;rw[hz]at C3;refine Y12 ?_;refine FW.pu C3 ?_;refine Y11 ?_;exact aA hL2 rfl rfl
theorem F7(F:Fx T){h:Heap}(hr:Rdy h){w:List Nat×List Nat}(hw:IsW w){pv:Value}{l:List Pb}(sp:PbS h pv l)(hl:l.length<1000000){v:Value}{fs:List Int}(sf:bY h 1 v fs.length (ints fs))(hfl:fs.length<1000000):
 Pu T 55 [wV w,pv,v] h (.tuple #[sv (F6 w l fs).1, .int .i64 (F6 w l fs).2]):=by
 refine .of F.fn.p F.f55 hr (LK _ _) ?_;have hwc:cellsOf (wV w)=wL w:=by show(wL w).toArray.toList=_;simp
 obtain⟨a,c,rfl⟩:=sp.form;obtain⟨a2,c2,rfl⟩:=sf.form;have x0:Ext h ((h.push (.cells (cellsOf (wV w)) true 1)).push (.cells (aK 8 (.int .u64 0)) true 1)):=((Ext.refl h).push _).push _;have g0:((h.push (.cells (cellsOf (wV w)) true 1)).push (.cells (aK 8 (.int .u64 0)) true 1)).get h.next=some (.cells (wL w) true 1):=by rw[hwc];exact(z4 (Nat.lt_succ_self _)).trans (z3 h _)
 have g6:((h.push (.cells (cellsOf (wV w)) true 1)).push (.cells (aK 8 (.int .u64 0)) true 1)).get (h.next+1)=some (.cells (us s0) true 1):=z3 _ _;have n0:((h.push (.cells (cellsOf (wV w)) true 1)).push (.cells (aK 8 (.int .u64 0)) true 1)).next=h.next+2:=rfl
 have hnx:(h.push (.cells (cellsOf (wV w)) true 1)).next=h.next+1:=rfl
 refine Y5 ?_;generalize((h.push (.cells (cellsOf (wV w)) true 1)).push (.cells (aK 8 (.int .u64 0)) true 1))=H at*;rw[hnx];clear hnx;have W:=x0.wf hr.wf;have hL:=x0.log.trans hr.log;have wk:=qq hw;have wkl:=lB hw;have ks0:cu 8 (bM 0 (us s0))=us s0:=rfl;have ks1:Nat.beq (bG (us s0)) 8=true:=rfl;have C1:=uo F.ak (h:={H with log:=[]}) (.of W) hw ((sp.ext x0).log []) hl DM (by decide);unfold F6;have hask:=tI (w:=w) (l:=l) (os:=[]);generalize jJ w l []=er at*;refine Y4 ?_;refine FW.al C1 (λv h' m q=>q) ?_;clear C1;rintro _ H1 x1 (⟨he,rfl⟩|⟨rfl,q,m,rfl,hq1,hq2,hq3,gq,gm⟩)
 ·rw[if_pos he];have hL1:=x1.log.trans hL;have g61:=(x1.old _ (by omega)).trans g6;have mn:aq .neq (.int .i64 er) (.int .i64 0)=some (.bool true):=kJ he;refine Y20 ?_;refine aA ?_ (bW (own:=true) (s:=1) rfl ?_ ks0 ks1 (iW rfl rfl)) rfl
  ·rw[Heap.aB (by omega)];exact hL1
  ·exact YG
 ·rw[if_neg (λq=>q rfl)];have hl8:=(hask rfl).2.2.2;have ey1:=x0.trans x1;have W1:=ey1.wf hr.wf;have hL1:=x1.log.trans hL;have n1:=x1.next
  have g61:=(x1.old _ (by omega)).trans g6;have C2:=uF F.fn (h:={H1 with log:=[]}) (.of W1) hw gq ((sp.ext ey1).log []) hl8 ((sf.ext ey1).log []) hfl;have hfn:=xX (fs:=fs) hl8;have hzp:=λe=>CH (l:=l) (fs:=fs) e;have mn:aq .neq (.int .i64 0) (.int .i64 0)=some (.bool false):=rfl;have hf8:=uE (fs:=fs) hl8;generalize kC fs l.length=fp at*;obtain⟨f,ok⟩:=fp;dsimp only at C2 hfn hf8⊢;have kf8:=si hf8;have kf9:=oS hf8;have kfl:(fL f).length=8:=by rw[ji];exact hf8
  have kfo:=qX f;refine Y18 ?_;refine FW.pu C2 ?_;clear C2;cases ok with
  |false=>
   rw[if_pos rfl];refine Y4 ?_;refine aF (br (by exact rfl) (by exact rfl) YG (by assumption) (by exact rfl) (by assumption)) ?_;refine Y15 ?_;refine aA ?_ (bW (own:=true) (s:=1) rfl ?_ ks0 ks1 (iW rfl rfl)) rfl
   ·rw[Heap.aB (by omega)];exact(Heap.aB (by show h.next<=H1.next;omega)).trans hL1
   ·exact YG
  |true=>
   rw[if_neg (by simp)];obtain⟨hf1,_,hfe,_⟩:=hfn rfl;have hz:l.zip f=zsF l fs:=by rw[hf1];exact hzp hfe
   have x2:=eT (h:=H1) (base:=h.next) (by omega) (.cells (aK 8 (.int .u8 0)) true 1) (.cells (fL f) true 1);have g10:=fQ (h:=H1) (base:=h.next) (aK 8 (.int .u8 0)) (fL f);have n2:((H1.push (.cells (aK 8 (.int .u8 0)) true 1)).wr h.next H1.next (.cells (fL f) true 1)).next=H1.next+1:=rfl
   refine Y4 ?_;refine aF (br (by exact rfl) (by exact rfl) YG (by assumption) (by exact rfl) (by assumption)) ?_;refine Y2 ?_;generalize((H1.push (.cells (aK 8 (.int .u8 0)) true 1)).wr h.next H1.next (.cells (fL f) true 1))=H2 at*;have ey2:=ey1.trans x2;have W2:=ey2.wf hr.wf;have hL2:=x2.log.trans hL1;have gq2:=(x2.old q hq3).trans gq;have g62:=(x2.old _ (by omega)).trans g61;have C3:=xN F.qu (h:={H2 with log:=[]}) (.of W2) hw gq2 ((sp.ext ey2).log []) hl8 hf8;rw[hz]at C3;have hbs:IsS (bsS w.1 (zsF l fs)):=lD hw.a (ni sp.ok);generalize bsS w.1 (zsF l fs)=s at*;have kb8:=aO hbs.len;have kb9:=bn hbs.len;have kbn:=hbs.len;clear g6 g61;cases hcan:bsB w (zsF l fs)with
   |false=>
    rw[hcan]at C3;rw[if_pos rfl];refine Y12 ?_;refine FW.pu C3 ?_;refine Y4 ?_;refine aF (br (by exact rfl) (by exact rfl) YG (by(simp only[aD];assumption)) (by exact rfl) (by exact cI _)) ?_;refine Y15 ?_;refine aA ?_ (bW (own:=true) (s:=1) rfl ?_ ks0 ks1 (iW rfl rfl)) rfl
    ·rw[Heap.aB (by omega)];exact(Heap.aB (by show h.next<=H2.next;omega)).trans hL2
    ·exact YG
   |true=>
    rw[hcan]at C3;rw[if_neg (by simp)];refine Y12 ?_;refine FW.pu C3 ?_;refine Y4 ?_;refine aF (br (by exact rfl) (by exact rfl) YG (by(simp only[aD];assumption)) (by exact rfl) (by exact cI _)) ?_;refine Y11 ?_;refine aF (cA (by exact rfl) YG (by assumption) (by assumption)) ?_;refine aF (br (by exact rfl) (by exact rfl) YG (by(simp only[aD];assumption)) (by exact rfl) (by exact cI _)) ?_;refine Y3 ?_;refine aA ?_ (bW (own:=true) (s:=1) rfl ?_ kb9 kb8 (iW rfl rfl)) rfl
    ·rw[Heap.aB (by omega)];exact(Heap.aB (by show h.next<=H2.next;omega)).trans hL2
    ·exact YG
end Go.A.Pk
end
section
namespace Go.A.Pk
def InC(s:List Nat)(x y z:Nat):Prop:=(x:Int)<=7-(dA s).1.hi.x/\(y:Int)<=7-(dA s).1.hi.y/\(z:Int)<=7-(dA s).1.hi.z
def SM(a:List Nat)(im:List (List Nat))(p:List Nat):Prop:=∃s∈im,∃x y z:Nat,InC s x y z/\lM (shC x y z) s=p/\sIn p a=true
structure PlI (a:List Nat) (im:List (List Nat)) (i z y x:Nat) (l:List (List Nat)):Prop where
 ok:∀p∈l,IsS p
 pw:l.Pairwise SLt
 sound:∀p∈l,SM a im p
 comp:∀j s,im[j]? =some s->∀x' y' z':Nat,InC s x' y' z'→(j<i∨j=i/\(z'<z∨z'=z/\(y'<y∨y'=y/\x'<x)))->sIn (lM (shC x' y' z') s) a=true->lM (shC x' y' z') s∈l
end Go.A.Pk
end
section
namespace Go.A.Pk
variable {T:Nat->Option af}
theorem Own.MC{lo lo' sz n:Nat}{h h':Heap}{u:Value}{k:Int}{cs:List Value}(hv:cg (.tuple #[u, .int .i64 k])=true)(q:Own lo h sz u n cs):Own lo' h' sz u n cs:=by
 cases q with
 |nil=>exact .nil
 |full h1 h2 h3 h4 h5=>
  simp[cg,gI,cO,flat,kV,jd]at hv;try cases hv.1
def nw(w:List Nat×List Nat)(l:List Pb)(fs:List Int)(os:List (List Nat)):List Nat×Int:=
 if jJ w l os≠0 then([],jJ w l os)else if(kC fs l.length).2=false then([],1)else if pP w=true then([],82)else if bsB w (zsF l fs)=false then([],5)else
  (os.map λo=>iO (zsF l fs) (bsS w.1 (zsF l fs)) (ei w o),0)
theorem bY.Qr{h h':Heap}{sz n:Nat}{v:Value}{cs:List Value}(s:bY h sz v n cs)(hn:h.next<=h'.next)(ha:∀z,z<h.next->h'.get z=h.get z):bY h' sz v n cs:=by
 cases s with
 |nil=>exact .nil
 |mem s hc=>
  obtain⟨vs,own,t,g1,g2⟩:=s.obj;exact .mem ⟨Nat.lt_of_lt_of_le s.lt hn,⟨vs,own,t,(ha _ s.lt).trans g1,g2⟩,s.len⟩ hc
structure Fz (T:Nat->Option af):Prop where
 cb:Fx T
 lk:Mr T
 f56:T 56=some f56
 f144:T 144=some f144
theorem Km(f:List Nat)(k:Nat):fL (f++[k])=fL f++[.int .u8 (k:Nat)]:=by simp[fL]
theorem GV(F:Fz T){h:Heap}(hr:Rdy h)(hg:Tab h)(h2:2<h.next){w:List Nat×List Nat}(hw:IsW w){pv:Value}{l:List Pb}(sp:PbS h pv l)(hl:l.length<1000000){v:Value}{fs:List Int}(sf:bY h 1 v fs.length (ints fs))(hfl:fs.length<1000000){ov:Value}{os:List (List Nat)}(so:SsQ h ov os)(hol:os.length<1000000):
 Al T 144 [wV w,pv,v,ov] h λv h'=>∃u,v= .tuple #[u, .int .i64 (nw w l fs os).2]/\Own h.next h' 1 u (nw w l fs os).1.length (fL (nw w l fs os).1):=by
 refine .of F.cb.fn.p F.f144 hr (λv h1 hv ⟨u,e,q⟩=>⟨u,e,by subst e;exact Own.MC hv q⟩) ?_;have hwc:cellsOf (wV w)=wL w:=by show(wL w).toArray.toList=_;simp
 obtain⟨a,c,rfl⟩:=sp.form;obtain⟨a2,c2,rfl⟩:=sf.form;obtain⟨a3,c3,rfl⟩:=so.sl.form;have hov:∀b o m c,(.slice a3 os.length c3:Value)= .slice (some ⟨b,o,none⟩) m c->b<h.next:=λb o m c e=>by
  rcases bY.inv so.sl with⟨_,hv,_⟩|⟨b',o',cap,hv,s1,_⟩
  ·rw[hv]at e;cases e
  ·rw[hv]at e;cases e;exact s1.lt
 have x0:Ext h (h.push (.cells (cellsOf (wV w)) true 1)):=(Ext.refl h).push _;have g0:(h.push (.cells (cellsOf (wV w)) true 1)).get h.next=some (.cells (wL w) true 1):=by rw[hwc];exact z3 h _
 have n0:(h.push (.cells (cellsOf (wV w)) true 1)).next=h.next+1:=rfl
 refine Y5 ?_;generalize(h.push (.cells (cellsOf (wV w)) true 1))=H at*;have W:=x0.wf hr.wf;have hL:=x0.log.trans hr.log;have wk:=qq hw;have wkl:=lB hw;have C1:=uo F.cb.ak (h:={H with log:=[]}) (.of W) hw ((sp.ext x0).log []) hl ((so.ext x0).log []) hol;unfold nw;have hask:=tI (w:=w) (l:=l) (os:=os);generalize jJ w l os=er at*;refine Y5 ?_;refine FW.al C1 (λv h' m q=>q) ?_;clear C1;rintro _ H1 x1 (⟨he,rfl⟩|⟨rfl,q,m,rfl,hq1,hq2,hq3,gq,gm⟩)
 ·rw[if_pos he];have hL1:=x1.log.trans hL;have mn:aq .neq (.int .i64 er) (.int .i64 0)=some (.bool true):=kJ he;refine Y19 ?_;exact dy hL1 rfl ⟨_,rfl, .nil⟩
 rw[if_neg (λq=>q rfl)];obtain⟨_,hol6,hone,hl8⟩:=hask rfl;clear hask;have hq1:H.next<=m:=hq1
 have ey1:=x0.trans x1;have W1:=ey1.wf hr.wf;have hL1:=x1.log.trans hL;have n1:=x1.next
 have g01:=(x1.old _ (by omega)).trans g0;have C2:=uF F.cb.fn (h:={H1 with log:=[]}) (.of W1) hw gq ((sp.ext ey1).log []) hl8 ((sf.ext ey1).log []) hfl;have hfn:=xX (fs:=fs) hl8;have hzp:=λe=>CH (l:=l) (fs:=fs) e;have mn:aq .neq (.int .i64 0) (.int .i64 0)=some (.bool false):=rfl;have hf8:=uE (fs:=fs) hl8;generalize kC fs l.length=fp at*;obtain⟨f,ok⟩:=fp;dsimp only at C2 hfn hf8⊢;have kf8:=si hf8;have kf9:=oS hf8;have kfl:(fL f).length=8:=by rw[ji];exact hf8
 have kfo:=qX f;have x2:=eT (h:=H1) (base:=h.next) (by omega) (.cells (aK 8 (.int .u8 0)) true 1) (.cells (fL f) true 1);have g12:=fQ (h:=H1) (base:=h.next) (aK 8 (.int .u8 0)) (fL f);have n2:((H1.push (.cells (aK 8 (.int .u8 0)) true 1)).wr h.next H1.next (.cells (fL f) true 1)).next=H1.next+1:=rfl
 clear g0;refine Y18 ?_;refine FW.pu C2 ?_;clear C2;refine Y4 ?_;refine aF (br (by exact rfl) (by exact rfl) YG (by assumption) (by exact rfl) (by assumption)) ?_;refine Y2 ?_;generalize((H1.push (.cells (aK 8 (.int .u8 0)) true 1)).wr h.next H1.next (.cells (fL f) true 1))=H2 at*;have ey2:=ey1.trans x2;have W2:=ey2.wf hr.wf;have hL2:=x2.log.trans hL1;have gq2:=(x2.old q hq3).trans gq;have g02:=(x2.old _ (by omega)).trans g01;cases ok with
 |false=>
  rw[if_pos rfl];refine Y15 ?_;exact dy hL2 rfl ⟨_,rfl, .nil⟩
 |true=>
 rw[if_neg (by simp)];obtain⟨hf1,_,hfe,_⟩:=hfn rfl;have hz:l.zip f=zsF l fs:=by rw[hf1];exact hzp hfe
 have C3:=NB F.cb.ak.ne (h:={H2 with log:=[]}) (.of W2) hw;clear hfn hzp g01 gq;cases hm:pP w with
 |true=>
  rw[hm]at C3;rw[if_pos rfl];refine Y11 ?_;refine FW.pu C3 ?_;refine Y10 ?_;exact dy hL2 rfl ⟨_,rfl, .nil⟩
 |false=>
 rw[hm]at C3;rw[if_neg (by simp)];have C4:=xN F.cb.qu (h:={H2 with log:=[]}) (.of W2) hw gq2 ((sp.ext ey2).log []) hl8 hf8;rw[hz]at C4;have hbs:IsS (bsS w.1 (zsF l fs)):=lD hw.a (ni sp.ok);generalize hbz:bsS w.1 (zsF l fs)=s at*;have kb8:=aO hbs.len;have kb9:=bn hbs.len;have kbn:=hbs.len;have x3:=eT (h:=H2) (base:=h.next) (by omega) (.cells (aK 8 (.int .u64 0)) true 1) (.cells (us s) true 1);have g14:=fQ (h:=H2) (base:=h.next) (aK 8 (.int .u64 0)) (us s);have n3:((H2.push (.cells (aK 8 (.int .u64 0)) true 1)).wr h.next H2.next (.cells (us s) true 1)).next=H2.next+1:=rfl
 refine Y11 ?_;refine FW.pu C3 ?_;clear C3;refine Y10 ?_;refine FW.pu C4 ?_;clear C4;refine Y4 ?_;refine aF (br (by exact rfl) (by exact rfl) YG (by(simp only[aD];assumption)) (by exact rfl) (by exact cI _)) ?_;refine Y2 ?_;generalize((H2.push (.cells (aK 8 (.int .u64 0)) true 1)).wr h.next H2.next (.cells (us s) true 1))=H3 at*;have ey3:=ey2.trans x3;have W3:=ey3.wf hr.wf;have hL3:=x3.log.trans hL2;have gq3:=(x3.old q (by omega)).trans gq2;have g123:=(x3.old _ (by omega)).trans g12;clear gq2 g12;cases hcan:bsB w (zsF l fs)with
 |false=>
  rw[if_pos rfl];refine Y12 ?_;exact dy hL3 rfl ⟨_,rfl, .nil⟩
 |true=>
 rw[if_neg (by simp)];have C5:=KE F.lk (h:={H3 with log:=[]}) (.of W3) (show Tab H3 from hg.ext ey3 h2) (by show 2<H3.next;omega) (q:=q) (by omega) hw gq3 ((so.ext ey3).log []) hol (λb o m c e=>by have:=hov b o m c e;omega);refine Y11 ?_;refine FW.gs0 C5 (λv h' m q=> ?_) (λz hz=>by omega) ?_
 ·obtain⟨o5,nv,q1,q2⟩:=q;exact⟨o5,nv,q1,q2.log m⟩
 rintro _ H4 n4 l4 _ w4 ⟨o4,nv,gq4,sn⟩;clear C5;have o4:∀z,z<H3.next->z≠q->H4.get z=H3.get z:=o4
 have W4:=w4 W3;have hL4:=l4.trans hL3;have g124:=(o4 _ (by omega) (by omega)).trans g123;have g144:=(o4 _ (by omega) (by omega)).trans g14;have sp4:PbS H4 (.slice a l.length c) l:=⟨bY.Qr sp.sl (by omega) λz hz=>(o4 z (by omega) (by omega)).trans (ey3.old z hz),sp.ok⟩;clear g123 g14 gq3;refine Y11 ?_
 refine cF (λm e ds h'=>∃(i:Nat) (v:Value),i<=os.length/\os.length-i=m/\e=[(10, .pointer (some ⟨q,0,none⟩)),(12, .pointer (some ⟨H1.next,0,none⟩)),(14, .pointer (some ⟨H2.next,0,none⟩)),(16,v),(51, .int .i64 (os.length:Nat)),(52, .int .i64 (i:Nat))]/\ds=[]/\Ext H4 h'∧Own H4.next h' 1 v i (fL ((os.take i).map λo=>iO (zsF l fs) s (ei w o))))
  ⟨0,_,Nat.zero_le _,rfl,rfl,rfl, .refl H4, .nil⟩ ?_
 rintro m' e ds G ⟨i,v,hi,rfl,rfl,rfl,xG,ow⟩;have WG:=xG.wf W4;have hLG:=xG.log.trans hL4;have nG:=xG.next
 by_cases hlt:i<os.length
 ·obtain⟨x,hx⟩:∃s,os[i]? =some s:=⟨os[i],List.getElem?_eq_getElem hlt⟩;have mlt:aq .lss (.int .i64 (i:Nat)) (.int .i64 (os.length:Nat))=some (.bool true):=fR (by omega);have g12G:=(xG.old _ (by omega)).trans g124;have g14G:=(xG.old _ (by omega)).trans g144;have gqG:=(xG.old _ (by omega)).trans gq4;have hnx:(os.map (ei w))[i]? =some (ei w x):=by rw[List.getElem?_map,hx];rfl
  have C6:=Ej F.cb.qu (h:={G with log:=[]}) (.of WG) hw gqG ((sp4.ext xG).log []) hl8 hf8 hbs ((sn.ext xG).log []) (by rw[List.length_map];omega) hnx (Nat.lt_of_le_of_lt (Et w x) (by decide));rw[hz]at C6;have hst:fL ((os.take (i+1)).map λo=>iO (zsF l fs) s (ei w o))=fL ((os.take i).map λo=>iO (zsF l fs) s (ei w o))++[.int .u8 ((iO (zsF l fs) s (ei w x):Nat):Int)]:=by
   rw[gN hx,List.map_append,←Km];rfl
  generalize fL ((os.take i).map λo=>iO (zsF l fs) s (ei w o))=cs at*;generalize iO (zsF l fs) s (ei w x)=jx at*;refine Y20 ?_;refine FW.pu C6 ?_;clear C6;refine aF (kr (by exact rfl) (by exact rfl)) ?_;refine DP (lo:=H4.next) (c1:=[.int .u8 (jx:Nat)]) (ow.ext ((Ext.refl G).push _)) (by omega) (by omega) (by omega) (by show H4.next<=G.next+1;omega) (by omega) (by exact rfl) (by exact rfl) (j8 (cs:=[.int .u8 (jx:Nat)]) (z3 G _) rfl rfl) rfl rfl ?_;intro v2 h9 o9 x9;refine yM ?_;refine dn ?_;refine Y7 ?_;refine⟨os.length-(i+1),by omega,i+1,v2,by omega,rfl,rfl,rfl,((xG.lx (Nat.le_refl _)).trans ((((Ext.refl G).push _).lx (by omega)).trans x9)).ext,?_⟩;rw[hst];exact o9
 ·obtain rfl:i=os.length:=by omega
  have mlt:aq .lss (.int .i64 (os.length:Nat)) (.int .i64 (os.length:Nat))=some (.bool false):=gj (by omega);rw[List.take_length]at ow;refine Y16 ?_;exact dy hLG rfl ⟨_,rfl,by dsimp only;rw[List.length_map];exact ow.low (by omega)⟩
theorem Ay(F:Fz T){h:Heap}(hr:Rdy h)(hg:Tab h)(h2:2<h.next){w:List Nat×List Nat}(hw:IsW w){pv:Value}{l:List Pb}(sp:PbS h pv l)(hl:l.length<1000000){v:Value}{fs:List Int}(sf:bY h 1 v fs.length (ints fs))(hfl:fs.length<1000000){ov:Value}{os:List (List Nat)}(so:SsQ h ov os)(hol:os.length<1000000):
 Al T 56 [wV w,pv,v,ov] h λv h'=>∃u,v= .tuple #[u, .int .i64 (nw w l fs os).2]/\Own h.next h' 1 u (nw w l fs os).1.length (fL (nw w l fs os).1):=by
 refine .of F.cb.fn.p F.f56 hr (λv h1 hv ⟨u,e,q⟩=>⟨u,e,by subst e;exact Own.MC hv q⟩) ?_;have hwc:cellsOf (wV w)=wL w:=by show(wL w).toArray.toList=_;simp
 obtain⟨a,c,rfl⟩:=sp.form;obtain⟨a2,c2,rfl⟩:=sf.form;obtain⟨a3,c3,rfl⟩:=so.sl.form;have x0:Ext h (h.push (.cells (cellsOf (wV w)) true 1)):=(Ext.refl h).push _;have g0:(h.push (.cells (cellsOf (wV w)) true 1)).get h.next=some (.cells (wL w) true 1):=by rw[hwc];exact z3 h _
 have n0:(h.push (.cells (cellsOf (wV w)) true 1)).next=h.next+1:=rfl
 refine Y5 ?_;generalize(h.push (.cells (cellsOf (wV w)) true 1))=H at*;have W:=x0.wf hr.wf;have hL:=x0.log.trans hr.log;have wk:=qq hw;have wkl:=lB hw;have C:=GV F (h:={H with log:=[]}) (.of W) (show Tab H from hg.ext x0 h2) (by show 2<H.next;omega) hw ((sp.ext x0).log []) hl ((sf.ext x0).log []) hfl ((so.ext x0).log []) hol;refine Y6 ?_;refine FW.al C (λv h' m ⟨u,e,q⟩=>⟨u,e,q.log m⟩) ?_;rintro _ H1 x1 ⟨u,rfl,q1⟩;have q1:Own H.next H1 1 u (nw w l fs os).1.length (fL (nw w l fs os).1):=q1
 refine Y6 ?_;exact dy (x1.log.trans hL) rfl ⟨_,rfl,q1.low (by omega)⟩
structure OX (T:Nat->Option af):Prop where
 ju:Fz T
 f64:T 64=some f64
 f157:T 157=some f157
 f232:T 232=some f232
theorem MB{l:List Nat}{i k:Nat}(h:l[i]? =some k):(fL l)[i]? =some (.int .u8 (k:Nat)):=by simp[fL,h]
theorem GS(w:List Nat×List Nat)(l:List Pb)(fs:List Int)(os:List (List Nat)):(nw w l fs os).1.length<=os.length:=by
 unfold nw;split
 ·exact Nat.zero_le _
 ·split
  ·exact Nat.zero_le _
  ·split
   ·exact Nat.zero_le _
   ·split
    ·exact Nat.zero_le _
    ·rw[List.length_map];exact Nat.le_refl _
structure Mt (T:Nat->Option af):Prop where
 p:aR T
 f52:T 52=some f52
 f53:T 53=some f53
 f112:T 112=some f112
 f113:T 113=some f113
 f115:T 115=some f115
 f118:T 118=some f118
 f140:T 140=some f140
 f208:T 208=some f208
theorem EW(F:Mt T){h:Heap}(hr:Rdy h){v:Value}{l:List Pb}(s:PbS h v l)(hn:l.length<1000000):Pu T 53 [v] h (.int .i64 (prE l)):=by
 refine .of F.p F.f53 hr rfl ?_;obtain⟨a,c,rfl⟩:=s.form;have hL:=hr.log;unfold prE;by_cases h8:8<l.length
 ·have m1:aq .gtr (.int .i64 (l.length:Nat)) (.int .i64 8)=some (.bool true):=kI (by omega);rw[if_pos h8];refine Y15 ?_;exact aA hL rfl rfl
 rw[if_neg h8];have m1:aq .gtr (.int .i64 (l.length:Nat)) (.int .i64 8)=some (.bool false):=jM (by omega);refine Y17 ?_
 refine cF (λm e ds h'=>∃i:Nat,i<=l.length/\l.length-i=m/\e=[(0, .slice a l.length c),(3, .int .i64 (i:Nat))]/\ds=[]/\h=h'∧(l.take i).any kL=false)
  ⟨0,Nat.zero_le _,rfl,rfl,rfl,rfl,rfl⟩ ?_
 rintro m e ds _ ⟨i,hi,rfl,rfl,rfl,rfl,hno⟩;by_cases hlt:i<l.length
 ·obtain⟨p,hpi⟩:∃r,l[i]? =some r:=⟨l[i],List.getElem?_eq_getElem hlt⟩;have hpm:=List.mem_of_getElem? hpi;have hps:=s.ok p hpm;obtain⟨b,o,c2,vs,own,t,hv,gl,hb,gat⟩:=s.elem hpi;cases hv;have k1:=gat.cells;have k2:=aO hps.len;have k3:=gat.cost;have mlt:aq .lss (.int .i64 (i:Nat)) (.int .i64 (l.length:Nat))=some (.bool true):=fR (by omega);have C:=Qk F.p F.f113 (h:={h with log:=[]}) (.of hr.wf) p.cost 1 1000;have hst:(l.take (i+1)).any kL=((l.take i).any kL||kL p):=by
   obtain⟨hlt2,rfl⟩:=List.getElem?_eq_some_iff.1 hpi;rw[List.take_succ_eq_append_getElem hlt2,List.any_append];simp
  have hyes:kL p=true->l.any kL=true:=λq=>List.any_eq_true.2 ⟨p,hpm,q⟩;have hbad:kL p=(decide (p.cells=s0)|| !inR p.cost 1 1000):=rfl;generalize inR p.cost 1 1000=b2 at*;by_cases hz:p.cells=s0
  ·rw[decide_eq_true hz,Bool.true_or]at hbad;rw[if_pos (hyes hbad)];refine Y19 ?_;refine aF (jb (b:=s0) (by exact rfl) (by exact rfl) hps.len rfl) ?_;rw[decide_eq_true hz];refine Y20 ?_;exact aA hL rfl rfl
  ·rw[decide_eq_false hz,Bool.false_or]at hbad;cases b2 with
   |false=>
    rw[if_pos (hyes hbad)];refine Y19 ?_;refine aF (jb (b:=s0) (by exact rfl) (by exact rfl) hps.len rfl) ?_;rw[decide_eq_false hz];refine Y13 ?_;refine FW.pu C ?_;refine Y14 ?_;exact aA hL rfl rfl
   |true=>
    refine Y19 ?_;refine aF (jb (b:=s0) (by exact rfl) (by exact rfl) hps.len rfl) ?_;rw[decide_eq_false hz];refine Y13 ?_;refine FW.pu C ?_;refine Y13 ?_;exact⟨l.length-(i+1),by omega,i+1,by omega,rfl,rfl,rfl,rfl,by rw[hst,hno,hbad];rfl⟩
 ·obtain rfl:i=l.length:=by omega
  have mlt:aq .lss (.int .i64 (l.length:Nat)) (.int .i64 (l.length:Nat))=some (.bool false):=gj (by omega);rw[List.take_length]at hno;rw[if_neg (by rw[hno];simp)];refine Y17 ?_;exact aA hL rfl rfl
theorem SH(fs:List Int)(n:Nat):(kC fs n).2=(decide (fs.length=n)&&sF fs):=by
 unfold kC;split
 ·rename_i h;rcases h with q|q
  ·rw[decide_eq_false (by omega),Bool.false_and]
  ·rw[q,Bool.and_false]
 ·rename_i h;cases q:sF fs with
  |false=>exact absurd (.inr q) h
  |true=>rw[Bool.and_true]
end Go.A.Pk
end
section
namespace Go.A.Pk
def cst(f:List Nat):List Int:=f.map λ(k:Nat)=>(k:Int)
theorem oQ(f:List Nat):(cst f).length=f.length:=by simp[cst]
theorem Ki(f:List Nat):(cst f).map Int.toNat=f:=by
 unfold cst;rw[List.map_map];induction f with
 |nil=>rfl
 |cons a f ih=>rw[List.map_cons,ih];rfl
theorem zJ(l:List Pb)(f:List Nat):zsF l (cst f)=l.zip f:=by unfold zsF;rw[Ki]
structure qB (t:List Nat) (l:List Pb) (f:List Nat):Prop where
 len:f.length=l.length
 at':∀(i:Nat) (p:Pb) (k:Nat),l[i]? =some p->f[i]? =some k->k=0∨k=eS t p
theorem J6(t:List Nat)(p:Pb):eS t p=1∨eS t p=2:=by unfold eS;split<;>simp
theorem DS{l:List Pb}{f:List Nat}{x:Pb×Nat}(h:x∈l.zip f):∃i:Nat,l[i]? =some x.1/\f[i]? =some x.2:=by
 obtain⟨i,hi⟩:=List.getElem?_of_mem h;exact⟨i,List.getElem?_zip_eq_some.1 hi⟩
theorem qB.hon{t:List Nat}{l:List Pb}{f:List Nat}(h:qB t l f):tV t (l.zip f):=λx hx=>by
 obtain⟨i,h1,h2⟩:=DS hx;exact h.at' i _ _ h1 h2
theorem qB.ok{t:List Nat}{l:List Pb}{f:List Nat}(h:qB t l f):sF (cst f)=true:=by
 unfold sF cst;rw[List.all_map,List.all_eq_true];intro k hk;obtain⟨i,hi⟩:=List.getElem?_of_mem hk;have hlt:=(List.getElem?_eq_some_iff.1 hi).1;have hl:=h.len;have:=h.at' i (l[i]'(by omega)) k (List.getElem?_eq_getElem (by omega)) hi;have:=J6 t (l[i]'(by omega));show decide (0<=((k:Nat):Int)/\((k:Nat):Int)<=2)=true;rw[decide_eq_true_eq];omega
theorem qB.fnd{t:List Nat}{l:List Pb}{f:List Nat}(h:qB t l f):(kC (cst f) l.length).2=true:=by
 rw[SH,h.ok,oQ,decide_eq_true h.len];rfl
theorem qB.set{t:List Nat}{l:List Pb}{f:List Nat}(h:qB t l f){i:Nat}{p:Pb}(hp:l[i]? =some p):qB t l (f.set i (eS t p)):=by
 refine⟨by rw[List.length_set];exact h.len,λj q k hq hk=> ?_⟩;rw[List.getElem?_set]at hk;split at hk
 ·rename_i e;subst e;split at hk
  ·rw[hp]at hq;cases hq;cases hk;exact .inr rfl
  ·cases hk
 ·exact h.at' j q k hq hk
section
variable {w:List Nat×List Nat} (hw:IsW w) {t:List Nat} (ht:IsS t) (h1:Sub w.1 t) (h2:Sub t w.2) {l:List Pb} (hl:∀p∈l,IsS p.cells)
include hw ht h1 h2 hl
theorem GI(hin:sIn w.1 w.2=true)(hpr:prE l=0){f:List Nat}(h:qB t l f):Gf w l (cst f)=(true,0):=by
 have hA:jJ w l []=0:=by rw[show jJ w l []=if sIn w.1 w.2=false then 1 else prE l by unfold jJ;split;rfl;rw[if_neg (by simp),if_neg (by simp)],hin,if_neg (by simp),hpr]
 unfold Gf;rw[hA,if_neg (by simp),h.fnd,if_neg (by simp),zJ,tP hw ht h1 h2 (ni hl) h.hon]
theorem GH(hin:sIn w.1 w.2=true)(hpr:prE l=0){f:List Nat}(h:qB t l f):F6 w l (cst f)=(bsS w.1 (l.zip f),0):=by
 have hA:jJ w l []=0:=by rw[show jJ w l []=if sIn w.1 w.2=false then 1 else prE l by unfold jJ;split;rfl;rw[if_neg (by simp),if_neg (by simp)],hin,if_neg (by simp),hpr]
 unfold F6;rw[hA,if_neg (by simp),h.fnd,if_neg (by simp),zJ,tP hw ht h1 h2 (ni hl) h.hon,if_neg (by simp)]
theorem Aq{f:List Nat}(h:qB t l f)(os:List (List Nat)):nw w l (cst f) os=if jJ w l os≠0 then([],jJ w l os)else if pP w=true then([],82)else(os.map λo=>iO (l.zip f) (bsS w.1 (l.zip f)) (ei w o),0):=by
 unfold nw;rw[h.fnd,if_neg (show¬true=false by simp),zJ,tP hw ht h1 h2 (ni hl) h.hon,if_neg (show¬true=false by simp)]
theorem FL{f:List Nat}(h:qB t l f){i:Nat}{p:Pb}(hp:l[i]? =some p){o:List Nat}(ho:IsS o)(h0:¬o=s0):
 ∃a b:Nat,iO (l.zip f) (bsS w.1 (l.zip f)) (ei w o)=a/\iO (l.zip (f.set i (eS t p))) (bsS w.1 (l.zip (f.set i (eS t p)))) (ei w o)=b∧
  ((a=1/\b=1/\pG t o=true)∨(a=2/\b=2/\pG t o=false)∨(a=3/\b=1/\pG t o=true)∨(a=3/\b=2/\pG t o=false)∨(a=3/\b=3)):=by
 have h':=h.set hp;have hz:=ni (f:=f) hl;have hz':=ni (f:=f.set i (eS t p)) hl;have hmem:∀x∈l.zip f,¬x.2=0->x∈l.zip (f.set i (eS t p)):=λx hx hk=>by
  obtain⟨j,q1,q2⟩:=DS hx;have hlt:=(List.getElem?_eq_some_iff.1 q2).1;refine List.mem_of_getElem? (i:=j) (List.getElem?_zip_eq_some.2 ⟨q1,?_⟩);rw[List.getElem?_set];by_cases e:i=j
  ·subst e;rw[if_pos rfl,if_pos hlt];have:=h.at' i _ _ q1 q2;rw[hp]at q1;cases q1;rcases this with q|q
   ·exact absurd q hk
   ·rw[q]
  ·rw[if_neg e];exact q2
 have b2:=lD hw.a hz';have hb:Sub (bsS w.1 (l.zip f)) (bsS w.1 (l.zip (f.set i (eS t p)))):=
  oO hw.a hz (tJ hw.a hz') λx hx hk=>xO hw.a hz' x (hmem x hx (by omega)) hk
 have hm:=GU hw hz hz' hb (λx hx hk=>hmem x hx (by omega)) (tP hw ht h1 h2 hz' h'.hon) (r:=ei w o) (λn hn=>nX hw hn);obtain⟨r1,r2⟩:=Ei hw ho h0 ht h1 h2 hz' h'.hon;refine⟨_,_,rfl,rfl,?_⟩;rcases sq (l.zip f) (bsS w.1 (l.zip f)) (ei w o)with q|q|q
 ·have e:=hm (by omega);exact .inl ⟨q,by omega,r1 (by omega)⟩
 ·have e:=hm (by omega);exact .inr (.inl ⟨q,by omega,r2 (by omega)⟩)
 ·rcases sq (l.zip (f.set i (eS t p))) (bsS w.1 (l.zip (f.set i (eS t p)))) (ei w o)with q'|q'|q'
  ·exact .inr (.inr (.inl ⟨q,q',r1 q'⟩))
  ·exact .inr (.inr (.inr (.inl ⟨q,q',r2 q'⟩)))
  ·exact .inr (.inr (.inr (.inr ⟨q,q'⟩)))
end
def fdL(t:List Nat):List Pb->List Bool->List Nat
 |[],_=>[]
 |p::l,ak=>(if ak.headD false then eS t p else 0)::fdL t l ak.tail
theorem oT(t:List Nat):∀(l:List Pb) (ak:List Bool),(fdL t l ak).length=l.length
 |[],_=>rfl
 |p::l,ak=>by unfold fdL;rw[List.length_cons,oT t l,List.length_cons]
theorem BG(t:List Nat):∀{l:List Pb} {ak:List Bool} {i:Nat} {p:Pb},l[i]? =some p->(fdL t l ak)[i]? =some (if ak.getD i false then eS t p else 0)
 |[],_,i,p,h=>by simp at h
 |q::l,ak,0,p,h=>by
  simp at h;subst h;unfold fdL;cases ak<;>rfl
 |q::l,ak,i+1,p,h=>by
  unfold fdL;rw[List.getElem?_cons_succ,BG t (by simpa using h)];cases ak<;>simp
theorem Ko(t:List Nat)(l:List Pb)(ak:List Bool):qB t l (fdL t l ak):=by
 refine⟨oT t l ak,λi p k hp hk=> ?_⟩;rw[BG t hp]at hk;cases hk;split
 ·exact .inr rfl
 ·exact .inl rfl
def pre(l:List Nat)(i:Nat):List Nat:=l.take i++List.replicate (l.length-i) 0
theorem DA{l:List Nat}{i:Nat}(h:i<=l.length):(pre l i).length=l.length:=by
 unfold pre;rw[List.length_append,List.length_take,List.length_replicate];omega
theorem A4(l:List Nat):pre l 0=List.replicate l.length 0:=by unfold pre;rw[List.take_zero,List.nil_append,Nat.sub_zero]
theorem Dw(l:List Nat):pre l l.length=l:=by unfold pre;rw[List.take_length,Nat.sub_self];simp
theorem wU{l:List Nat}{i:Nat}(h:i<l.length):pre l i=l.take i++0::List.replicate (l.length-(i+1)) 0:=by
 unfold pre;rw[show l.length-i=(l.length-(i+1))+1 by omega,List.replicate_succ]
theorem y9{l:List Nat}{i k:Nat}(h:l[i]? =some k):(pre l i).set i k=pre l (i+1):=by
 obtain⟨hlt,rfl⟩:=List.getElem?_eq_some_iff.1 h;have ht:(l.take i).length=i:=by rw[List.length_take];omega
 rw[wU hlt,List.set_append_right _ _ (by omega),ht,Nat.sub_self,List.set_cons_zero];unfold pre;rw[List.take_succ_eq_append_getElem hlt,List.append_assoc];rfl
theorem AZ{l:List Nat}{i:Nat}(h:l[i]? =some 0):pre l i=pre l (i+1):=by
 have hlt:=(List.getElem?_eq_some_iff.1 h).1;have e:=y9 h;have ht:(l.take i).length=i:=by rw[List.length_take];omega
 rw[←e,wU hlt,List.set_append_right _ _ (by omega),ht,Nat.sub_self,List.set_cons_zero]
theorem ints_set(f:List Nat)(i k:Nat):(ints (cst f)).set (0+i*1) (.int .i64 ((k:Nat):Int))=ints (cst (f.set i k)):=by
 rw[Nat.zero_add,Nat.mul_one];unfold ints cst;rw[List.map_set,List.map_set]
theorem sA:∀n,dU n [Value.int .i64 0]=ints (cst (List.replicate n 0))
 |0=>rfl
 |n+1=>by
  show dD [Value.int .i64 0] (dU n _)=_;rw[sA n,List.replicate_succ];rfl
end Go.A.Pk
end
