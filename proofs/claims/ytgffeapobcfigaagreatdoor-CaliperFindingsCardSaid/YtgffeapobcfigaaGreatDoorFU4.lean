/- Walks of functions, plain laws, the table. -/
import Derived.Test.YtgffeapobcfigaaGreatDoorFU3
import Derived.Test.YtgffeapobcfigaaGreatDoorFF
import Derived.Test.YtgffeapobcfigaaGreatDoorFU2
import Derived.Test.YtgffeapobcfigaaGreatDoorFD
set_option linter.all false
set_option maxHeartbeats 16000000
set_option maxRecDepth 100000
section
namespace Go.A.Pk
variable {T:Nat->Option af}
theorem tN{h:Heap}{v:Value}{n:Nat}{cs:List Value}(s:bA h 1 v n cs){i:Nat}{x:Value}(hi:cs[i]? =some x):
 ∃b o c vs own t,v= .slice (some ⟨b,o,none⟩) n c/\h.get b=some (.cells vs own t)/\b<h.next/\bP vs (o+i*1)=some x:=by
 have hlt:=(List.getElem?_eq_some_iff.1 hi).1;rcases bA.inv s with⟨_,_,h0,hc⟩|⟨b,o,cap,hs,s3,hc⟩
 ·rw[hc]at hlt;simp at hlt
 ·obtain⟨vs,own,t,g1,g2⟩:=s3.obj;have hl:=s3.len;refine⟨b,o,cap,vs,own,t,hs,g1,s3.lt,?_⟩;rw[bS,bn]at g2;rw[←g2,List.getElem?_take_of_lt (by omega),List.getElem?_drop]at hi;rw[cF,Nat.mul_one];exact hi
theorem ints_at{l:List Int}{i:Nat}{x:Int}(h:l[i]? =some x):(ints l)[i]? =some (.int .i64 x):=by simp[ints,h]
def nJ(l:List Nat):List Nat:=l++List.replicate (8-l.length) 0
theorem sj{l:List Nat}(h:l.length<=8):(nJ l).length=8:=by unfold nJ;rw[List.length_append,List.length_replicate];omega
theorem Kh{l:List Nat}{k:Nat}(h:l.length<8):(nJ l).set l.length k=nJ (l++[k]):=by
 unfold nJ;rw[List.set_append_right _ _ (Nat.le_refl _),Nat.sub_self];obtain⟨m,hm⟩:∃m,8-l.length=m+1:=⟨8-l.length-1,by omega⟩;rw[hm,List.replicate_succ,List.set_cons_zero,List.append_assoc,List.length_append,List.length_singleton,show 8-(l.length+1)=m by omega];rfl
def z8:List Nat:=[0,0,0,0,0,0,0,0]
def mB(l:List Int):Bool:=l.all λx=>inR x 0 2
def jq(l:List Int)(n:Nat):List Nat×Bool:=if n<l.length∨mB l=false then(z8,false)else(nJ (l.map Int.toNat),decide (l.length=n))
theorem PO(f:List Nat)(i k:Nat):(fL f).set (0+i*1) (.int .u8 (k:Nat))=fL (f.set i k):=by
 rw[Nat.zero_add,Nat.mul_one];unfold fL;rw[List.map_set]
structure Nv (T:Nat->Option af):Prop where
 p:aP T
 f106:T 106=some f106
 f142:T 142=some f142
theorem Lv(f:List Nat)(b:Bool):cA (.tuple #[fV f, .bool b])=true:=by
 have q:flat (fV f)=true:=by
  show cT (fL f).toArray.toList=true;rw[List.toList_toArray];induction f with
  |nil=>rfl
  |cons a f ih=>exact ih
 show gQ [fV f, .bool b]=true;simp only[gQ,q];rfl
theorem vE(F:Nv T){h:Heap}(hr:Rdy h){q:Nat}{w:List Nat×List Nat}(hw:IsW w){pv nv ov mv:Value}(gq:h.get q=some (.cells (quL w pv nv ov mv) true 1)){l:List Pb}(sp:PbS h pv l)(hl:l.length<=8){v:Value}{fs:List Int}(sf:bA h 1 v fs.length (ints fs))(hfl:fs.length<1000000):
 Pu T 142 [.pointer (some ⟨q,0,none⟩),v] h (.tuple #[fV (jq fs l.length).1, .bool (jq fs l.length).2]):=by
 refine .of F.p F.f142 hr (Lv _ _) ?_;obtain⟨a,c,rfl⟩:=sp.form;obtain⟨a2,c2,rfl⟩:=sf.form;have hqn:=hr.wf.hM gq;have kp:=GW hw (.slice a l.length c) nv ov mv;have x0:Ext h ((h.push (.cells (aD 8 (.int .u8 0)) true 1)).push (.cells (aD 8 (.int .u8 0)) true 1)):=((Ext.refl h).push _).push _;have g4:((h.push (.cells (aD 8 (.int .u8 0)) true 1)).push (.cells (aD 8 (.int .u8 0)) true 1)).get h.next=some (.cells (fL z8) true 1):=(z4 (Nat.lt_succ_self _)).trans (z3 h _)
 have g6:((h.push (.cells (aD 8 (.int .u8 0)) true 1)).push (.cells (aD 8 (.int .u8 0)) true 1)).get (h.next+1)=some (.cells (fL (nJ ((fs.take 0).map Int.toNat))) true 1):=z3 _ _;have n0:((h.push (.cells (aD 8 (.int .u8 0)) true 1)).push (.cells (aD 8 (.int .u8 0)) true 1)).next=h.next+2:=rfl
 refine Y7 ?_;have gqH:=(x0.old _ hqn).trans gq;have sfH:=sf.ext x0;generalize((h.push (.cells (aD 8 (.int .u8 0)) true 1)).push (.cells (aD 8 (.int .u8 0)) true 1))=H at*;have W:=x0.wf hr.wf;have hL:=x0.log.trans hr.log;have hnx:(h.push (.cells (aD 8 (.int .u8 0)) true 1)).next=h.next+1:=rfl
 rw[hnx];clear hnx;refine Y7 ?_
 refine bD (λm e ds h'=>∃i:Nat,i<=fs.length/\i<=l.length/\m=fs.length-i/\e=[(0, .pointer (some ⟨q,0,none⟩)),(1, .slice a2 fs.length c2),(4, .pointer (some ⟨h.next,0,none⟩)),(6, .pointer (some ⟨h.next+1,0,none⟩)),(9, .slice a2 fs.length c2),(10, .int .i64 (fs.length:Nat)),(11, .int .i64 (i:Nat))]/\ds=[]/\WF h'∧h'.log=[]/\h'.next=H.next/\(∀z,z≠h.next+1->h'.get z=H.get z)/\h'.get (h.next+1)=some (.cells (fL (nJ ((fs.take i).map Int.toNat))) true 1)/\mB (fs.take i)=true)
  ⟨0,Nat.zero_le _,Nat.zero_le _,rfl,rfl,rfl,W,hL,rfl,λ_ _=>rfl,g6,rfl⟩ ?_
 rintro m e ds G ⟨i,hi,hil,rfl,rfl,rfl,WG,hLG,nG,oG,g6G,hok⟩;have gqG:=(oG q (by omega)).trans gqH;have g4G:=(oG h.next (by omega)).trans g4;by_cases hlt:i<fs.length
 ·obtain⟨x,hx⟩:∃s,fs[i]? =some s:=⟨fs[i],List.getElem?_eq_getElem hlt⟩;obtain⟨b,o,c3,vs,own,tt,hv,gl,hbl,el⟩:=tN sf (ints_at hx);cases hv;have glG:=((oG b (by omega)).trans (x0.old b hbl)).trans gl;have mlt:ah .lss (.int .i64 (i:Nat)) (.int .i64 (fs.length:Nat))=some (.bool true):=dz (by omega);have kz8:bK 8 (bE 0 (fL z8))=fL z8:=rfl;have kz9:Nat.beq (bO (fL z8)) 8=true:=rfl;by_cases hil2:i<l.length
  ·have mge:ah .geq (.int .i64 (i:Nat)) (.int .i64 (l.length:Nat))=some (.bool false):=zM (by omega);have C:=N4 F.p F.f106 (h:={G with log:=[]}) (.of WG) x 0 2;have hst:mB (fs.take (i+1))=(mB (fs.take i)&&inR x 0 2):=by
    obtain⟨hlt2,rfl⟩:=List.getElem?_eq_some_iff.1 hx;unfold mB;rw[List.take_succ_eq_append_getElem hlt2,List.all_append];simp
   have hno:inR x 0 2=false->mB fs=false:=λq=>by
    unfold mB;rw[List.all_eq_false];exact⟨x,List.mem_of_getElem? hx,by rw[q];simp⟩
   cases hin:inR x 0 2 with
   |false=>
    rw[hin]at C;have e:jq fs l.length=(z8,false):=by unfold jq;rw[if_pos (.inr (hno hin))]
    rw[e];refine Y30 ?_;refine FW.pu C ?_;refine Y17 ?_;refine an ?_ (aX (own:=true) (s:=1) rfl ?_ kz8 kz9 (gi rfl rfl)) rfl
    ·rw[Heap.aq (by omega)];exact hLG
    ·exact YG
   |true=>
    rw[hin]at C hst;obtain⟨k,rfl⟩:∃k:Nat,x=(k:Int):=⟨x.toNat,by unfold inR at hin;have:=of_decide_eq_true hin;omega⟩;have hk2:k<=2:=by unfold inR at hin;have:=of_decide_eq_true hin;omega
    have kcv:fk .u8 (k:Int)=((k:Nat):Int):=by
     have:k=0∨k=1∨k=2:=by omega
     rcases this with rfl|rfl|rfl<;>rfl
    have htl:((fs.take i).map Int.toNat).length=i:=by rw[List.length_map,List.length_take];omega
    have hpl:(nJ ((fs.take i).map Int.toNat)).length=8:=sj (by omega);have hps:(nJ ((fs.take i).map Int.toNat)).set i k=nJ ((fs.take (i+1)).map Int.toNat):=by
     have:=Kh (l:=(fs.take i).map Int.toNat) (k:=k) (by omega);rw[htl]at this;rw[this];obtain⟨hlt2,e⟩:=List.getElem?_eq_some_iff.1 hx;rw[List.take_succ_eq_append_getElem hlt2,e,List.map_append];rfl
    have hset:=PO (nJ ((fs.take i).map Int.toNat)) i k;rw[hps]at hset;generalize nJ ((fs.take i).map Int.toNat)=f at*;have hfl2:(fL f).length=8:=by rw[jB];exact hpl
    refine Y30 ?_;refine FW.pu C ?_;clear C;refine Y10 ?_;refine aB (wv (by exact rfl) (by assumption)) ?_;refine aB (oF (by exact rfl) (by exact rfl) (by omega)) ?_;refine aB (B4 (by exact rfl) (by exact rfl) (by assumption) (by exact rfl) (by exact rfl) (by omega)) ?_;refine cN ?_;refine Y7 ?_;exact⟨fs.length-(i+1),by omega,i+1,by omega,by omega,rfl,rfl,rfl,WG.as (AS.wr h.next _ _ _),(Heap.aq (by omega)).trans hLG,nG,λz hz=>(z5 hz).trans (oG z hz),by rw[←hset];(simp(disch:=first|omega|(simp only[z1,z2];omega))only[z3,z4,z5,z6,z7,z1,z2,gq,g4,g6,gqH,gqG,g4G,gl,glG,g6G];done),by rw[hst,hok];rfl⟩
  ·have mge:ah .geq (.int .i64 (i:Nat)) (.int .i64 (l.length:Nat))=some (.bool true):=zk (by omega);have e:jq fs l.length=(z8,false):=by unfold jq;rw[if_pos (.inl (by omega))]
   rw[e];refine Y40 ?_;refine Y4 ?_;refine an ?_ (aX (own:=true) (s:=1) rfl ?_ kz8 kz9 (gi rfl rfl)) rfl
   ·rw[Heap.aq (by omega)];exact hLG
   ·exact YG
 ·obtain rfl:i=fs.length:=by omega
  have mlt:ah .lss (.int .i64 (fs.length:Nat)) (.int .i64 (fs.length:Nat))=some (.bool false):=dA (by omega);rw[List.take_length]at g6G hok;have e:jq fs l.length=(nJ (fs.map Int.toNat),decide (fs.length=l.length)):=by
   unfold jq;rw[if_neg (λq=>q.elim (by omega) (by rw[hok];simp))]
  rw[e];have hpl:(nJ (fs.map Int.toNat)).length=8:=sj (by rw[List.length_map];omega);generalize nJ (fs.map Int.toNat)=f at*;have kf8:=sV hpl;have kf9:=pT hpl;have kfl:(fL f).length=8:=by rw[jB];exact hpl
  have kfo:=rA f;have meq:ah .eql (.int .i64 (fs.length:Nat)) (.int .i64 (l.length:Nat))=some (.bool (decide (fs.length=l.length))):=tG rfl;refine Y14 ?_;refine aU rfl rfl rfl (by exact rfl) (by exact rfl) (by exact rfl) (vT (by exact rfl)) ?_;refine Y4 ?_;refine aU rfl rfl rfl (by exact rfl) (by exact rfl) (by exact rfl) (vT (by exact rfl)) ?_;refine qW ?_;refine iu rfl rfl rfl (by exact rfl) (by exact rfl) (by exact rfl) (by assumption) (by assumption) (by exact rfl) (by assumption) (by omega) (by omega) (by apply aM rfl (aC rfl (wU (by exact rfl) (by exact rfl) (by with_reducible assumption)) (by exact AB _)) rfl;apply aM rfl (aC rfl (vT (by exact rfl)) (by exact gJ _ _)) rfl;apply aM rfl (aC rfl (eT (by exact rfl) YG (by assumption)) (by exact fO _ _ _)) rfl;apply aM rfl (aC rfl (ef (by exact rfl)) (by exact cW _)) rfl;apply aM rfl (aC rfl (oS (by exact rfl)) (by exact cW _)) rfl;apply aM rfl (aC rfl (fR (by exact rfl)) (by exact cW _)) rfl;apply aM rfl (aC rfl (vT (by exact rfl)) (by exact gJ _ _)) rfl;apply aM rfl (aC rfl (fR (by exact rfl)) (by exact fO _ _ _)) rfl;apply aI rfl;exact bg) ?_;refine Y5 ?_;refine an ?_ (aX (own:=true) (s:=1) rfl ?_ kf8 kf9 (gi rfl rfl)) rfl
  ·rw[Heap.aq (by omega)];exact hLG
  ·exact YG
theorem sA{w:List Nat×List Nat}{l:List Pb}{os:List (List Nat)}(h:lB w l os=0):sIn w.1 w.2=true/\os.length<=6/\(∀s∈os,¬s=s0)/\l.length<=8:=by
 unfold lB at h;split at h
 ·cases h
 ·rename_i h1;split at h
  ·cases h
  ·rename_i h2;split at h
   ·cases h
   ·rename_i h3;refine⟨by simpa using h1,by omega,λs hs e=>h3 (List.any_eq_true.2 ⟨s,hs,decide_eq_true e⟩),?_⟩;unfold prE at h;split at h
    ·cases h
    ·omega
theorem zU{fs:List Int}{n:Nat}(hn:n<=8)(h:(jq fs n).2=true):(jq fs n).1=nJ (fs.map Int.toNat)/\(jq fs n).1.length=8/\fs.length=n/\mB fs=true:=by
 unfold jq at h⊢;split at h
 ·cases h
 ·rename_i hc;rw[if_neg hc];have e:=of_decide_eq_true h;exact⟨rfl,sj (by rw[List.length_map];omega),e,by cases q:mB fs with
   |true=>rfl
   |false=>exact absurd (.inr q) hc⟩
theorem vR{fs:List Int}{n:Nat}(hn:n<=8):(jq fs n).1.length=8:=by
 unfold jq;split
 ·rfl
 ·exact sj (by rw[List.length_map];omega)
def zsF(l:List Pb)(fs:List Int):Zs:=l.zip (fs.map Int.toNat)
theorem CO{l:List Pb}{fs:List Int}(h:fs.length=l.length):l.zip (nJ (fs.map Int.toNat))=zsF l fs:=by
 unfold zsF nJ;have e:(fs.map Int.toNat).length=l.length:=by rw[List.length_map];exact h
 generalize fs.map Int.toNat=f at*;generalize List.replicate (8-f.length) 0=r;clear h;induction l generalizing f with
 |nil=>cases f with
  |nil=>simp
  |cons a f=>simp at e
 |cons p l ih=>cases f with
  |nil=>simp at e
  |cons a f=>simp[ih f (by simpa using e)]
def ql(w:List Nat×List Nat)(l:List Pb)(fs:List Int):Bool×Int:=
 if lB w l []≠0 then(false,lB w l [])else if(jq fs l.length).2=false then(false,1)else(bsB w (zsF l fs),0)
def um(w:List Nat×List Nat)(l:List Pb)(fs:List Int):List Nat×Int:=
 if lB w l []≠0 then(s0,lB w l [])else if(jq fs l.length).2=false then(s0,1)else if bsB w (zsF l fs)=false then(s0,5)else(bsS w.1 (zsF l fs),0)
structure JL (T:Nat->Option af):Prop where
 ak:NU T
 qu:DK T
 fn:Nv T
 f54:T 54=some f54
 f55:T 55=some f55
theorem Ek{h:Heap}:SsQ h (.slice none 0 0) []:=⟨.nil,λs hs=>by cases hs⟩
theorem RD(F:JL T){h:Heap}(hr:Rdy h){w:List Nat×List Nat}(hw:IsW w){pv:Value}{l:List Pb}(sp:PbS h pv l)(hl:l.length<1000000){v:Value}{fs:List Int}(sf:bA h 1 v fs.length (ints fs))(hfl:fs.length<1000000):
 Pu T 54 [wV w,pv,v] h (.tuple #[.bool (ql w l fs).1, .int .i64 (ql w l fs).2]):=by
 refine .of F.fn.p F.f54 hr rfl ?_;have hwc:cellsOf (wV w)=wL w:=by show(wL w).toArray.toList=_;simp
 obtain⟨a,c,rfl⟩:=sp.form;obtain⟨a2,c2,rfl⟩:=sf.form;have x0:Ext h (h.push (.cells (cellsOf (wV w)) true 1)):=(Ext.refl h).push _;have g0:(h.push (.cells (cellsOf (wV w)) true 1)).get h.next=some (.cells (wL w) true 1):=by rw[hwc];exact z3 h _
 have n0:(h.push (.cells (cellsOf (wV w)) true 1)).next=h.next+1:=rfl
 refine Y5 ?_;generalize(h.push (.cells (cellsOf (wV w)) true 1))=H at*;have W:=x0.wf hr.wf;have hL:=x0.log.trans hr.log;have wk:=ig hw;have wkl:=eV hw;have C1:=vw F.ak (h:={H with log:=[]}) (.of W) hw ((sp.ext x0).log []) hl Ek (by decide);unfold ql;have hask:=sA (w:=w) (l:=l) (os:=[]);generalize lB w l []=er at*;refine Y4 ?_;refine FW.al C1 (λv h' m q=>q) ?_;clear C1;rintro _ H1 x1 (⟨he,rfl⟩|⟨rfl,q,m,rfl,hq1,hq2,hq3,gq,gm⟩)
 ·rw[if_pos he];have hL1:=x1.log.trans hL;have mn:ah .neq (.int .i64 er) (.int .i64 0)=some (.bool true):=j6 he;refine Y19 ?_;exact an hL1 rfl rfl
 ·rw[if_neg (λq=>q rfl)];have hl8:=(hask rfl).2.2.2;have ey1:=x0.trans x1;have W1:=ey1.wf hr.wf;have hL1:=x1.log.trans hL;have n1:=x1.next
  have C2:=vE F.fn (h:={H1 with log:=[]}) (.of W1) hw gq ((sp.ext ey1).log []) hl8 ((sf.ext ey1).log []) hfl;have hfn:=zU (fs:=fs) hl8;have hzp:=λe=>CO (l:=l) (fs:=fs) e;have mn:ah .neq (.int .i64 0) (.int .i64 0)=some (.bool false):=rfl;have hf8:=vR (fs:=fs) hl8;generalize jq fs l.length=fp at*;obtain⟨f,ok⟩:=fp;dsimp only at C2 hfn hf8⊢;have kf8:=sV hf8;have kf9:=pT hf8;have kfl:(fL f).length=8:=by rw[jB];exact hf8
  have kfo:=rA f;refine Y18 ?_;refine FW.pu C2 ?_;clear C2;cases ok with
  |false=>
   rw[if_pos rfl];refine Y4 ?_;refine aB (aO (by exact rfl) (by exact rfl) YG (by assumption) (by exact rfl) (by assumption)) ?_;refine Y14 ?_;refine an ?_ rfl rfl;rw[Heap.aq (by show h.next<=H1.next;omega)];exact hL1
  |true=>
   rw[if_neg (by simp)];obtain⟨hf1,_,hfe,_⟩:=hfn rfl;have hz:l.zip f=zsF l fs:=by rw[hf1];exact hzp hfe
   have x2:=dO (h:=H1) (base:=h.next) (by omega) (.cells (aD 8 (.int .u8 0)) true 1) (.cells (fL f) true 1);have g10:=fC (h:=H1) (base:=h.next) (aD 8 (.int .u8 0)) (fL f);have n2:((H1.push (.cells (aD 8 (.int .u8 0)) true 1)).wr h.next H1.next (.cells (fL f) true 1)).next=H1.next+1:=rfl
   refine Y4 ?_;refine aB (aO (by exact rfl) (by exact rfl) YG (by assumption) (by exact rfl) (by assumption)) ?_;refine Y2 ?_;generalize((H1.push (.cells (aD 8 (.int .u8 0)) true 1)).wr h.next H1.next (.cells (fL f) true 1))=H2 at*;have ey2:=ey1.trans x2;have W2:=ey2.wf hr.wf;have hL2:=x2.log.trans hL1;have gq2:=(x2.old q hq3).trans gq;have C3:=y8 F.qu (h:={H2 with log:=[]}) (.of W2) hw gq2 ((sp.ext ey2).log []) hl8 hf8;rw[hz]at C3;refine Y12 ?_;refine FW.pu C3 ?_;refine Y11 ?_;exact an hL2 rfl rfl
theorem Kn(F:JL T){h:Heap}(hr:Rdy h){w:List Nat×List Nat}(hw:IsW w){pv:Value}{l:List Pb}(sp:PbS h pv l)(hl:l.length<1000000){v:Value}{fs:List Int}(sf:bA h 1 v fs.length (ints fs))(hfl:fs.length<1000000):
 Pu T 55 [wV w,pv,v] h (.tuple #[sv (um w l fs).1, .int .i64 (um w l fs).2]):=by
 refine .of F.fn.p F.f55 hr (uu _ _) ?_;have hwc:cellsOf (wV w)=wL w:=by show(wL w).toArray.toList=_;simp
 obtain⟨a,c,rfl⟩:=sp.form;obtain⟨a2,c2,rfl⟩:=sf.form;have x0:Ext h ((h.push (.cells (cellsOf (wV w)) true 1)).push (.cells (aD 8 (.int .u64 0)) true 1)):=((Ext.refl h).push _).push _;have g0:((h.push (.cells (cellsOf (wV w)) true 1)).push (.cells (aD 8 (.int .u64 0)) true 1)).get h.next=some (.cells (wL w) true 1):=by rw[hwc];exact(z4 (Nat.lt_succ_self _)).trans (z3 h _)
 have g6:((h.push (.cells (cellsOf (wV w)) true 1)).push (.cells (aD 8 (.int .u64 0)) true 1)).get (h.next+1)=some (.cells (us s0) true 1):=z3 _ _;have n0:((h.push (.cells (cellsOf (wV w)) true 1)).push (.cells (aD 8 (.int .u64 0)) true 1)).next=h.next+2:=rfl
 have hnx:(h.push (.cells (cellsOf (wV w)) true 1)).next=h.next+1:=rfl
 refine Y5 ?_;generalize((h.push (.cells (cellsOf (wV w)) true 1)).push (.cells (aD 8 (.int .u64 0)) true 1))=H at*;rw[hnx];clear hnx;have W:=x0.wf hr.wf;have hL:=x0.log.trans hr.log;have wk:=ig hw;have wkl:=eV hw;have ks0:bK 8 (bE 0 (us s0))=us s0:=rfl;have ks1:Nat.beq (bO (us s0)) 8=true:=rfl;have C1:=vw F.ak (h:={H with log:=[]}) (.of W) hw ((sp.ext x0).log []) hl Ek (by decide);unfold um;have hask:=sA (w:=w) (l:=l) (os:=[]);generalize lB w l []=er at*;refine Y4 ?_;refine FW.al C1 (λv h' m q=>q) ?_;clear C1;rintro _ H1 x1 (⟨he,rfl⟩|⟨rfl,q,m,rfl,hq1,hq2,hq3,gq,gm⟩)
 ·rw[if_pos he];have hL1:=x1.log.trans hL;have g61:=(x1.old _ (by omega)).trans g6;have mn:ah .neq (.int .i64 er) (.int .i64 0)=some (.bool true):=j6 he;refine Y20 ?_;refine an ?_ (aX (own:=true) (s:=1) rfl ?_ ks0 ks1 (gi rfl rfl)) rfl
  ·rw[Heap.aq (by omega)];exact hL1
  ·exact YG
 ·rw[if_neg (λq=>q rfl)];have hl8:=(hask rfl).2.2.2;have ey1:=x0.trans x1;have W1:=ey1.wf hr.wf;have hL1:=x1.log.trans hL;have n1:=x1.next
  have g61:=(x1.old _ (by omega)).trans g6;have C2:=vE F.fn (h:={H1 with log:=[]}) (.of W1) hw gq ((sp.ext ey1).log []) hl8 ((sf.ext ey1).log []) hfl;have hfn:=zU (fs:=fs) hl8;have hzp:=λe=>CO (l:=l) (fs:=fs) e;have mn:ah .neq (.int .i64 0) (.int .i64 0)=some (.bool false):=rfl;have hf8:=vR (fs:=fs) hl8;generalize jq fs l.length=fp at*;obtain⟨f,ok⟩:=fp;dsimp only at C2 hfn hf8⊢;have kf8:=sV hf8;have kf9:=pT hf8;have kfl:(fL f).length=8:=by rw[jB];exact hf8
  have kfo:=rA f;refine Y18 ?_;refine FW.pu C2 ?_;clear C2;cases ok with
  |false=>
   rw[if_pos rfl];refine Y4 ?_;refine aB (aO (by exact rfl) (by exact rfl) YG (by assumption) (by exact rfl) (by assumption)) ?_;refine Y15 ?_;refine an ?_ (aX (own:=true) (s:=1) rfl ?_ ks0 ks1 (gi rfl rfl)) rfl
   ·rw[Heap.aq (by omega)];exact(Heap.aq (by show h.next<=H1.next;omega)).trans hL1
   ·exact YG
  |true=>
   rw[if_neg (by simp)];obtain⟨hf1,_,hfe,_⟩:=hfn rfl;have hz:l.zip f=zsF l fs:=by rw[hf1];exact hzp hfe
   have x2:=dO (h:=H1) (base:=h.next) (by omega) (.cells (aD 8 (.int .u8 0)) true 1) (.cells (fL f) true 1);have g10:=fC (h:=H1) (base:=h.next) (aD 8 (.int .u8 0)) (fL f);have n2:((H1.push (.cells (aD 8 (.int .u8 0)) true 1)).wr h.next H1.next (.cells (fL f) true 1)).next=H1.next+1:=rfl
   refine Y4 ?_;refine aB (aO (by exact rfl) (by exact rfl) YG (by assumption) (by exact rfl) (by assumption)) ?_;refine Y2 ?_;generalize((H1.push (.cells (aD 8 (.int .u8 0)) true 1)).wr h.next H1.next (.cells (fL f) true 1))=H2 at*;have ey2:=ey1.trans x2;have W2:=ey2.wf hr.wf;have hL2:=x2.log.trans hL1;have gq2:=(x2.old q hq3).trans gq;have g62:=(x2.old _ (by omega)).trans g61;have C3:=y8 F.qu (h:={H2 with log:=[]}) (.of W2) hw gq2 ((sp.ext ey2).log []) hl8 hf8;rw[hz]at C3;have hbs:IsS (bsS w.1 (zsF l fs)):=j0 hw.a (oD sp.ok);generalize bsS w.1 (zsF l fs)=s at*;have kb8:=aG hbs.len;have kb9:=aN hbs.len;have kbn:=hbs.len;clear g6 g61;cases hcan:bsB w (zsF l fs)with
   |false=>
    rw[hcan]at C3;rw[if_pos rfl];refine Y12 ?_;refine FW.pu C3 ?_;refine Y4 ?_;refine aB (aO (by exact rfl) (by exact rfl) YG (by(simp only[aA];assumption)) (by exact rfl) (by exact bB _)) ?_;refine Y15 ?_;refine an ?_ (aX (own:=true) (s:=1) rfl ?_ ks0 ks1 (gi rfl rfl)) rfl
    ·rw[Heap.aq (by omega)];exact(Heap.aq (by show h.next<=H2.next;omega)).trans hL2
    ·exact YG
   |true=>
    rw[hcan]at C3;rw[if_neg (by simp)];refine Y12 ?_;refine FW.pu C3 ?_;refine Y4 ?_;refine aB (aO (by exact rfl) (by exact rfl) YG (by(simp only[aA];assumption)) (by exact rfl) (by exact bB _)) ?_;refine Y11 ?_;refine aB (cC (by exact rfl) YG (by assumption) (by assumption)) ?_;refine aB (aO (by exact rfl) (by exact rfl) YG (by(simp only[aA];assumption)) (by exact rfl) (by exact bB _)) ?_;refine Y3 ?_;refine an ?_ (aX (own:=true) (s:=1) rfl ?_ kb9 kb8 (gi rfl rfl)) rfl
    ·rw[Heap.aq (by omega)];exact(Heap.aq (by show h.next<=H2.next;omega)).trans hL2
    ·exact YG
theorem Ow(hp:aP T)(hf:T 259=some f259){h:Heap}(hr:Rdy h){a b:List Nat}(ha:IsS a)(hb:IsS b):Pu T 259 [sv a,sv b] h (.int .i64 (cmpL a b)):=by
 refine .of hp hf hr rfl ?_;have x0:Ext h ((h.push (.cells (cellsOf (sv a)) true 1)).push (.cells (cellsOf (sv b)) true 1)):=((Ext.refl h).push _).push _;have g0:((h.push (.cells (cellsOf (sv a)) true 1)).push (.cells (cellsOf (sv b)) true 1)).get h.next=some (.cells (us a) true 1):=YG
 have g1:((h.push (.cells (cellsOf (sv a)) true 1)).push (.cells (cellsOf (sv b)) true 1)).get (h.next+1)=some (.cells (us b) true 1):=YG;refine Y5 ?_;generalize((h.push (.cells (cellsOf (sv a)) true 1)).push (.cells (cellsOf (sv b)) true 1))=H at*;have hL:=x0.log.trans hr.log;refine Y5 ?_
 refine bD (λm e ds h'=>∃j:Nat,j<=8/\8-j=m/\e=[(2, .pointer (some ⟨h.next,0,none⟩)),(3, .pointer (some ⟨h.next+1,0,none⟩)),(5, .int .i64 (j:Nat))]/\ds=[]/\H=h'∧a.take j=b.take j)
  ⟨0,Nat.zero_le _,rfl,rfl,rfl,rfl,rfl⟩ ?_
 rintro m e ds h' ⟨j,hj,rfl,rfl,rfl,rfl,heq⟩;by_cases hlt:j<8
 ·obtain⟨x,hx⟩:∃x,a[j]? =some x:=⟨a[j]'(by rw[ha.len];exact hlt),List.getElem?_eq_getElem _⟩;obtain⟨y,hy⟩:∃x,b[j]? =some x:=⟨b[j]'(by rw[hb.len];exact hlt),List.getElem?_eq_getElem _⟩;have e1:=iw hx;have e2:=iw hy;have m1:ah .lss (.int .i64 (j:Nat)) (.int .i64 8)=some (.bool true):=dz (by omega);by_cases hxy:x=y
  ·subst hxy;have m3:ah .lss (.int .u64 (x:Nat)) (.int .u64 (x:Nat))=some (.bool false):=dA (by omega);have m4:ah .gtr (.int .u64 (x:Nat)) (.int .u64 (x:Nat))=some (.bool false):=ij (by omega);refine Y40 ?_;refine Y7 ?_;refine⟨8-(j+1),by omega,j+1,by omega,rfl,rfl,rfl,rfl,?_⟩;rw[List.take_add_one,List.take_add_one,heq,hx,hy]
  ·have e4:=An heq hx hy hxy;rw[e4];unfold wY;by_cases hl:x<y
   ·rw[if_pos hl];have m3:ah .lss (.int .u64 (x:Nat)) (.int .u64 (y:Nat))=some (.bool true):=dz (by omega);refine Y34 ?_;exact an hL rfl rfl
   ·rw[if_neg hl,if_pos (by omega)];have m3:ah .lss (.int .u64 (x:Nat)) (.int .u64 (y:Nat))=some (.bool false):=dA (by omega);have m4:ah .gtr (.int .u64 (x:Nat)) (.int .u64 (y:Nat))=some (.bool true):=ic (by omega);refine Y40 ?_;refine Y8 ?_;exact an hL rfl rfl
 ·obtain rfl:j=8:=by omega
  have hab:a=b:=by
   rw[List.take_of_length_le (by rw[ha.len];omega),List.take_of_length_le (by rw[hb.len];omega)]at heq;exact heq
  rw[hab,mR];have m1:ah .lss (.int .i64 ((8:Nat):Int)) (.int .i64 8)=some (.bool false):=rfl;refine Y15 ?_;exact an hL rfl rfl
def atS(x:List Nat)(l:List (List Nat)):Nat->Nat
 |0=>0
 |k+1=>if cmpL x (l.getD k [])<0 then atS x l k else k+1
theorem uL(x:List Nat)(l:List (List Nat)):∀k,atS x l k<=k
 |0=>Nat.le_refl _
 |k+1=>by
  unfold atS;split
  ·exact Nat.le_succ_of_le (uL x l k)
  ·exact Nat.le_refl _
def EV(l:List (List Nat))(x:List Nat)(k:Nat):Bool:=decide (0<k)&&decide (l.getD (k-1) []=x)
def Af(l:List (List Nat))(x:List Nat)(k:Nat):List (List Nat):=if EV l x k=true then l else l.take k++[x]++l.drop k
def nL(l:List (List Nat))(x:List Nat):List (List Nat):=Af l x (atS x l l.length)
theorem AZ(x:List Nat)(l:List (List Nat)):∀k,k<=l.length->(∀i,atS x l k<=i->i<k->cmpL x (l.getD i [])<0)/\(0<atS x l k->¬cmpL x (l.getD (atS x l k-1) [])<0)
 |0,_=>⟨λi _ h=>by omega,λh=>by unfold atS at h;omega⟩
 |k+1,hk=>by
  obtain⟨h1,h2⟩:=AZ x l k (by omega);unfold atS;split
  ·rename_i hc;refine⟨λi hi hl=> ?_,h2⟩;rcases Nat.lt_or_ge i k with q|q
   ·exact h1 i hi q
   ·obtain rfl:i=k:=by omega
    exact hc
  ·rename_i hc;refine⟨λi hi hl=>by omega,λ_=> ?_⟩;rw[Nat.add_sub_cancel];exact hc
theorem nX{l:List (List Nat)}{i:Nat}(h:i<l.length):l.getD i []∈l:=by
 rw[List.getD_eq_getElem?_getD,List.getElem?_eq_getElem h];exact List.getElem_mem h
theorem vN{l:List (List Nat)}{x p:List Nat}(h:p∈nL l x):p=x∨p∈l:=by
 unfold nL Af at h;split at h
 ·exact .inr h
 ·rcases List.mem_append.1 h with h|h
  ·rcases List.mem_append.1 h with h|h
   ·exact .inr (List.mem_of_mem_take h)
   ·exact .inl (List.mem_singleton.1 h)
  ·exact .inr (List.mem_of_mem_drop h)
theorem vg{l:List (List Nat)}{x p:List Nat}(h:p=x∨p∈l):p∈nL l x:=by
 unfold nL Af;split
 ·rename_i hc;unfold EV at hc;rw[Bool.and_eq_true,decide_eq_true_eq,decide_eq_true_eq]at hc;rcases h with rfl|h
  ·have hm:=nX (l:=l) (i:=atS p l l.length-1) (by have:=uL p l l.length;omega);rw[hc.2]at hm;exact hm
  ·exact h
 ·rcases h with rfl|h
  ·exact List.mem_append_left _ (List.mem_append_right _ (List.mem_singleton.2 rfl))
  ·rw[←List.take_append_drop (atS x l l.length) l]at h;rcases List.mem_append.1 h with h|h
   ·exact List.mem_append_left _ (List.mem_append_left _ h)
   ·exact List.mem_append_right _ h
theorem B1{l:List (List Nat)}{x p:List Nat}:p∈nL l x↔p=x∨p∈l:=⟨vN,vg⟩
theorem FN{a b c:List Nat}(h1:SLt a b)(h2:SLt b c)(ha:IsS a)(hb:IsS b)(hc:IsS c):SLt a c:=by
 have hp:[a,b,c].Pairwise SLt∨True:= .inr trivial;unfold SLt at*;exact nr (ha.len.trans hb.len.symm) (hb.len.trans hc.len.symm) h1 h2
theorem EE{l:List (List Nat)}{x:List Nat}(hl:∀s∈l,IsS s)(hx:IsS x)(hp:l.Pairwise SLt):(nL l x).Pairwise SLt:=by
 have hk:=uL x l l.length;obtain⟨s1,s2⟩:=AZ x l l.length (Nat.le_refl _);unfold nL Af;split
 ·exact hp
 ·rename_i hc;generalize atS x l l.length=k at*;have hlow:∀i,i<k->SLt (l.getD i []) x:=by
   intro i hi;have hk0:0<k:=by omega
   have hlt:=s2 hk0;have hm:=hl _ (nX (l:=l) (i:=k-1) (by omega));have hne:l.getD (k-1) []≠x:=by
    intro e;apply hc;unfold EV;rw[decide_eq_true hk0,decide_eq_true e];rfl
   have a1:=iH (hx.len.trans hm.len.symm);have hlast:SLt (l.getD (k-1) []) x:=by
    unfold SLt;rcases Int.lt_or_le (cmpL (l.getD (k-1) []) x) 0 with q|q
    ·exact q
    ·exact absurd (jy (hm.len.trans hx.len.symm) (by omega)) hne
   rcases Nat.lt_or_ge i (k-1)with q|q
   ·have e1:l.getD i []=l[i]'(by omega):=by rw[List.getD_eq_getElem?_getD,List.getElem?_eq_getElem];rfl
    have e2:l.getD (k-1) []=l[k-1]'(by omega):=by rw[List.getD_eq_getElem?_getD,List.getElem?_eq_getElem];rfl
    have h3:=List.pairwise_iff_getElem.1 hp i (k-1) (by omega) (by omega) q;rw[←e1,←e2]at h3;exact FN h3 hlast (hl _ (nX (by omega))) hm hx
   ·obtain rfl:i=k-1:=by omega
    exact hlast
  have ht:=hp.take (i:=k);have hd:=hp.drop (i:=k);have htd:∀a∈l.take k,∀b∈l.drop k,SLt a b:=by
   rw[←List.take_append_drop k l]at hp;exact(List.pairwise_append.1 hp).2.2
  rw[List.append_assoc];refine List.pairwise_append.2 ⟨ht,List.pairwise_cons.2 ⟨λb hb=> ?_,hd⟩,λa ha b hb=> ?_⟩
  ·change b∈l.drop k at hb;obtain⟨i,hi,rfl⟩:=List.getElem_of_mem hb;rw[List.length_drop]at hi;rw[List.getElem_drop];have:=s1 (k+i) (by omega) (by omega);rw[List.getD_eq_getElem?_getD,List.getElem?_eq_getElem (by omega)]at this;exact this
  ·change b∈x::l.drop k at hb;have hax:SLt a x:=by
    obtain⟨i,hi,rfl⟩:=List.getElem_of_mem ha;rw[List.length_take]at hi;rw[List.getElem_take];have:=hlow i (by omega);rw[List.getD_eq_getElem?_getD,List.getElem?_eq_getElem (by omega)]at this;exact this
   rcases List.mem_cons.1 hb with rfl|hb
   ·exact hax
   ·exact htd a ha b hb
theorem zj{l:List (List Nat)}{x:List Nat}(hl:∀s∈l,IsS s)(hx:IsS x):∀s∈nL l x,IsS s:=λs hs=>by
 rcases vN hs with rfl|hs
 ·exact hx
 ·exact hl s hs
theorem Bw(l:List (List Nat))(x:List Nat):(nL l x).length<=l.length+1:=by
 have:=uL x l l.length;unfold nL Af;split
 ·omega
 ·simp only[List.length_append,List.length_take,List.length_drop,List.length_singleton];omega
theorem Own.EH{lo lo' sz n:Nat}{h h':Heap}{v:Value}{cs:List Value}(hv:cA v=true)(q:Own lo h sz v n cs):Own lo' h' sz v n cs:=by
 cases q with
 |nil=>exact .nil
 |full=>cases hv
theorem Own.PM{lo:Nat}{h:Heap}{v:Value}{l:List (List Nat)}(hl:∀s∈l,IsS s)(s:Own lo h 8 v l.length (ssL l)){k:Nat}(hk:k<l.length):
 ∃q,v= .slice (some ⟨q,0,none⟩) l.length UNK/\q<h.next/\h.get q=some (.cells (ssL l) true 8)/\bK 8 (bE (0+k*8) (ssL l))=us (l.getD k []):=by
 have e:bK 8 (bE (0+k*8) (ssL l))=us (l.getD k []):=by
  have:=nS (t:=[]) hl (List.getElem?_eq_getElem hk);rw[List.append_nil]at this;rw[this,List.getD_eq_getElem?_getD,List.getElem?_eq_getElem hk];rfl
 generalize hn:l.length=n at s;generalize hc:ssL l=cs at s;cases s with
 |nil=>omega
 |full h1 h2 h3 h4 h5=>subst hn;subst hc;exact⟨_,rfl,h2,h3,e⟩
theorem Cd:∀l:List (List Nat),dP (ssL l)=true
 |[]=>rfl
 |s::l=>by rw[Ba];exact kY (bB s) (Cd l)
structure Nx (T:Nat->Option af):Prop where
 p:aP T
 f200:T 200=some f200
 f259:T 259=some f259
theorem Cu(F:Nx T){h:Heap}(hr:Rdy h){lo:Nat}(hlo:lo<=h.next){v:Value}{l:List (List Nat)}(hl:∀s∈l,IsS s)(ow:Own lo h 8 v l.length (ssL l))(hn:l.length<900000){x:List Nat}(hx:IsS x):
 Al T 200 [v,sv x] h λv' h'=>Own lo h' 8 v' (nL l x).length (ssL (nL l x)):=by
 refine .of F.p F.f200 hr (λv h1 hv q=>Own.EH hv q) ?_;obtain⟨a,c,rfl⟩:∃a c,v= .slice a l.length c:=(ow.slice (by omega)).form;have x0:Ext h (h.push (.cells (cellsOf (sv x)) true 1)):=(Ext.refl h).push _;have g0:(h.push (.cells (cellsOf (sv x)) true 1)).get h.next=some (.cells (us x) true 1):=YG
 have n0:(h.push (.cells (cellsOf (sv x)) true 1)).next=h.next+1:=rfl
 have kx8:=aG hx.len;have kx9:=aN hx.len;refine Y4 ?_;generalize(h.push (.cells (cellsOf (sv x)) true 1))=H at*;have W:=x0.wf hr.wf;have hL:=x0.log.trans hr.log;have ow1:=ow.ext x0;have hat0:=uL x l l.length;unfold nL;refine Y5 ?_;refine EA (E:=[(0, .slice a l.length c),(3, .pointer (some ⟨h.next,0,none⟩)),(5, .int .i64 ((atS x l l.length:Nat):Int)),(20, .bool false)]) (H:=H) ?_ ?_
 ·refine pg ?_
  refine bD (λm e ds h'=>∃k:Nat,k<=l.length/\atS x l k=atS x l l.length/\k=m/\e=[(0, .slice a l.length c),(3, .pointer (some ⟨h.next,0,none⟩)),(5, .int .i64 (k:Nat))]/\ds=[]/\H=h')
   ⟨l.length,Nat.le_refl _,rfl,rfl,rfl,rfl,rfl⟩ ?_
  rintro m e ds h' ⟨k,hk,hat,rfl,rfl,rfl,rfl⟩;cases k with
  |zero=>
   have hat:0=atS x l l.length:=hat;rw[←hat];refine Y4 ?_;refine aU rfl rfl rfl (by exact rfl) (by exact rfl) (by exact rfl) (wU (by exact rfl) (by exact rfl) (by exact ij (by omega))) ?_;refine Y18 ?_;exact⟨rfl,rfl,rfl,rfl⟩
  |succ k=>
   have hys:=hl _ (nX (l:=l) (i:=k) (by omega));obtain⟨q,hv,hq1,hq2,hq3⟩:=Own.PM hl ow1 (k:=k) (by omega);cases hv;have ky:=aG hys.len;have m0:ah .gtr (.int .i64 ((k+1:Nat):Int)) (.int .i64 0)=some (.bool true):=ic (by omega);have ms:ah .sub (.int .i64 ((k+1:Nat):Int)) (.int .i64 1)=some (.int .i64 ((k:Nat):Int)):=lP (by rw[bZ (by omega) (by omega)];omega);have hstep:atS x l (k+1)=if cmpL x (l.getD k [])<0 then atS x l k else k+1:=rfl
   have C:=Ow F.p F.f259 (h:={H with log:=[]}) (.of W) hx hys;generalize l.getD k []=y at*;by_cases hc:cmpL x y<0
   ·rw[if_pos hc]at hstep;have m3:ah .lss (.int .i64 (cmpL x y)) (.int .i64 0)=some (.bool true):=dz hc;refine Y13 ?_;refine FW.puD C (by(repeat apply aI rfl);exact bg) ?_;clear C;refine Y13 ?_;refine cN ?_;refine Y3 ?_;exact⟨k,by omega,k,by omega,hstep▸hat,rfl,rfl,rfl,rfl⟩
   ·rw[if_neg hc]at hstep;have m3:ah .lss (.int .i64 (cmpL x y)) (.int .i64 0)=some (.bool false):=dA (by omega);have hat2:k+1=atS x l l.length:=hstep▸hat;rw[←hat2];refine Y13 ?_;refine FW.puD C (by(repeat apply aI rfl);exact bg) ?_;clear C;refine Y10 ?_;exact⟨rfl,rfl,rfl,rfl⟩
 generalize atS x l l.length=k at*;cases hq:EV l x k with
 |true=>
  have hpe:Af l x k=l:=by unfold Af;rw[if_pos hq]
  rw[hpe];unfold EV at hq;rw[Bool.and_eq_true,decide_eq_true_eq,decide_eq_true_eq]at hq;obtain⟨hq0,hqx⟩:=hq;obtain⟨k',rfl⟩:∃k',k=k'+1:=⟨k-1,by omega⟩;rw[Nat.add_sub_cancel]at hqx;obtain⟨q,hv,hq1,hq2,hq3⟩:=Own.PM hl ow1 (k:=k') (by omega);cases hv;rw[hqx]at hq3;have m0:ah .gtr (.int .i64 ((k'+1:Nat):Int)) (.int .i64 0)=some (.bool true):=ic (by omega);have ms:ah .sub (.int .i64 ((k'+1:Nat):Int)) (.int .i64 1)=some (.int .i64 ((k':Nat):Int)):=lP (by rw[bZ (by omega) (by omega)];omega);refine Y12 ?_;refine aU rfl rfl rfl (by exact rfl) (by exact rfl) (by exact rfl) (iI (b:=x) (by exact rfl) (by exact rfl) hx.len hx.len) ?_;rw[decide_eq_true (rfl:x=x)];refine Y11 ?_;exact cK hL rfl ow1
 |false=>
  have hpe:Af l x k=l.take k++[x]++l.drop k:=by unfold Af;rw[hq];rfl
  rw[hpe];refine EA (E:=[(0, .slice a l.length c),(3, .pointer (some ⟨h.next,0,none⟩)),(5, .int .i64 (k:Nat)),(33, .bool false)]) (H:=H) ?_ ?_
  ·cases k with
   |zero=>
    have m0:ah .gtr (.int .i64 ((0:Nat):Int)) (.int .i64 0)=some (.bool false):=rfl;refine Y18 ?_;exact⟨rfl,rfl,rfl,rfl⟩
   |succ k'=>
    have hys:=hl _ (nX (l:=l) (i:=k') (by omega));have ky:=aG hys.len;have hne:¬l.getD k' []=x:=by
     intro e;unfold EV at hq;rw[Nat.add_sub_cancel,decide_eq_true e,decide_eq_true (Nat.succ_pos k')]at hq;cases hq
    obtain⟨q,hv,hq1,hq2,hq3⟩:=Own.PM hl ow1 (k:=k') (by omega);cases hv;generalize l.getD k' []=y at*;have m0:ah .gtr (.int .i64 ((k'+1:Nat):Int)) (.int .i64 0)=some (.bool true):=ic (by omega);have ms:ah .sub (.int .i64 ((k'+1:Nat):Int)) (.int .i64 1)=some (.int .i64 ((k':Nat):Int)):=lP (by rw[bZ (by omega) (by omega)];omega);refine Y11 ?_;refine aU rfl rfl rfl (by exact rfl) (by exact rfl) (by exact rfl) (iI (b:=x) (by exact rfl) (by exact rfl) hys.len hx.len) ?_;rw[decide_eq_false hne];refine Y6 ?_;exact⟨rfl,rfl,rfl,rfl⟩
  have x7:Ext H (H.push (.cells [] true 8)):=(Ext.refl H).push _;have g7b:(H.push (.cells [] true 8)).get H.next=some (.cells [] true 8):=z3 _ _
  have n7:(H.push (.cells [] true 8)).next=H.next+1:=rfl
  have g07:=(x7.old _ (by omega)).trans g0;have ow7:=ow1.ext x7;have hl2:(l.take k++[x]++l.drop k).length=k+1+(l.length-k):=by simp only[List.length_append,List.length_take,List.length_drop,List.length_singleton];omega
  have hs1x:ssL [x]=us x:=by simp[ssL]
  rw[hl2,nq,nq,hs1x];refine y4 ?_;refine aB (iy (by exact rfl) (by exact rfl)) ?_;refine Y2 ?_;refine Jn (i:=k) ow7 hat0 (by exact rfl) (by exact rfl) ?_;intro u1 hs1;rw[uS hl]at hs1;skip;refine Ga (lo:=H.next) (b:=H.next) g7b (Nat.lt_succ_self _) (Nat.le_refl _) (by omega) (by omega) (by exact rfl) (by exact rfl) hs1 (by rw[eL (λr hr=>hl r (List.mem_of_mem_take hr)),List.length_take,Nat.min_eq_left hat0]) ?_;intro v1 h8 o8 x8;have x8:Ext (H.push (.cells [] true 8)) h8:=x8;have ey8:=x7.trans x8;have g08:=(x8.old _ (by omega)).trans g07;have n8:=x8.next
  clear g7b hs1 ow7;refine Y5 ?_;refine aB (iy (Ae hx (by exact rfl)) (show bO (aD 8 (Value.int IntKind.u64 0))=8 from rfl)) ?_;skip;refine J1 (lo:=H.next) (c1:=us x) (o8.ext ((Ext.refl h8).push _)) (by omega) (by omega) (by omega) (by show H.next<=h8.next+1;omega) (by omega) (by exact rfl) (by exact rfl) (fF (cs:=us x) (z3 h8 _) kx9 (by rw[aA,hx.len])) (by rw[aA,hx.len]) (bB _) ?_;intro v2 h9 o9 x9;have n9:h8.next+1<=h9.next:=x9.next
  have ow9:Own lo h9 8 (.slice a l.length c) l.length (ssL l):=ow1.keep (by omega) λz _ hz=>(x9.old z hz).trans ((z4 (by omega)).trans (ey8.old z hz));refine Y6 ?_;refine Jr (i:=k) ow9 hat0 (by exact rfl) (by exact rfl) ?_;intro u3 h10 hs3 x10;have n10:=x10.next
  rw[AP hl]at hs3;skip;refine MN (lo:=H.next) (o9.ext x10) (by omega) (by omega) (by omega) (by omega) (by omega) (by omega) (by exact rfl) (by exact rfl) hs3 (by rw[eL (λr hr=>hl r (List.mem_of_mem_drop hr)),List.length_drop]) (Cd _) ?_;intro v4 h11 o11 x11;refine Y3 ?_;exact cK (x11.log.trans (x10.log.trans (x9.log.trans (x8.log.trans hL)))) rfl (o11.low (by omega))
structure HD (T:Nat->Option af):Prop where
 rf:NZ T
 pt:Nx T
 f258:T 258=some f258
 f316:T 316=some f316
def jV(s:List Nat):List Nat:=gp (shC (-(bL s).1.lo.x) (-(bL s).1.lo.y) (-(bL s).1.lo.z)) s
theorem oy(s:List Nat):Rng (bL s).1 (-(bL s).1.lo.x) (-(bL s).1.lo.y) (-(bL s).1.lo.z):=by
 obtain⟨⟨l1,l2,l3⟩,⟨h1,h2,h3⟩⟩:=gK s;exact⟨by omega,by omega,by omega⟩
theorem wD(s:List Nat):IsS (jV s):=kQ (oy s)
theorem Mh(F:HD T){h:Heap}(hr:Rdy h){s:List Nat}(hs:IsS s)(h0:¬s=s0):Pu T 316 [sv s] h (sv (jV s)):=by
 have hp:=F.pt.p;refine .of hp F.f316 hr (nE _) ?_;have k8:=aG hs.len;have k9:=aN hs.len;have x0:Ext h ((h.push (.cells (cellsOf (sv s)) true 1)).push (.cells (aD 8 (.int .u64 0)) true 1)):=((Ext.refl h).push _).push _;have g0:((h.push (.cells (cellsOf (sv s)) true 1)).push (.cells (aD 8 (.int .u64 0)) true 1)).get h.next=some (.cells (us s) true 1):=YG
 have g1:((h.push (.cells (cellsOf (sv s)) true 1)).push (.cells (aD 8 (.int .u64 0)) true 1)).get (h.next+1)=some (.cells (us s0) true 1):=YG;have n0:((h.push (.cells (cellsOf (sv s)) true 1)).push (.cells (aD 8 (.int .u64 0)) true 1)).next=h.next+2:=rfl
 refine Y4 ?_;generalize((h.push (.cells (cellsOf (sv s)) true 1)).push (.cells (aD 8 (.int .u64 0)) true 1))=H at*;have W:=x0.wf hr.wf;have hL:=x0.log.trans hr.log;have hbp:=gK s;have hok:=wD s;have hrg:=oy s;have hall:∀c∈aR s 512,inG (shC (-(bL s).1.lo.x) (-(bL s).1.lo.y) (-(bL s).1.lo.z) c)=true:=λc hc=>hrg.all (dx.1 hc);have D2:=yQ F.rf.tr F.rf.f138 (h:={H with log:=[]}) (.of W) hs;have hb2:(bL s).2=true:=by unfold bL;rw[if_neg h0]
 have hce:jV s=gp (shC (-(bL s).1.lo.x) (-(bL s).1.lo.y) (-(bL s).1.lo.z)) s:=rfl;generalize jV s=o at*;generalize bL s=bb at*;obtain⟨bp,some'⟩:=bb;dsimp only at hbp hrg hall hb2 hce;subst hb2;unfold Ff at D2;dsimp only at D2;have px1:=hbp.lo.x;have py1:=hbp.lo.y;have pz1:=hbp.lo.z;have nx:=Dn px1;have ny:=Dn py1;have nz:=Dn pz1;refine dI (E0:=[(1, .pointer (some ⟨h.next,0,none⟩)),(2, .pointer (some ⟨h.next+1,0,none⟩)),(3, .pointer (some ⟨H.next,0,none⟩)),(4, .bool true)]) (P:=λh'=>Ext H h'∧h'.next=H.next+1/\h'.get H.next=some (.cells (bxL bp) true 1)) ?_ ?_
 ·refine Y3 ?_;refine FW.pu D2 ?_;refine Y4 ?_;refine aB (jm (by exact rfl) (by exact rfl) YG (by exact rfl) (by exact rfl)) ?_;refine yM ?_;refine cN ?_;refine y1 ?_;exact⟨rfl,rfl,rfl,dO (by omega) _ _,rfl,fC _ _⟩
 clear D2;rintro H1 ⟨x1,n1,q1⟩;have W1:=x1.wf W;have hL1:=x1.log.trans hL;have g01:=(x1.old _ (by omega)).trans g0;have g11:=(x1.old _ (by omega)).trans g1;clear g0 g1;have D3:=Ck F.rf.tr F.rf.f225 (h:={H1 with log:=[]}) (.of W1) hs (x:= -bp.lo.x) (y:= -bp.lo.y) (z:= -bp.lo.z) ⟨by omega,by omega⟩ ⟨by omega,by omega⟩ ⟨by omega,by omega⟩ hall;rw[←hce]at D3;have ko8:=aG hok.len;have ko9:=aN hok.len;have kol:=hok.len;refine Y8 ?_;refine dI (E0:=[(2, .pointer (some ⟨h.next+1,0,none⟩)),(5, .pointer (some ⟨H1.next,0,none⟩))]) (P:=λh'=>Ext H1 h'∧h'.next=H1.next+1/\h'.get H1.next=some (.cells (us o) true 1)) ?_ ?_
 ·refine Y5 ?_;refine aB (Kr (by exact rfl) (by assumption)) ?_;refine Y3 ?_;refine aB (Kr (by exact rfl) (by assumption)) ?_;refine Y3 ?_;refine aB (Kr (by exact rfl) (by assumption)) ?_;refine yC ?_;refine FW.pu D3 ?_;refine Y4 ?_;refine aB (aO (by exact rfl) (by exact rfl) YG (by(simp only[aA];assumption)) (by exact rfl) (by exact bB _)) ?_;refine yM ?_;refine cN ?_;refine y1 ?_;refine⟨rfl,rfl,rfl,(by first|exact dO (by omega) _ _|skip),rfl,?_⟩
  (simp(disch:=first|omega|(simp only[z1,z2];omega))only[z3,z4,z5,z6,z7,z1,z2,q1,g01,g11];done)
 clear D3;rintro H2 ⟨x2,n2,q2⟩;have hL2:=x2.log.trans hL1;have g12:=(x2.old _ (by omega)).trans g11;clear g01 g11 q1;refine y4 ?_;refine yV ?_;refine aB (aO (by exact rfl) (by exact rfl) (by assumption) (by(simp only[aA];assumption)) (by exact rfl) (by exact bB _)) ?_;refine y3 ?_;refine lY ?_;refine an ?_ (aX (own:=true) (s:=1) rfl ?_ ko9 ko8 rfl) rfl
 ·rw[Heap.aq (by omega)];exact hL2
 ·exact YG
def oh(b:List Nat)(n:Nat):List (List Nat):=((List.range n).map λt=>jV (dw b t)).foldl nL []
theorem pP(b:List Nat)(n:Nat):oh b (n+1)=nL (oh b n) (jV (dw b n)):=by
 unfold oh;rw[List.range_succ,List.map_append,List.foldl_append];rfl
theorem zC(b:List Nat):∀n,∀s∈oh b n,IsS s
 |0=>λs hs=>by cases hs
 |n+1=>by rw[pP];exact zj (zC b n) (wD _)
theorem wg(b:List Nat):∀n,(oh b n).length<=n
 |0=>Nat.le_refl _
 |n+1=>by rw[pP];exact Nat.le_trans (Bw _ _) (Nat.succ_le_succ (wg b n))
theorem wF(b p:List Nat):∀n,p∈oh b n↔ ∃t,t<n/\jV (dw b t)=p
 |0=>⟨λh=>(by cases h),λ⟨t,h,_⟩=>by omega⟩
 |n+1=>by
  rw[pP,B1,wF b p n];constructor
  ·rintro(rfl|⟨t,h1,h2⟩)
   ·exact⟨n,Nat.lt_succ_self n,rfl⟩
   ·exact⟨t,by omega,h2⟩
  ·rintro⟨t,h1,h2⟩;rcases Nat.lt_or_ge t n with q|q
   ·exact .inr ⟨t,q,h2⟩
   ·obtain rfl:t=n:=by omega
    exact .inl h2.symm
theorem zK{b:List Nat}(hb:IsS b)(h0:¬b=s0)(t:Nat):¬dw b t=s0:=by
 intro q;have hall:∀x∈aR b 512,inG (fB t x)=true:=λc hc=>lU c (iD hc);obtain⟨c,hc⟩:=mH hb h0;have:=(iS hall (fB t c)).2 ⟨c,hc,rfl⟩;rw[show gp (fB t) b=s0 from q,lQ]at this;cases this
theorem Gn(F:HD T){h:Heap}(hr:Rdy h){b:List Nat}(hb:IsS b)(h0:¬b=s0):Al T 258 [sv b] h λv h'=>Own h.next h' 8 v (oh b 24).length (ssL (oh b 24)):=by
 have hp:=F.pt.p;refine .of hp F.f258 hr (λv h1 hv q=>Own.EH hv q) ?_;have k8:=aG hb.len;have k9:=aN hb.len;have x0:Ext h (h.push (.cells (cellsOf (sv b)) true 1)):=(Ext.refl h).push _;have g0:(h.push (.cells (cellsOf (sv b)) true 1)).get h.next=some (.cells (us b) true 1):=YG
 have n0:(h.push (.cells (cellsOf (sv b)) true 1)).next=h.next+1:=rfl
 refine Y4 ?_;generalize(h.push (.cells (cellsOf (sv b)) true 1))=H at*;have W:=x0.wf hr.wf;have hL:=x0.log.trans hr.log;refine Y8 ?_
 refine bD (λm e ds h'=>∃(t:Nat) (v:Value),t<=24/\24-t=m/\e=[(1, .pointer (some ⟨h.next,0,none⟩)),(3,v),(4, .int .i64 (t:Nat))]/\ds=[]/\Ext H h'∧Own H.next h' 8 v (oh b t).length (ssL (oh b t)))
  ⟨0,_,Nat.zero_le _,rfl,rfl,rfl, .refl H, .nil⟩ ?_
 rintro m e ds G ⟨t,v,ht24,rfl,rfl,rfl,xG,ow⟩;have WG:=xG.wf W;have hLG:=xG.log.trans hL;have gG:=(xG.old _ (by omega)).trans g0;have nG:=xG.next
 by_cases ht:t<24
 ·have mlt:ah .lss (.int .i64 (t:Nat)) (.int .i64 24)=some (.bool true):=dz (by omega);have hps:=lE b t;have hpn:=zK hb h0 t;have D1:=FZ F.rf.tr (h:={G with log:=[]}) (.of WG) hb ht;have hsc:=pP b t;have hok:=zC b t;have hlen:=wg b t;generalize dw b t=p at*;have hcs:=wD p;generalize oh b t=l at*;have kp8:=aG hps.len;have kp9:=aN hps.len;have kpl:=hps.len;refine Y10 ?_;refine dI (E0:=[(1, .pointer (some ⟨h.next,0,none⟩)),(3,v),(4, .int .i64 (t:Nat)),(5, .pointer (some ⟨G.next,0,none⟩))]) (P:=λh'=>Ext G h'∧h'.next=G.next+1/\h'.get G.next=some (.cells (us p) true 1)) ?_ ?_
  ·refine Y4 ?_;refine FW.pu D1 ?_;refine Y4 ?_;refine aB (aO (by exact rfl) (by exact rfl) YG (by(simp only[aA];assumption)) (by exact rfl) (by exact bB _)) ?_;refine yM ?_;refine cN ?_;refine y1 ?_;refine⟨rfl,rfl,rfl,(by first|exact dO (by omega) _ _|skip),rfl,?_⟩
   (simp(disch:=first|omega|(simp only[z1,z2];omega))only[z3,z4,z5,z6,z7,z1,z2,g0,gG];done)
  clear D1;rintro G1 ⟨x1,n1,q1⟩;have WG1:=x1.wf WG;have hLG1:=x1.log.trans hLG;have D2:=Mh F (h:={G1 with log:=[]}) (.of WG1) hps hpn;have D3:=Cu F.pt (h:={G1 with log:=[]}) (.of WG1) (lo:=H.next) (by show H.next<=G1.next;omega) hok ((ow.ext x1).log []) (by omega) hcs;clear gG;refine Y4 ?_;refine FW.pu D2 ?_;clear D2;skip;refine yC ?_;refine FW.al D3 (λv h' m q=>q.log m) ?_;rintro v2 G2 x2 q2;clear D3;refine yM ?_;refine cN ?_;refine Y8 ?_;exact⟨24-(t+1),by omega,t+1,v2,by omega,rfl,rfl,rfl,(xG.trans x1).trans x2,by rw[hsc];exact q2⟩
 ·obtain rfl:t=24:=by omega
  have mlt:ah .lss (.int .i64 ((24:Nat):Int)) (.int .i64 24)=some (.bool false):=rfl;generalize oh b 24=l at*;refine Y16 ?_;exact cK hLG rfl (ow.low (by omega))
end Go.A.Pk
end
section
namespace Go.A.Pk
theorem N2{s:List Nat}{x y z x' y' z':Int}(r:Rng (bL s).1 x y z)(r2:Rng (bL (gp (shC x y z) s)).1 x' y' z')(r3:Rng (bL s).1 (x+x') (y+y') (z+z')):
 gp (shC x' y' z') (gp (shC x y z) s)=gp (shC (x+x') (y+y') (z+z')) s:=by
 have h1:∀c∈aR s 512,inG (shC x y z c)=true:=λc hc=>r.all (dx.1 hc);have h2:∀c∈aR (gp (shC x y z) s) 512,inG (shC x' y' z' c)=true:=λc hc=>r2.all (dx.1 hc);have h3:∀c∈aR s 512,inG (shC (x+x') (y+y') (z+z') c)=true:=λc hc=>r3.all (dx.1 hc);refine uv (kQ r2) (kQ r3) λm i hm hi=> ?_;have e:dN (gp (shC x' y' z') (gp (shC x y z) s)) (dY m i)=true↔dN (gp (shC (x+x') (y+y') (z+z')) s) (dY m i)=true:=by
  rw[iS h2,iS h3];constructor
  ·rintro⟨c,hc,hc2⟩;obtain⟨d,hd,rfl⟩:=(iS h1 c).1 hc;refine⟨d,hd,?_⟩;rw[←hc2];unfold shC;dsimp only;congr 1<;>omega
  ·rintro⟨d,hd,hd2⟩;refine⟨shC x y z d,(iS h1 _).2 ⟨d,hd,rfl⟩,?_⟩;rw[←hd2];unfold shC;dsimp only;congr 1<;>omega
 cases h1:dN (gp (shC x' y' z') (gp (shC x y z) s)) (dY m i)with
 |true=>rw[e.1 h1]
 |false=>
  cases h2:dN (gp (shC (x+x') (y+y') (z+z')) s) (dY m i)with
  |false=>rfl
  |true=>rw[e.2 h2]at h1;cases h1
theorem vt{s:List Nat}(c:Ce):dN (jV s) c=true↔ ∃d,dN s d=true/\shC (-(bL s).1.lo.x) (-(bL s).1.lo.y) (-(bL s).1.lo.z) d=c:=
 iS (λc hc=>(oy s).all (dx.1 hc)) c
theorem Nq{s:List Nat}(hs:IsS s)(h0:¬s=s0):¬jV s=s0:=by
 intro q;obtain⟨c,hc⟩:=mH hs h0;have:=(vt (s:=s) _).2 ⟨c,hc,rfl⟩;rw[q,lQ]at this;cases this
theorem Et{s:List Nat}(hs:IsS s)(h0:¬s=s0):(bL (jV s)).1.hi.x=(bL s).1.hi.x-(bL s).1.lo.x/\(bL (jV s)).1.hi.y=(bL s).1.hi.y-(bL s).1.lo.y/\(bL (jV s)).1.hi.z=(bL s).1.hi.z-(bL s).1.lo.z:=by
 obtain⟨⟨l1,l2,l3⟩,⟨k1,k2,k3⟩⟩:=gK s;obtain⟨⟨cl1,cl2,cl3⟩,⟨ck1,ck2,ck3⟩⟩:=gK (jV s);obtain⟨c0,hc0⟩:=mH hs h0;have b0:=lI hc0;have up:=CE (Nq hs h0) (x:=(bL s).1.hi.x-(bL s).1.lo.x) (y:=(bL s).1.hi.y-(bL s).1.lo.y) (z:=(bL s).1.hi.z-(bL s).1.lo.z) (by omega) (by omega) (by omega) λc hc=>by
  obtain⟨d,hd,rfl⟩:=(vt c).1 hc;have:=lI hd;unfold shC;dsimp only;omega
 have dn:=CE h0 (x:=(bL (jV s)).1.hi.x+(bL s).1.lo.x) (y:=(bL (jV s)).1.hi.y+(bL s).1.lo.y) (z:=(bL (jV s)).1.hi.z+(bL s).1.lo.z) (by omega) (by omega) (by omega) λc hc=>by
  have:=lI ((vt _).2 ⟨c,hc,rfl⟩);unfold shC at this;dsimp only at this;omega
 omega
def InC(s:List Nat)(x y z:Nat):Prop:=(x:Int)<=7-(bL s).1.hi.x/\(y:Int)<=7-(bL s).1.hi.y/\(z:Int)<=7-(bL s).1.hi.z
theorem InC.rng{s:List Nat}{x y z:Nat}(h:InC s x y z):Rng (bL s).1 x y z:=by
 obtain⟨⟨l1,l2,l3⟩,⟨k1,k2,k3⟩⟩:=gK s;obtain⟨h1,h2,h3⟩:=h;exact⟨by omega,by omega,by omega⟩
def OO(a:List Nat)(im:List (List Nat))(p:List Nat):Prop:=∃s∈im,∃x y z:Nat,InC s x y z/\gp (shC x y z) s=p/\sIn p a=true
theorem Du{a b p:List Nat}(hb:IsS b)(h0:¬b=s0):OO a (oh b 24) p↔Qb a b p:=by
 constructor
 ·rintro⟨s,hs,x,y,z,hin,rfl,hp⟩;obtain⟨t,ht,rfl⟩:=(wF b s 24).1 hs;have hk:=Et (lE b t) (zK hb h0 t);have r1:=oy (dw b t);have r2:=hin.rng;obtain⟨i1,i2,i3⟩:=hin;obtain⟨⟨l1,l2,l3⟩,⟨k1,k2,k3⟩⟩:=gK (dw b t);have r3:Rng (bL (dw b t)).1 (-(bL (dw b t)).1.lo.x+x) (-(bL (dw b t)).1.lo.y+y) (-(bL (dw b t)).1.lo.z+z):=⟨by omega,by omega,by omega⟩;exact⟨t,ht,_,_,_,r3,(N2 r1 r2 r3).symm,hp⟩
 ·rintro⟨t,ht,x,y,z,r,rfl,hp⟩;have hk:=Et (lE b t) (zK hb h0 t);have r1:=oy (dw b t);obtain⟨⟨l1,l2,l3⟩,⟨k1,k2,k3⟩⟩:=gK (dw b t);obtain⟨c1,c2,c3⟩:=r;have hin:InC (jV (dw b t)) ((bL (dw b t)).1.lo.x+x).toNat ((bL (dw b t)).1.lo.y+y).toNat ((bL (dw b t)).1.lo.z+z).toNat:=⟨by omega,by omega,by omega⟩;have r2:=hin.rng;have e1: -(bL (dw b t)).1.lo.x+(((bL (dw b t)).1.lo.x+x).toNat:Int)=x:=by omega
  have e2: -(bL (dw b t)).1.lo.y+(((bL (dw b t)).1.lo.y+y).toNat:Int)=y:=by omega
  have e3: -(bL (dw b t)).1.lo.z+(((bL (dw b t)).1.lo.z+z).toNat:Int)=z:=by omega
  have he:=N2 r1 r2 (by rw[e1,e2,e3];exact⟨c1,c2,c3⟩);rw[e1,e2,e3]at he;exact⟨_,(wF b _ 24).2 ⟨t,ht,rfl⟩,_,_,_,hin,he,hp⟩
structure PlI (a:List Nat) (im:List (List Nat)) (i z y x:Nat) (l:List (List Nat)):Prop where
 ok:∀p∈l,IsS p
 pw:l.Pairwise SLt
 sound:∀p∈l,OO a im p
 comp:∀j s,im[j]? =some s->∀x' y' z':Nat,InC s x' y' z'→(j<i∨j=i/\(z'<z∨z'=z/\(y'<y∨y'=y/\x'<x)))->sIn (gp (shC x' y' z') s) a=true->gp (shC x' y' z') s∈l
theorem PlI.nil{a:List Nat}{im:List (List Nat)}:PlI a im 0 0 0 0 []:=
 ⟨λp hp=>(by cases hp), .nil,(λp hp=>by cases hp),λj s _ x' y' z' _ h _=>by omega⟩
theorem PlI.skip{a s:List Nat}{im l:List (List Nat)}{i z y x:Nat}(q:PlI a im i z y x l)(hi:im[i]? =some s)(hn:sIn (gp (shC x y z) s) a=false):PlI a im i z y (x+1) l:=by
 obtain⟨q1,q2,q3,q4⟩:=q;refine⟨q1,q2,q3,λj s' hj x' y' z' hin hlt hs=> ?_⟩;by_cases he:j=i/\z'=z/\y'=y/\x'=x
 ·obtain⟨rfl,rfl,rfl,rfl⟩:=he;rw[hi]at hj;cases hj;rw[hn]at hs;cases hs
 ·exact q4 j s' hj x' y' z' hin (by omega) hs
theorem PlI.put{a s:List Nat}{im l:List (List Nat)}{i z y x:Nat}(q:PlI a im i z y x l)(hi:im[i]? =some s)(hc:InC s x y z)(hn:sIn (gp (shC x y z) s) a=true):PlI a im i z y (x+1) (nL l (gp (shC x y z) s)):=by
 obtain⟨q1,q2,q3,q4⟩:=q;have hok:=kQ hc.rng;refine⟨zj q1 hok,EE q1 hok q2,λp hp=> ?_,λj s' hj x' y' z' hin hlt hs=> ?_⟩
 ·rcases vN hp with rfl|hp
  ·exact⟨s,List.mem_of_getElem? hi,x,y,z,hc,rfl,hn⟩
  ·exact q3 p hp
 ·by_cases he:j=i/\z'=z/\y'=y/\x'=x
  ·obtain⟨rfl,rfl,rfl,rfl⟩:=he;rw[hi]at hj;cases hj;exact vg (.inl rfl)
  ·exact vg (.inr (q4 j s' hj x' y' z' hin (by omega) hs))
theorem PlI.Iv{a s:List Nat}{im l:List (List Nat)}{i z y x:Nat}(q:PlI a im i z y x l)(hi:im[i]? =some s)(hx:¬ (x:Int)<=7-(bL s).1.hi.x):PlI a im i z (y+1) 0 l:=by
 obtain⟨q1,q2,q3,q4⟩:=q;refine⟨q1,q2,q3,λj s' hj x' y' z' hin hlt hs=>q4 j s' hj x' y' z' hin ?_ hs⟩;by_cases he:j=i
 ·subst he;rw[hi]at hj;cases hj;obtain⟨i1,i2,i3⟩:=hin;omega
 ·omega
theorem PlI.Tc{a s:List Nat}{im l:List (List Nat)}{i z y:Nat}(q:PlI a im i z y 0 l)(hi:im[i]? =some s)(hx:¬ (y:Int)<=7-(bL s).1.hi.y):PlI a im i (z+1) 0 0 l:=by
 obtain⟨q1,q2,q3,q4⟩:=q;refine⟨q1,q2,q3,λj s' hj x' y' z' hin hlt hs=>q4 j s' hj x' y' z' hin ?_ hs⟩;by_cases he:j=i
 ·subst he;rw[hi]at hj;cases hj;obtain⟨i1,i2,i3⟩:=hin;omega
 ·omega
theorem PlI.Ue{a s:List Nat}{im l:List (List Nat)}{i z:Nat}(q:PlI a im i z 0 0 l)(hi:im[i]? =some s)(hx:¬ (z:Int)<=7-(bL s).1.hi.z):PlI a im (i+1) 0 0 0 l:=by
 obtain⟨q1,q2,q3,q4⟩:=q;refine⟨q1,q2,q3,λj s' hj x' y' z' hin hlt hs=>q4 j s' hj x' y' z' hin ?_ hs⟩;by_cases he:j=i
 ·subst he;rw[hi]at hj;cases hj;obtain⟨i1,i2,i3⟩:=hin;omega
 ·omega
theorem Lu(a b:List Nat):(j7 a b).Pairwise SLt:=by
 unfold j7;split
 ·exact .nil
 ·have h:∀s∈(iJ a b).map (·.s),IsS s:=λs hs=>by
   obtain⟨f,hf,rfl⟩:=List.mem_map.1 hs;exact(uE hf).1
  exact KE (λs hs=>h s (fZ.1 hs)) (ES h)
theorem OH{a b:List Nat}(ha:IsS a)(hb:IsS b)(h0:¬b=s0){l:List (List Nat)}(hp:l.Pairwise SLt)(hs:∀p∈l,OO a (oh b 24) p):l.length<=98304:=
 Nat.le_trans (vc (Gw hp) λp hq=>(ux ha hb h0).2 ((Du hb h0).1 (hs p hq))) (sE a b)
theorem Pv{a b:List Nat}(ha:IsS a)(hb:IsS b)(h0:¬b=s0){l:List (List Nat)}(q:PlI a (oh b 24) (oh b 24).length 0 0 0 l):l=j7 a b:=by
 obtain⟨q1,q2,q3,q4⟩:=q;refine vZ q1 (λs hs=>nk hs) q2 (Lu a b) λx=>⟨λhx=>(ux ha hb h0).2 ((Du hb h0).1 (q3 x hx)),λhx=> ?_⟩;obtain⟨s,hs,x',y',z',hin,rfl,hp⟩:=(Du hb h0).2 ((ux ha hb h0).1 hx);obtain⟨j,hj⟩:=List.getElem?_of_mem hs;have hlt:=(List.getElem?_eq_some_iff.1 hj).1;exact q4 j s hj x' y' z' hin (.inl hlt) hp
end Go.A.Pk
end
section
namespace Go.A.Pk
variable {T:Nat->Option af}
structure NW (T:Nat->Option af):Prop where
 im:HD T
 f199:T 199=some f199
theorem Own.Ew{lo lo' sz n:Nat}{h h':Heap}{u:Value}{k:Int}{cs:List Value}(hv:cA (.tuple #[u, .int .i64 k])=true)(q:Own lo h sz u n cs):Own lo' h' sz u n cs:=by
 cases q with
 |nil=>exact .nil
 |full h1 h2 h3 h4 h5=>
  simp[cA,gQ,cT,flat,lH,jv]at hv;try cases hv.1
theorem DF(F:NW T){h:Heap}(hr:Rdy h){a b:List Nat}(ha:IsS a)(hb:IsS b)(hb0:¬b=s0):
 Al T 199 [sv a,sv b] h λv h'=>∃u,v= .tuple #[u, .int .i64 0]/\Own h.next h' 8 u (j7 a b).length (ssL (j7 a b)):=by
 have hp:=F.im.pt.p;refine .of hp F.f199 hr (λv h1 hv ⟨u,e,q⟩=>⟨u,e,by subst e;exact Own.Ew hv q⟩) ?_;have ka8:=aG ha.len;have ka9:=aN ha.len;have kb8:=aG hb.len;have kb9:=aN hb.len;have x0:Ext h ((h.push (.cells (cellsOf (sv a)) true 1)).push (.cells (cellsOf (sv b)) true 1)):=((Ext.refl h).push _).push _;have gA:((h.push (.cells (cellsOf (sv a)) true 1)).push (.cells (cellsOf (sv b)) true 1)).get h.next=some (.cells (us a) true 1):=YG
 have gB:((h.push (.cells (cellsOf (sv a)) true 1)).push (.cells (cellsOf (sv b)) true 1)).get (h.next+1)=some (.cells (us b) true 1):=YG;have n0:((h.push (.cells (cellsOf (sv a)) true 1)).push (.cells (cellsOf (sv b)) true 1)).next=h.next+2:=rfl
 refine Y6 ?_;generalize((h.push (.cells (cellsOf (sv a)) true 1)).push (.cells (cellsOf (sv b)) true 1))=H at*;have W:=x0.wf hr.wf;have hL:=x0.log.trans hr.log;have hlen:=λ(l:List (List Nat))=>OH ha hb hb0 (l:=l);have hall:=λ(l:List (List Nat))=>Pv ha hb hb0 (l:=l);have hiok:=zC b 24;have hil:=wg b 24;have C:=Gn F.im (h:={H with log:=[]}) (.of W) hb hb0;generalize oh b 24=im at*;generalize j7 a b=res at*;refine Y4 ?_;refine aB (iI (b:=s0) (by exact rfl) (by exact rfl) hb.len rfl) ?_;rw[decide_eq_false hb0];refine Y10 ?_;refine FW.al C (λv h' m q=>q.log m) ?_;rintro v H2 x2 qi;clear C;have qi:Own H.next H2 8 v im.length (ssL im):=qi
 have ey2:=x0.trans x2;have W2:=ey2.wf hr.wf;have hL2:=x2.log.trans hL;have n2:=x2.next
 have gA2:=(x2.old _ (by omega)).trans gA;have si:SsQ H2 v im:=⟨qi.slice (by omega),hiok⟩;obtain⟨ai,ci,rfl⟩:=si.sl.form;clear gA gB qi;refine Y7 ?_
 refine bD (λm e ds h'=>∃(i:Nat) (v:Value) (l:List (List Nat)),i<=im.length/\im.length-i=m/\e=[(2, .pointer (some ⟨h.next,0,none⟩)),(6,v),(7, .slice ai im.length ci),(8, .int .i64 (i:Nat))]/\ds=[]/\Ext H2 h'∧Own H2.next h' 8 v l.length (ssL l)/\PlI a im i 0 0 0 l)
  ⟨0,_,[],Nat.zero_le _,rfl,rfl,rfl, .refl H2, .nil, .nil⟩ ?_
 rintro m e ds G ⟨i,v,l,hi,rfl,rfl,rfl,xG,ow,pl⟩;have WG:=xG.wf W2;have hLG:=xG.log.trans hL2;have nG:=xG.next
 by_cases hlt:i<im.length
 ·obtain⟨s,hsi⟩:∃s,im[i]? =some s:=⟨im[i],List.getElem?_eq_getElem hlt⟩;have hs:=hiok s (List.mem_of_getElem? hsi);have ks8:=aG hs.len;have ks9:=aN hs.len;obtain⟨bi,oi,c2,vs,own,tt,hv,gl,hbl,el⟩:=(si.ext xG).elem hsi;cases hv;have mlt:ah .lss (.int .i64 (i:Nat)) (.int .i64 (im.length:Nat))=some (.bool true):=dz (by omega);have D2:=yQ F.im.rf.tr F.im.rf.f138 (h:={G with log:=[]}) (.of WG) hs;have hbp:=gK s;have hsk:=λ(x y z:Nat) (l:List (List Nat)) (q:PlI a im i z y x l)=>q.skip hsi;have hput:=λ(x y z:Nat) (l:List (List Nat)) (q:PlI a im i z y x l)=>q.put hsi;have hex:=λ(x y z:Nat) (l:List (List Nat)) (q:PlI a im i z y x l)=>q.Iv hsi;have hey:=λ(y z:Nat) (l:List (List Nat)) (q:PlI a im i z y 0 l)=>q.Tc hsi;have hez:=λ(z:Nat) (l:List (List Nat)) (q:PlI a im i z 0 0 l)=>q.Ue hsi;have hmv:=λ(x y z:Nat) (hc:InC s x y z)=>kQ hc.rng;have hcells:=λ(x y z:Nat) (hc:InC s x y z) (c:Ce) (h:c∈aR s 512)=>hc.rng.all (dx.1 h);unfold InC at hput hmv hcells;generalize hbb:bL s=bb at*;obtain⟨bp,some'⟩:=bb;dsimp only at hbp hput hex hey hez hmv hcells;unfold Ff at D2;dsimp only at D2;have px1:=hbp.lo.x;have px2:=hbp.hi.x;have py1:=hbp.lo.y;have py2:=hbp.hi.y;have pz1:=hbp.lo.z;have pz2:=hbp.hi.z;have sx:=dg px2;have sy:=dg py2;have sz:=dg pz2;refine Y12 ?_;refine dI (E0:=[(2, .pointer (some ⟨h.next,0,none⟩)),(6,v),(7, .slice (some ⟨bi,oi,none⟩) im.length ci),(8, .int .i64 (i:Nat)),(9, .pointer (some ⟨G.next,0,none⟩))]) (P:=λh'=>Ext G h'∧h'.next=G.next+1/\h'.get G.next=some (.cells (bxL bp) true 1)) ?_ ?_
  ·refine Y6 ?_;refine FW.pu D2 ?_;refine Y6 ?_;refine cN ?_;refine y1 ?_;exact⟨rfl,rfl,rfl,dO (by omega) _ _,rfl,fC _ _⟩
  clear D2;rintro G2 ⟨x3,n3,q3⟩;have ow3:=ow.ext x3;have xH:=xG.trans x3;have gl3:=(x3.old _ hbl).trans gl;have kq:G.next<G2.next:=by omega
  generalize G.next=q at*
  clear ow gl x3 n3;refine Y4 ?_
  refine bD (λk e ds h'=>∃(z:Nat) (v:Value) (l:List (List Nat)),z<=8/\8-z=k/\e=[(2, .pointer (some ⟨h.next,0,none⟩)),(6,v),(7, .slice (some ⟨bi,oi,none⟩) im.length ci),(8, .int .i64 (i:Nat)),(9, .pointer (some ⟨q,0,none⟩)),(11, .int .i64 (z:Nat))]/\ds=[]/\Ext G2 h'∧Own H2.next h' 8 v l.length (ssL l)/\PlI a im i z 0 0 l)
   ⟨0,_,l,by omega,rfl,rfl,rfl, .refl G2,ow3,pl⟩ ?_
  clear ow3 pl;rintro k e ds G3 ⟨z,v,l,hz8,rfl,rfl,rfl,x3,ow,pl⟩;have q4:=(x3.old _ kq).trans q3;by_cases hle:(z:Int)<=7-bp.hi.z
  ·have lz:ah .leq (.int .i64 (z:Nat)) (.int .i64 (7-bp.hi.z))=some (.bool true):=kN hle;refine Y18 ?_
   refine bD (λk e ds h'=>∃(y:Nat) (v:Value) (l:List (List Nat)),y<=8/\8-y=k/\e=[(2, .pointer (some ⟨h.next,0,none⟩)),(6,v),(7, .slice (some ⟨bi,oi,none⟩) im.length ci),(8, .int .i64 (i:Nat)),(9, .pointer (some ⟨q,0,none⟩)),(11, .int .i64 (z:Nat)),(12, .int .i64 (y:Nat))]/\ds=[]/\Ext G2 h'∧Own H2.next h' 8 v l.length (ssL l)/\PlI a im i z y 0 l)
    ⟨0,_,l,by omega,rfl,rfl,rfl,x3,ow,pl⟩ ?_
   clear ow pl x3 q4;rintro k e ds G3 ⟨y,v,l,hy8,rfl,rfl,rfl,x3,ow,pl⟩;have q4:=(x3.old _ kq).trans q3;by_cases hley:(y:Int)<=7-bp.hi.y
   ·have ly:ah .leq (.int .i64 (y:Nat)) (.int .i64 (7-bp.hi.y))=some (.bool true):=kN hley;refine Y18 ?_
    refine bD (λk e ds h'=>∃(x:Nat) (v:Value) (l:List (List Nat)),x<=8/\8-x=k/\e=[(2, .pointer (some ⟨h.next,0,none⟩)),(6,v),(7, .slice (some ⟨bi,oi,none⟩) im.length ci),(8, .int .i64 (i:Nat)),(9, .pointer (some ⟨q,0,none⟩)),(11, .int .i64 (z:Nat)),(12, .int .i64 (y:Nat)),(13, .int .i64 (x:Nat))]/\ds=[]/\Ext G2 h'∧Own H2.next h' 8 v l.length (ssL l)/\PlI a im i z y x l)
     ⟨0,_,l,by omega,rfl,rfl,rfl,x3,ow,pl⟩ ?_
    clear ow pl x3 q4;rintro k e ds G3 ⟨x,v,l,hx8,rfl,rfl,rfl,x3,ow,pl⟩;have q4:=(x3.old _ kq).trans q3;have WG3:=(xH.trans x3).wf W2;have hL3:=(xH.trans x3).log.trans hL2;by_cases hlex:(x:Int)<=7-bp.hi.x
    ·have lx:ah .leq (.int .i64 (x:Nat)) (.int .i64 (7-bp.hi.x))=some (.bool true):=kN hlex;have hls:=hmv x y z ⟨hlex,hley,hle⟩;have gl4:=(x3.old _ (show bi<G2.next by omega)).trans gl3;have n3:=x3.next
     have D3:=Ck F.im.rf.tr F.im.rf.f225 (h:={G3 with log:=[]}) (.of WG3) hs (x:=(x:Nat)) (y:=(y:Nat)) (z:=(z:Nat)) ⟨by omega,by omega⟩ ⟨by omega,by omega⟩ ⟨by omega,by omega⟩ (hcells x y z ⟨hlex,hley,hle⟩);have hsk1:=hsk x y z l pl;have hput1:=λq=>hput x y z l pl ⟨hlex,hley,hle⟩ q;generalize gp (shC x y z) s=ls at*;have kls:=aN hls.len;have kll:=aG hls.len;have klen:=hls.len;have hll:=hlen l pl.pw pl.sound;have hlok:=pl.ok;refine Y14 ?_;refine dI (E0:=[(2, .pointer (some ⟨h.next,0,none⟩)),(6,v),(7, .slice (some ⟨bi,oi,none⟩) im.length ci),(8, .int .i64 (i:Nat)),(9, .pointer (some ⟨q,0,none⟩)),(11, .int .i64 (z:Nat)),(12, .int .i64 (y:Nat)),(13, .int .i64 (x:Nat)),(14, .pointer (some ⟨G3.next,0,none⟩))]) (P:=λh'=>Ext G3 h'∧h'.next=G3.next+1/\h'.get G3.next=some (.cells (us ls) true 1)) ?_ ?_
     ·refine Y9 ?_;refine FW.pu D3 ?_;refine Y4 ?_;refine aB (aO (by exact rfl) (by exact rfl) YG (by(simp only[aA];assumption)) (by exact rfl) (by exact bB _)) ?_;refine yM ?_;refine cN ?_;refine y1 ?_;refine⟨rfl,rfl,rfl,(by first|exact dO (by omega) _ _|skip),rfl,?_⟩
      (simp(disch:=first|omega|(simp only[z1,z2];omega))only[z3,z4,z5,z6,z7,z1,z2,gA2,gl3,q3,q4,gl4];done)
     clear D3 q4 gl4;rintro G4 ⟨x4,n4,q4⟩;have WG4:=x4.wf WG3;have hL4:=x4.log.trans hL3;have x34:=x3.trans x4;have gA4:=((xH.trans x34).old _ (by omega)).trans gA2;have D4:=uZ hp F.im.rf.f52 F.im.rf.f140 (h:={G4 with log:=[]}) (.of WG4) hls ha;have D5:=Cu F.im.pt (h:={G4 with log:=[]}) (.of WG4) (lo:=H2.next) (by show H2.next<=G4.next;have:=(xH.trans x34).next;omega) hlok ((ow.ext x4).log []) (by omega) hls;clear hbb;cases hin:sIn ls a with
     |false=>
      rw[hin]at D4;refine Y4 ?_;refine FW.pu D4 ?_;clear D4 D5;refine Y14 ?_;exact⟨8-(x+1),by omega,x+1,v,l,by omega,rfl,rfl,rfl,x34,ow.ext x4,hsk1 hin⟩
     |true=>
      rw[hin]at D4;refine Y4 ?_;refine FW.pu D4 ?_;clear D4;refine Y10 ?_;refine FW.al D5 (λv h' m q=>q.log m) ?_;rintro v5 G5 x5 q5;clear D5;refine yM ?_;refine cN ?_;refine Y8 ?_;exact⟨8-(x+1),by omega,x+1,v5,_,by omega,rfl,rfl,rfl,x34.trans x5,q5,hput1 hin⟩
    ·have lx:ah .leq (.int .i64 (x:Nat)) (.int .i64 (7-bp.hi.x))=some (.bool false):=mu (by omega);refine Y21 ?_;exact⟨8-(y+1),by omega,y+1,v,l,by omega,rfl,rfl,rfl,x3,ow,hex x y z l pl hlex⟩
   ·have ly:ah .leq (.int .i64 (y:Nat)) (.int .i64 (7-bp.hi.y))=some (.bool false):=mu (by omega);refine Y21 ?_;exact⟨8-(z+1),by omega,z+1,v,l,by omega,rfl,rfl,rfl,x3,ow,hey y z l pl hley⟩
  ·have lz:ah .leq (.int .i64 (z:Nat)) (.int .i64 (7-bp.hi.z))=some (.bool false):=mu (by omega);refine Y21 ?_;exact⟨im.length-(i+1),by omega,i+1,v,l,by omega,rfl,rfl,rfl,xH.trans x3,ow,hez z l pl hle⟩
 ·obtain rfl:i=im.length:=by omega
  have mlt:ah .lss (.int .i64 (im.length:Nat)) (.int .i64 (im.length:Nat))=some (.bool false):=dA (by omega);have e:=hall l pl;subst e;refine Y19 ?_;exact cK hLG rfl ⟨_,rfl,ow.low (by omega)⟩
def jS(w:List Nat×List Nat)(l:List Pb)(fs:List Int)(os:List (List Nat)):List Nat×Int:=
 if lB w l os≠0 then([],lB w l os)else if(jq fs l.length).2=false then([],1)else if rC w=true then([],82)else if bsB w (zsF l fs)=false then([],5)else
  (os.map λo=>jY (zsF l fs) (bsS w.1 (zsF l fs)) (ei w o),0)
theorem bA.RZ{h h':Heap}{sz n:Nat}{v:Value}{cs:List Value}(s:bA h sz v n cs)(hn:h.next<=h'.next)(ha:∀z,z<h.next->h'.get z=h.get z):bA h' sz v n cs:=by
 cases s with
 |nil=>exact .nil
 |mem s hc=>
  obtain⟨vs,own,t,g1,g2⟩:=s.obj;exact .mem ⟨Nat.lt_of_lt_of_le s.lt hn,⟨vs,own,t,(ha _ s.lt).trans g1,g2⟩,s.len⟩ hc
structure Kt (T:Nat->Option af):Prop where
 cb:JL T
 lk:Ny T
 f56:T 56=some f56
 f144:T 144=some f144
theorem EO(f:List Nat)(k:Nat):fL (f++[k])=fL f++[.int .u8 (k:Nat)]:=by simp[fL]
theorem Bs(F:Kt T){h:Heap}(hr:Rdy h)(hg:Tab h)(h2:2<h.next){w:List Nat×List Nat}(hw:IsW w){pv:Value}{l:List Pb}(sp:PbS h pv l)(hl:l.length<1000000){v:Value}{fs:List Int}(sf:bA h 1 v fs.length (ints fs))(hfl:fs.length<1000000){ov:Value}{os:List (List Nat)}(so:SsQ h ov os)(hol:os.length<1000000):
 Al T 144 [wV w,pv,v,ov] h λv h'=>∃u,v= .tuple #[u, .int .i64 (jS w l fs os).2]/\Own h.next h' 1 u (jS w l fs os).1.length (fL (jS w l fs os).1):=by
 refine .of F.cb.fn.p F.f144 hr (λv h1 hv ⟨u,e,q⟩=>⟨u,e,by subst e;exact Own.Ew hv q⟩) ?_;have hwc:cellsOf (wV w)=wL w:=by show(wL w).toArray.toList=_;simp
 obtain⟨a,c,rfl⟩:=sp.form;obtain⟨a2,c2,rfl⟩:=sf.form;obtain⟨a3,c3,rfl⟩:=so.sl.form;have hov:∀b o m c,(.slice a3 os.length c3:Value)= .slice (some ⟨b,o,none⟩) m c->b<h.next:=λb o m c e=>by
  rcases bA.inv so.sl with⟨_,hv,_⟩|⟨b',o',cap,hv,s1,_⟩
  ·rw[hv]at e;cases e
  ·rw[hv]at e;cases e;exact s1.lt
 have x0:Ext h (h.push (.cells (cellsOf (wV w)) true 1)):=(Ext.refl h).push _;have g0:(h.push (.cells (cellsOf (wV w)) true 1)).get h.next=some (.cells (wL w) true 1):=by rw[hwc];exact z3 h _
 have n0:(h.push (.cells (cellsOf (wV w)) true 1)).next=h.next+1:=rfl
 refine Y5 ?_;generalize(h.push (.cells (cellsOf (wV w)) true 1))=H at*;have W:=x0.wf hr.wf;have hL:=x0.log.trans hr.log;have wk:=ig hw;have wkl:=eV hw;have C1:=vw F.cb.ak (h:={H with log:=[]}) (.of W) hw ((sp.ext x0).log []) hl ((so.ext x0).log []) hol;unfold jS;have hask:=sA (w:=w) (l:=l) (os:=os);generalize lB w l os=er at*;refine Y5 ?_;refine FW.al C1 (λv h' m q=>q) ?_;clear C1;rintro _ H1 x1 (⟨he,rfl⟩|⟨rfl,q,m,rfl,hq1,hq2,hq3,gq,gm⟩)
 ·rw[if_pos he];have hL1:=x1.log.trans hL;have mn:ah .neq (.int .i64 er) (.int .i64 0)=some (.bool true):=j6 he;refine Y19 ?_;exact cK hL1 rfl ⟨_,rfl, .nil⟩
 rw[if_neg (λq=>q rfl)];obtain⟨_,hol6,hone,hl8⟩:=hask rfl;clear hask;have hq1:H.next<=m:=hq1
 have ey1:=x0.trans x1;have W1:=ey1.wf hr.wf;have hL1:=x1.log.trans hL;have n1:=x1.next
 have g01:=(x1.old _ (by omega)).trans g0;have C2:=vE F.cb.fn (h:={H1 with log:=[]}) (.of W1) hw gq ((sp.ext ey1).log []) hl8 ((sf.ext ey1).log []) hfl;have hfn:=zU (fs:=fs) hl8;have hzp:=λe=>CO (l:=l) (fs:=fs) e;have mn:ah .neq (.int .i64 0) (.int .i64 0)=some (.bool false):=rfl;have hf8:=vR (fs:=fs) hl8;generalize jq fs l.length=fp at*;obtain⟨f,ok⟩:=fp;dsimp only at C2 hfn hf8⊢;have kf8:=sV hf8;have kf9:=pT hf8;have kfl:(fL f).length=8:=by rw[jB];exact hf8
 have kfo:=rA f;have x2:=dO (h:=H1) (base:=h.next) (by omega) (.cells (aD 8 (.int .u8 0)) true 1) (.cells (fL f) true 1);have g12:=fC (h:=H1) (base:=h.next) (aD 8 (.int .u8 0)) (fL f);have n2:((H1.push (.cells (aD 8 (.int .u8 0)) true 1)).wr h.next H1.next (.cells (fL f) true 1)).next=H1.next+1:=rfl
 clear g0;refine Y18 ?_;refine FW.pu C2 ?_;clear C2;refine Y4 ?_;refine aB (aO (by exact rfl) (by exact rfl) YG (by assumption) (by exact rfl) (by assumption)) ?_;refine Y2 ?_;generalize((H1.push (.cells (aD 8 (.int .u8 0)) true 1)).wr h.next H1.next (.cells (fL f) true 1))=H2 at*;have ey2:=ey1.trans x2;have W2:=ey2.wf hr.wf;have hL2:=x2.log.trans hL1;have gq2:=(x2.old q hq3).trans gq;have g02:=(x2.old _ (by omega)).trans g01;cases ok with
 |false=>
  rw[if_pos rfl];refine Y15 ?_;exact cK hL2 rfl ⟨_,rfl, .nil⟩
 |true=>
 rw[if_neg (by simp)];obtain⟨hf1,_,hfe,_⟩:=hfn rfl;have hz:l.zip f=zsF l fs:=by rw[hf1];exact hzp hfe
 have C3:=Qg F.cb.ak.ne (h:={H2 with log:=[]}) (.of W2) hw;clear hfn hzp g01 gq;cases hm:rC w with
 |true=>
  rw[hm]at C3;rw[if_pos rfl];refine Y11 ?_;refine FW.pu C3 ?_;refine Y10 ?_;exact cK hL2 rfl ⟨_,rfl, .nil⟩
 |false=>
 rw[hm]at C3;rw[if_neg (by simp)];have C4:=y8 F.cb.qu (h:={H2 with log:=[]}) (.of W2) hw gq2 ((sp.ext ey2).log []) hl8 hf8;rw[hz]at C4;have hbs:IsS (bsS w.1 (zsF l fs)):=j0 hw.a (oD sp.ok);generalize hbz:bsS w.1 (zsF l fs)=s at*;have kb8:=aG hbs.len;have kb9:=aN hbs.len;have kbn:=hbs.len;have x3:=dO (h:=H2) (base:=h.next) (by omega) (.cells (aD 8 (.int .u64 0)) true 1) (.cells (us s) true 1);have g14:=fC (h:=H2) (base:=h.next) (aD 8 (.int .u64 0)) (us s);have n3:((H2.push (.cells (aD 8 (.int .u64 0)) true 1)).wr h.next H2.next (.cells (us s) true 1)).next=H2.next+1:=rfl
 refine Y11 ?_;refine FW.pu C3 ?_;clear C3;refine Y10 ?_;refine FW.pu C4 ?_;clear C4;refine Y4 ?_;refine aB (aO (by exact rfl) (by exact rfl) YG (by(simp only[aA];assumption)) (by exact rfl) (by exact bB _)) ?_;refine Y2 ?_;generalize((H2.push (.cells (aD 8 (.int .u64 0)) true 1)).wr h.next H2.next (.cells (us s) true 1))=H3 at*;have ey3:=ey2.trans x3;have W3:=ey3.wf hr.wf;have hL3:=x3.log.trans hL2;have gq3:=(x3.old q (by omega)).trans gq2;have g123:=(x3.old _ (by omega)).trans g12;clear gq2 g12;cases hcan:bsB w (zsF l fs)with
 |false=>
  rw[if_pos rfl];refine Y12 ?_;exact cK hL3 rfl ⟨_,rfl, .nil⟩
 |true=>
 rw[if_neg (by simp)];have C5:=LC F.lk (h:={H3 with log:=[]}) (.of W3) (show Tab H3 from hg.ext ey3 h2) (by show 2<H3.next;omega) (q:=q) (by omega) hw gq3 ((so.ext ey3).log []) hol (λb o m c e=>by have:=hov b o m c e;omega);refine Y11 ?_;refine FW.gs0 C5 (λv h' m q=> ?_) (λz hz=>by omega) ?_
 ·obtain⟨o5,nv,q1,q2⟩:=q;exact⟨o5,nv,q1,q2.log m⟩
 rintro _ H4 n4 l4 _ w4 ⟨o4,nv,gq4,sn⟩;clear C5;have o4:∀z,z<H3.next->z≠q->H4.get z=H3.get z:=o4
 have W4:=w4 W3;have hL4:=l4.trans hL3;have g124:=(o4 _ (by omega) (by omega)).trans g123;have g144:=(o4 _ (by omega) (by omega)).trans g14;have sp4:PbS H4 (.slice a l.length c) l:=⟨bA.RZ sp.sl (by omega) λz hz=>(o4 z (by omega) (by omega)).trans (ey3.old z hz),sp.ok⟩;clear g123 g14 gq3;refine Y11 ?_
 refine bD (λm e ds h'=>∃(i:Nat) (v:Value),i<=os.length/\os.length-i=m/\e=[(10, .pointer (some ⟨q,0,none⟩)),(12, .pointer (some ⟨H1.next,0,none⟩)),(14, .pointer (some ⟨H2.next,0,none⟩)),(16,v),(51, .int .i64 (os.length:Nat)),(52, .int .i64 (i:Nat))]/\ds=[]/\Ext H4 h'∧Own H4.next h' 1 v i (fL ((os.take i).map λo=>jY (zsF l fs) s (ei w o))))
  ⟨0,_,Nat.zero_le _,rfl,rfl,rfl, .refl H4, .nil⟩ ?_
 rintro m' e ds G ⟨i,v,hi,rfl,rfl,rfl,xG,ow⟩;have WG:=xG.wf W4;have hLG:=xG.log.trans hL4;have nG:=xG.next
 by_cases hlt:i<os.length
 ·obtain⟨x,hx⟩:∃s,os[i]? =some s:=⟨os[i],List.getElem?_eq_getElem hlt⟩;have mlt:ah .lss (.int .i64 (i:Nat)) (.int .i64 (os.length:Nat))=some (.bool true):=dz (by omega);have g12G:=(xG.old _ (by omega)).trans g124;have g14G:=(xG.old _ (by omega)).trans g144;have gqG:=(xG.old _ (by omega)).trans gq4;have hnx:(os.map (ei w))[i]? =some (ei w x):=by rw[List.getElem?_map,hx];rfl
  have C6:=Fz F.cb.qu (h:={G with log:=[]}) (.of WG) hw gqG ((sp4.ext xG).log []) hl8 hf8 hbs ((sn.ext xG).log []) (by rw[List.length_map];omega) hnx (Nat.lt_of_le_of_lt (tC w x) (by decide));rw[hz]at C6;have hst:fL ((os.take (i+1)).map λo=>jY (zsF l fs) s (ei w o))=fL ((os.take i).map λo=>jY (zsF l fs) s (ei w o))++[.int .u8 ((jY (zsF l fs) s (ei w x):Nat):Int)]:=by
   rw[dS hx,List.map_append,←EO];rfl
  generalize fL ((os.take i).map λo=>jY (zsF l fs) s (ei w o))=cs at*;generalize jY (zsF l fs) s (ei w x)=jx at*;refine Y20 ?_;refine FW.pu C6 ?_;clear C6;refine aB (iy (by exact rfl) (by exact rfl)) ?_;refine sC (lo:=H4.next) (c1:=[.int .u8 (jx:Nat)]) (ow.ext ((Ext.refl G).push _)) (by omega) (by omega) (by omega) (by show H4.next<=G.next+1;omega) (by omega) (by exact rfl) (by exact rfl) (fF (cs:=[.int .u8 (jx:Nat)]) (z3 G _) rfl rfl) rfl rfl ?_;intro v2 h9 o9 x9;refine yM ?_;refine cN ?_;refine Y7 ?_;refine⟨os.length-(i+1),by omega,i+1,v2,by omega,rfl,rfl,rfl,((xG.lx (Nat.le_refl _)).trans ((((Ext.refl G).push _).lx (by omega)).trans x9)).ext,?_⟩;rw[hst];exact o9
 ·obtain rfl:i=os.length:=by omega
  have mlt:ah .lss (.int .i64 (os.length:Nat)) (.int .i64 (os.length:Nat))=some (.bool false):=dA (by omega);rw[List.take_length]at ow;refine Y16 ?_;exact cK hLG rfl ⟨_,rfl,by dsimp only;rw[List.length_map];exact ow.low (by omega)⟩
theorem IU(F:Kt T){h:Heap}(hr:Rdy h)(hg:Tab h)(h2:2<h.next){w:List Nat×List Nat}(hw:IsW w){pv:Value}{l:List Pb}(sp:PbS h pv l)(hl:l.length<1000000){v:Value}{fs:List Int}(sf:bA h 1 v fs.length (ints fs))(hfl:fs.length<1000000){ov:Value}{os:List (List Nat)}(so:SsQ h ov os)(hol:os.length<1000000):
 Al T 56 [wV w,pv,v,ov] h λv h'=>∃u,v= .tuple #[u, .int .i64 (jS w l fs os).2]/\Own h.next h' 1 u (jS w l fs os).1.length (fL (jS w l fs os).1):=by
 refine .of F.cb.fn.p F.f56 hr (λv h1 hv ⟨u,e,q⟩=>⟨u,e,by subst e;exact Own.Ew hv q⟩) ?_;have hwc:cellsOf (wV w)=wL w:=by show(wL w).toArray.toList=_;simp
 obtain⟨a,c,rfl⟩:=sp.form;obtain⟨a2,c2,rfl⟩:=sf.form;obtain⟨a3,c3,rfl⟩:=so.sl.form;have x0:Ext h (h.push (.cells (cellsOf (wV w)) true 1)):=(Ext.refl h).push _;have g0:(h.push (.cells (cellsOf (wV w)) true 1)).get h.next=some (.cells (wL w) true 1):=by rw[hwc];exact z3 h _
 have n0:(h.push (.cells (cellsOf (wV w)) true 1)).next=h.next+1:=rfl
 refine Y5 ?_;generalize(h.push (.cells (cellsOf (wV w)) true 1))=H at*;have W:=x0.wf hr.wf;have hL:=x0.log.trans hr.log;have wk:=ig hw;have wkl:=eV hw;have C:=Bs F (h:={H with log:=[]}) (.of W) (show Tab H from hg.ext x0 h2) (by show 2<H.next;omega) hw ((sp.ext x0).log []) hl ((sf.ext x0).log []) hfl ((so.ext x0).log []) hol;refine Y6 ?_;refine FW.al C (λv h' m ⟨u,e,q⟩=>⟨u,e,q.log m⟩) ?_;rintro _ H1 x1 ⟨u,rfl,q1⟩;have q1:Own H.next H1 1 u (jS w l fs os).1.length (fL (jS w l fs os).1):=q1
 refine Y6 ?_;exact cK (x1.log.trans hL) rfl ⟨_,rfl,q1.low (by omega)⟩
def mQ(w:List Nat×List Nat)(ps:List (List Nat)):List (List Nat):=ps.foldl (λl p=>nL l (dU p w.1)) []
theorem u6(w:List Nat×List Nat)(ps:List (List Nat))(p:List Nat):mQ w (ps++[p])=nL (mQ w ps) (dU p w.1):=by
 unfold mQ;rw[List.foldl_append];rfl
theorem td{w:List Nat×List Nat}(hw:IsW w):∀n:Nat,∀ps:List (List Nat),ps.length=n->(∀p∈ps,IsS p)->(∀s∈mQ w ps,IsS s)/\(mQ w ps).Pairwise SLt/\(mQ w ps).length<=n/\∀q,q∈mQ w ps↔ ∃p∈ps,dU p w.1=q
 |0,ps,hn,_=>by
  obtain rfl:ps=[]:=List.length_eq_zero_iff.1 hn;exact⟨λs hs=>(by cases hs), .nil,Nat.le_refl _,λq=>⟨λh=>(by cases h),λ⟨p,h,_⟩=>(by cases h)⟩⟩
 |n+1,ps,hn,hok=>by
  have hne:ps≠[]:=λe=>by rw[e]at hn;cases hn
  have e:=List.dropLast_concat_getLast hne;have hl:ps.dropLast.length=n:=by rw[List.length_dropLast];omega
  have hx:=hok _ (List.getLast_mem hne);have hd:∀p∈ps.dropLast,IsS p:=λp hp=>hok p ((List.dropLast_sublist ps).subset hp);generalize ps.getLast hne=x at*;generalize ps.dropLast=d at*;subst e;obtain⟨h1,h2,h3,h4⟩:=td hw n d hl hd;rw[u6];have hlx:=hx.less hw.a;refine⟨zj h1 hlx,EE h1 hlx h2,Nat.le_trans (Bw _ _) (by omega),λq=> ?_⟩;rw[B1,h4];constructor
  ·rintro(rfl|⟨p,hp,rfl⟩)
   ·exact⟨x,by simp,rfl⟩
   ·exact⟨p,List.mem_append_left _ hp,rfl⟩
  ·rintro⟨p,hp,rfl⟩;rcases List.mem_append.1 hp with hp|hp
   ·exact .inr ⟨p,hp,rfl⟩
   ·exact .inl (by rw[List.mem_singleton.1 hp])
theorem JU{w:List Nat×List Nat}(hw:IsW w)(o:List Nat):mQ w (j7 w.2 o)=lM w o:=by
 obtain⟨h1,h2,_,h4⟩:=td hw _ (j7 w.2 o) rfl λp hp=>nk hp;exact vZ h1 (λs hs=>qZ hw hs) h2 (AT hw o) λx=>by rw[h4,xu]
def lbS(l:List (List Nat))(i:Nat)(x:List Nat)(n:Nat):Bool:=(List.range n).all λk=> !(!decide (k=i)&&sIn (l.getD k []) x)
theorem JT(l:List (List Nat))(i:Nat)(x:List Nat)(n:Nat):lbS l i x (n+1)=(lbS l i x n&& !(!decide (n=i)&&sIn (l.getD n []) x)):=by
 unfold lbS;rw[List.range_succ,List.all_append];simp
theorem vu{l:List (List Nat)}{k:Nat}{y:List Nat}(h:l[k]? =some y):l.getD k []=y:=by rw[List.getD_eq_getElem?_getD,h];rfl
theorem LL{l:List (List Nat)}(hp:l.Pairwise SLt){i:Nat}{x:List Nat}(hi:l[i]? =some x):lbS l i x l.length= !lK l x:=by
 have key:∀k y,l[k]? =some y->(k=i↔y=x):=λk y hk=>by
  constructor
  ·rintro rfl;rw[hi]at hk;cases hk;rfl
  ·rintro rfl;obtain⟨a1,a2⟩:=List.getElem?_eq_some_iff.1 hi;obtain⟨b1,b2⟩:=List.getElem?_eq_some_iff.1 hk;rcases Nat.lt_trichotomy k i with q|q|q
   ·have:=List.pairwise_iff_getElem.1 hp k i b1 a1 q;rw[a2,b2]at this;exact absurd this (kZ _)
   ·exact q
   ·have:=List.pairwise_iff_getElem.1 hp i k a1 b1 q;rw[a2,b2]at this;exact absurd this (kZ _)
 cases hm:lK l x with
 |true=>
  unfold lK at hm;obtain⟨y,hy,h2⟩:=List.any_eq_true.1 hm;rw[Bool.and_eq_true,Bool.not_eq_true',decide_eq_false_iff_not]at h2;obtain⟨k,hk⟩:=List.getElem?_of_mem hy;have hlt:=(List.getElem?_eq_some_iff.1 hk).1;unfold lbS;rw[Bool.not_true,List.all_eq_false];refine⟨k,List.mem_range.2 hlt,?_⟩;rw[vu hk,h2.2,decide_eq_false (λq=>h2.1 ((key k y hk).1 q))];simp
 |false=>
  unfold lK at hm;unfold lbS;rw[Bool.not_false,List.all_eq_true];intro k hk;obtain⟨y,hy⟩:∃y,l[k]? =some y:=⟨l[k]'(List.mem_range.1 hk),List.getElem?_eq_getElem _⟩;rw[vu hy];have:=List.any_eq_false.1 hm y (List.mem_of_getElem? hy);by_cases e:k=i
  ·rw[decide_eq_true e];rfl
  ·rw[decide_eq_false e];rw[decide_eq_false (λq=>e ((key k y hy).2 q))]at this;cases hs:sIn y x with
   |false=>rfl
   |true=>rw[hs]at this;exact absurd rfl this
structure NS (T:Nat->Option af):Prop where
 rp:NW T
 f95:T 95=some f95
theorem GR(F:NS T){h:Heap}(hr:Rdy h){w:List Nat×List Nat}(hw:IsW w){o:List Nat}(ho:IsS o)(ho0:¬o=s0):Al T 95 [wV w,sv o] h λv h'=>Own h.next h' 8 v (ei w o).length (ssL (ei w o)):=by
 have hp:=F.rp.im.pt.p;refine .of hp F.f95 hr (λv h1 hv q=>Own.EH hv q) ?_;have hwc:cellsOf (wV w)=wL w:=by show(wL w).toArray.toList=_;simp
 have g0:((h.push (.cells (cellsOf (wV w)) true 1)).push (.cells (cellsOf (sv o)) true 1)).get h.next=some (.cells (wL w) true 1):=by rw[hwc];exact(z4 (Nat.lt_succ_self _)).trans (z3 h _)
 have g1:((h.push (.cells (cellsOf (wV w)) true 1)).push (.cells (cellsOf (sv o)) true 1)).get (h.next+1)=some (.cells (us o) true 1):=z3 _ _;have n0:((h.push (.cells (cellsOf (wV w)) true 1)).push (.cells (cellsOf (sv o)) true 1)).next=h.next+2:=rfl
 have x0:Ext h ((h.push (.cells (cellsOf (wV w)) true 1)).push (.cells (cellsOf (sv o)) true 1)):=((Ext.refl h).push _).push _;refine Y5 ?_;generalize((h.push (.cells (cellsOf (wV w)) true 1)).push (.cells (cellsOf (sv o)) true 1))=H at*;have W:=x0.wf hr.wf;have hL:=x0.log.trans hr.log;have wk:=ig hw;have wkl:=eV hw;have wa:=Aq hw;have wb:=y9 hw;have wka:=aG hw.a.len;have wkb:=aG hw.b.len;have k8:=aG ho.len;have k9:=aN ho.len;have C1:=DF F.rp (h:={H with log:=[]}) (.of W) hw.b ho ho0;have hpok:∀x∈j7 w.2 o,IsS x:=λx hx=>nk hx;have hpl:=sE w.2 o;have hAeq:=JU hw o;have hApw:=AT hw o;have hAok:∀x∈lM w o,IsS x:=λx hx=>qZ hw hx;have hAl:=tc w o;unfold ei;generalize lM w o=r at*;generalize j7 w.2 o=ps at*;refine Y5 ?_;refine FW.al C1 (λv h' m ⟨u,e,q⟩=>⟨u,e,q.log m⟩) ?_;rintro _ H2 x2 ⟨u,rfl,q2⟩;have q2:Own H.next H2 8 u ps.length (ssL ps):=q2
 clear C1 g1;have ey2:=x0.trans x2;have W2:=ey2.wf hr.wf;have hL2:=x2.log.trans hL;have n2:=x2.next
 have g02:=(x2.old _ (by omega)).trans g0;have sp:SsQ H2 u ps:=⟨q2.slice (by omega),hpok⟩;obtain⟨a,c,rfl⟩:=sp.sl.form;clear g0 q2;refine Y14 ?_
 refine bD (λm e ds h'=>∃(i:Nat) (v:Value),i<=ps.length/\ps.length-i=m/\e=[(2, .pointer (some ⟨h.next,0,none⟩)),(5, .slice a ps.length c),(7,v),(8, .int .i64 (i:Nat))]/\ds=[]/\Ext H2 h'∧Own H2.next h' 8 v (mQ w (ps.take i)).length (ssL (mQ w (ps.take i))))
  ⟨0,_,Nat.zero_le _,rfl,rfl,rfl, .refl H2, .nil⟩ ?_
 rintro m e ds G ⟨i,v,hi,rfl,rfl,rfl,xG,ow⟩;have WG:=xG.wf W2;have hLG:=xG.log.trans hL2;have nG:=xG.next
 have g0G:=(xG.old _ (by omega)).trans g02;by_cases hlt:i<ps.length
 ·obtain⟨p,hpi⟩:∃s,ps[i]? =some s:=⟨ps[i],List.getElem?_eq_getElem hlt⟩;have hps:=hpok p (List.mem_of_getElem? hpi);have hls:=hps.less hw.a;have kp8:=aG hps.len;obtain⟨bi,oi,c2,vs,own,tt,hv,gl,hbl,el⟩:=(sp.ext xG).elem hpi;cases hv;have mlt:ah .lss (.int .i64 (i:Nat)) (.int .i64 (ps.length:Nat))=some (.bool true):=dz (by omega);have hstep:mQ w (ps.take (i+1))=nL (mQ w (ps.take i)) (dU p w.1):=by rw[dS hpi,u6]
  obtain⟨hlok,_,hll,_⟩:=td hw _ (ps.take i) rfl λx hx=>hpok x (List.mem_of_mem_take hx);rw[List.length_take]at hll;generalize mQ w (ps.take i)=l at*;have D1:=wh hp F.rp.im.rf.f140 (h:={G with log:=[]}) (.of WG) hps hw.a;have D2:=Cu F.rp.im.pt (h:={G with log:=[]}) (.of WG) (lo:=H2.next) (by show H2.next<=G.next;omega) hlok (ow.log []) (by omega) hls;generalize dU p w.1=lx at*;obtain⟨av,cv,rfl⟩:∃a c,v= .slice a l.length c:=(ow.slice (by omega)).form;refine Y21 ?_;refine FW.puD D1 (by(repeat apply aI rfl);apply aM rfl (aC rfl (fR (by exact rfl)) (by exact fO _ _ _)) rfl;exact bg) ?_;clear D1;skip;refine qC ?_;refine FW.alD D2 (λv h' m q=>q.log m) ?_;rintro v5 G5 x5 q5;clear D2;have gl5:=(x5.old _ hbl).trans gl;have g05:=(x5.old _ (show h.next<G.next by omega)).trans g0G;clear gl g0G g02;refine⟨_,by apply aI rfl;exact bg,?_⟩;refine Y10 ?_;exact⟨ps.length-(i+1),by omega,i+1,v5,by omega,rfl,rfl,rfl,xG.trans x5,by rw[hstep];exact q5⟩
 ·obtain rfl:i=ps.length:=by omega
  rw[List.take_length,hAeq]at ow;have mlt:ah .lss (.int .i64 (ps.length:Nat)) (.int .i64 (ps.length:Nat))=some (.bool false):=dA (by omega);have sr:SsQ G v r:=⟨ow.slice (by omega),hAok⟩;obtain⟨a2,c2,rfl⟩:=sr.sl.form;clear hAeq sp ow g02 g0G;refine Y21 ?_
  refine bD (λm e ds h'=>∃(i:Nat) (v:Value),i<=r.length/\r.length-i=m/\e=[(7, .slice a2 r.length c2),(9,v),(10, .int .i64 (i:Nat))]/\ds=[]/\Ext G h'∧Own G.next h' 8 v ((r.take i).filter λx=> !lK r x).length (ssL ((r.take i).filter λx=> !lK r x)))
   ⟨0,_,Nat.zero_le _,rfl,rfl,rfl, .refl G, .nil⟩ ?_
  rintro m e ds G3 ⟨i,v,hi2,rfl,rfl,rfl,x3,ow⟩;have W3:=x3.wf WG;have hL3:=x3.log.trans hLG;have n3:=x3.next
  by_cases hlt:i<r.length
  ·obtain⟨x,hx⟩:∃s,r[i]? =some s:=⟨r[i],List.getElem?_eq_getElem hlt⟩;have hxs:=hAok x (List.mem_of_getElem? hx);have hst:=rH hx (λx=> !lK r x);have hlb:=LL hApw hx;have kx8:=aG hxs.len;have kx9:=aN hxs.len;obtain⟨b,o1,c3,vs,own,tt,hv,gl,hbl,el⟩:=(sr.ext x3).elem hx;cases hv;have hfl:((r.take i).filter λx=> !lK r x).length<=r.length:=Nat.le_trans (List.length_filter_le ..) (by rw[List.length_take];omega);generalize((r.take i).filter λx=> !lK r x)=out at*;have mlt2:ah .lss (.int .i64 (i:Nat)) (.int .i64 (r.length:Nat))=some (.bool true):=dz (by omega);refine Y20 ?_
   refine bD (λm e ds h'=>∃k:Nat,k<=r.length/\r.length-k=m/\e=[(7, .slice (some ⟨b,o1,none⟩) r.length c2),(9,v),(10, .int .i64 (i:Nat)),(11, .bool (lbS r i x k)),(12, .int .i64 (k:Nat))]/\ds=[]/\G3=h')
    ⟨0,Nat.zero_le _,rfl,rfl,rfl,rfl⟩ ?_
   rintro m e ds h' ⟨k,hk,rfl,rfl,rfl,rfl⟩;by_cases hkl:k<r.length
   ·obtain⟨y,hy⟩:∃s,r[k]? =some s:=⟨r[k],List.getElem?_eq_getElem hkl⟩;have hys:=hAok y (List.mem_of_getElem? hy);have ky8:=aG hys.len;have hsk:=JT r i x k;rw[vu hy]at hsk;obtain⟨b2,o2,c3,vs2,own2,tt2,hv,gl2,hbl2,el2⟩:=(sr.ext x3).elem hy;cases hv;obtain⟨rfl,rfl,rfl⟩:vs2=vs/\own2=own/\tt2=tt:=by
     have e:=gl2.symm.trans gl;injection e with e
     injection e with e1 e2 e3
     exact⟨e1,e2,e3⟩
    have mlk:ah .lss (.int .i64 (k:Nat)) (.int .i64 (r.length:Nat))=some (.bool true):=dz (by omega);by_cases hki:k=i
    ·have mn:ah .neq (.int .i64 (k:Nat)) (.int .i64 (i:Nat))=some (.bool false):=nR (by omega);rw[decide_eq_true hki,Bool.not_true,Bool.false_and,Bool.not_false,Bool.and_true]at hsk;refine Y40 ?_;exact⟨r.length-(k+1),by omega,k+1,by omega,rfl,by rw[hsk],rfl,rfl⟩
    ·have mn:ah .neq (.int .i64 (k:Nat)) (.int .i64 (i:Nat))=some (.bool true):=j6 (by omega);rw[decide_eq_false hki,Bool.not_false,Bool.true_and]at hsk;have D:=uZ hp F.rp.im.rf.f52 F.rp.im.rf.f140 (h:={G3 with log:=[]}) (.of W3) hys hxs;cases hin:sIn y x with
     |true=>
      rw[hin]at D hsk;rw[Bool.not_true,Bool.and_false]at hsk;refine Y27 ?_;refine FW.puD D (by(repeat apply aI rfl);exact bg) ?_;clear D;refine Y7 ?_;refine cN ?_;refine Y8 ?_;exact⟨r.length-(k+1),by omega,k+1,by omega,rfl,by rw[hsk],rfl,rfl⟩
     |false=>
      rw[hin]at D hsk;rw[Bool.not_false,Bool.and_true]at hsk;refine Y27 ?_;refine FW.puD D (by(repeat apply aI rfl);exact bg) ?_;clear D;refine Y13 ?_;exact⟨r.length-(k+1),by omega,k+1,by omega,rfl,by rw[hsk],rfl,rfl⟩
   ·obtain rfl:k=r.length:=by omega
    have mlk:ah .lss (.int .i64 (r.length:Nat)) (.int .i64 (r.length:Nat))=some (.bool false):=dA (by omega);rw[hlb];cases hm:lK r x with
    |true=>
     rw[hm,Bool.not_true,if_neg (by simp),List.append_nil]at hst;rw[Bool.not_true];refine Y25 ?_;exact⟨r.length-(i+1),by omega,i+1,v,by omega,rfl,rfl,rfl,x3,by rw[hst];exact ow⟩
    |false=>
     rw[hm,Bool.not_false,if_pos rfl]at hst;rw[Bool.not_false];have hs1x:ssL [x]=us x:=by simp[ssL]
     refine Y23 ?_;refine aB (iy (Ae hxs (by exact rfl)) (show bO (aD 8 (Value.int IntKind.u64 0))=8 from rfl)) ?_;skip;refine sC (lo:=G.next) (c1:=us x) (ow.ext ((Ext.refl G3).push _)) (by omega) (by omega) (by omega) (by show G.next<=G3.next+1;omega) (by omega) (by exact rfl) (by exact rfl) (fF (cs:=us x) (z3 G3 _) kx9 (by rw[aA,hxs.len])) (by rw[aA,hxs.len]) (bB _) ?_;intro v2 h9 o9 x9;refine yM ?_;refine cN ?_;refine Y8 ?_;refine⟨r.length-(i+1),by omega,i+1,v2,by omega,rfl,rfl,rfl,((x3.lx (Nat.le_refl _)).trans ((((Ext.refl G3).push _).lx (by omega)).trans x9)).ext,?_⟩;rw[hst,nq,hs1x,List.length_append];exact o9
  ·obtain rfl:i=r.length:=by omega
   have mlt2:ah .lss (.int .i64 (r.length:Nat)) (.int .i64 (r.length:Nat))=some (.bool false):=dA (by omega);rw[List.take_length]at ow;refine Y18 ?_;exact cK hL3 rfl (ow.low (by omega))
theorem sD{α:Type}{p q:α->Bool}(h:∀x,q x=true->p x=true):∀l:List α,(l.filter λx=>p x&& !q x).length+(l.filter q).length=(l.filter p).length
 |[]=>rfl
 |x::l=>by
  have ih:=sD h l;rw[List.filter_cons,List.filter_cons,List.filter_cons];cases hq:q x with
  |true=>rw[h x hq];simp only[Bool.not_true,Bool.and_false,if_true,List.length_cons];rw[if_neg (by simp)];omega
  |false=>
   cases hp:p x with
   |true=>rw[if_pos (by rfl),if_neg (by simp),if_pos rfl,List.length_cons,List.length_cons];omega
   |false=>rw[if_neg (by simp),if_neg (by simp),if_neg (by simp)];exact ih
theorem HX{a b:List Nat}(ha:IsS a)(hb:IsS b)(h:sIn a b=true):ew (dU b a)+ew a=ew b:=by
 have hs:=(kE ha hb).1 h;unfold ew aR;rw[←sD (p:=dN b) (q:=dN a) hs];congr 2;refine List.filter_congr λc _=> ?_;exact yK hb ha c
structure Hs (T:Nat->Option af):Prop where
 rn:NS T
 rs:N0 T
 f23:T 23=some f23
 f94:T 94=some f94
 f198:T 198=some f198
theorem Li(F:Hs T){h:Heap}(hr:Rdy h){w:List Nat×List Nat}(hw:IsW w):Pu T 198 [wV w] h (sv (dU w.2 w.1)):=by
 have hp:=F.rn.rp.im.pt.p;refine .of hp F.f198 hr (nE _) ?_;have hwc:cellsOf (wV w)=wL w:=by show(wL w).toArray.toList=_;simp
 have g0:((h.push (.cells (cellsOf (wV w)) true 1)).push (.cells (aD 8 (.int .u64 0)) true 1)).get h.next=some (.cells (wL w) true 1):=by rw[hwc];exact(z4 (Nat.lt_succ_self _)).trans (z3 h _)
 have g1:((h.push (.cells (cellsOf (wV w)) true 1)).push (.cells (aD 8 (.int .u64 0)) true 1)).get (h.next+1)=some (.cells (us s0) true 1):=z3 _ _;have n0:((h.push (.cells (cellsOf (wV w)) true 1)).push (.cells (aD 8 (.int .u64 0)) true 1)).next=h.next+2:=rfl
 have x0:Ext h ((h.push (.cells (cellsOf (wV w)) true 1)).push (.cells (aD 8 (.int .u64 0)) true 1)):=((Ext.refl h).push _).push _;refine Y4 ?_;generalize((h.push (.cells (cellsOf (wV w)) true 1)).push (.cells (aD 8 (.int .u64 0)) true 1))=H at*;have W:=x0.wf hr.wf;have hL:=x0.log.trans hr.log;have wa:=Aq hw;have wb:=y9 hw;have wka:=aG hw.a.len;have wkb:=aG hw.b.len;have hls:=hw.b.less hw.a;have C:=wh hp F.rn.rp.im.rf.f140 (h:={H with log:=[]}) (.of W) hw.b hw.a;generalize dU w.2 w.1=ls at*;have kl8:=aG hls.len;have kl9:=aN hls.len;have kll:=hls.len;refine Y6 ?_;refine FW.pu C ?_;refine aB (aO (by exact rfl) (by exact rfl) (by assumption) (by(simp only[aA];assumption)) (by exact rfl) (by exact bB _)) ?_;refine y3 ?_;refine lY ?_;refine an ?_ (aX (own:=true) (s:=1) rfl ?_ kl9 kl8 rfl) rfl
 ·rw[Heap.aq (by show h.next<=h.next+1;omega)];exact hL
 ·exact YG
theorem Pa(F:Hs T){h:Heap}(hr:Rdy h){w:List Nat×List Nat}(hw:IsW w)(hin:sIn w.1 w.2=true):Pu T 94 [wV w] h (.int .i64 (if rC w then 82 else 0)):=by
 have hp:=F.rn.rp.im.pt.p;refine .of hp F.f94 hr rfl ?_;have hwc:cellsOf (wV w)=wL w:=by show(wL w).toArray.toList=_;simp
 have g0:(h.push (.cells (cellsOf (wV w)) true 1)).get h.next=some (.cells (wL w) true 1):=by rw[hwc];exact z3 h _
 have W:WF (h.push (.cells (cellsOf (wV w)) true 1)):=hr.wf.push _;have hL:(h.push (.cells (cellsOf (wV w)) true 1)).log=[]:=hr.log;refine Y4 ?_;generalize(h.push (.cells (cellsOf (wV w)) true 1))=H at*;have wk:=ig hw;have wkl:=eV hw;have C1:=Li F (h:={H with log:=[]}) (.of W) hw;have C2:=AE F.rn.rp.im.rf.tr.cr F.rn.rp.im.rf.f84 (h:={H with log:=[]}) (.of W) (hw.b.less hw.a);have hc:=HX hw.a hw.b hin;have hm:rC w=decide (64<ew (dU w.2 w.1)):=by
  unfold rC;by_cases q:64<ew (dU w.2 w.1)
  ·rw[decide_eq_true q,decide_eq_true (by omega)]
  ·rw[decide_eq_false q,decide_eq_false (by omega)]
 rw[hm];generalize ew (dU w.2 w.1)=n at*;by_cases q:64<n
 ·have m1:ah .gtr (.int .i64 (n:Nat)) (.int .i64 64)=some (.bool true):=ic (by omega);rw[if_pos (by rw[decide_eq_true q])];refine Y4 ?_;refine FW.pu C1 ?_;clear C1;skip;refine yC ?_;refine FW.pu C2 ?_;clear C2;refine Y8 ?_;exact an hL rfl rfl
 ·have m1:ah .gtr (.int .i64 (n:Nat)) (.int .i64 64)=some (.bool false):=ij (by omega);rw[if_neg (by rw[decide_eq_false q];simp)];refine Y4 ?_;refine FW.pu C1 ?_;clear C1;skip;refine yC ?_;refine FW.pu C2 ?_;clear C2;refine Y9 ?_;exact an hL rfl rfl
def sY(x:Nat):List Nat->Nat->Int
 |[],_=> -1
 |r::l,i=>if r=x then(i:Int)else sY x l (i+1)
theorem F4(x:Nat){l:List Nat}{i r:Nat}(hi:l[i]? =some r):sY x (l.drop i) i=if r=x then(i:Int)else sY x (l.drop (i+1)) (i+1):=by
 obtain⟨hlt,rfl⟩:=List.getElem?_eq_some_iff.1 hi;rw[List.drop_eq_getElem_cons hlt,sY]
theorem Ka(x:Nat)(l:List Nat):sY x (l.drop l.length) l.length= -1:=by rw[List.drop_length];rfl
def ug(l:List Nat):Bool:=l.any λk=>decide (k=3)
theorem BZ:∀(l:List Nat) (i:Nat),decide (0<=sY 3 l i)=ug l
 |[],_=>rfl
 |r::l,i=>by
  unfold ug;rw[sY,List.any_cons];by_cases h:r=3
  ·rw[if_pos h,decide_eq_true h,Bool.true_or];exact decide_eq_true (by omega)
  ·rw[if_neg h,decide_eq_false h,Bool.false_or];exact BZ l (i+1)
structure Jf (T:Nat->Option af):Prop where
 ju:Kt T
 f64:T 64=some f64
 f157:T 157=some f157
 f232:T 232=some f232
theorem EG{l:List Nat}{i k:Nat}(h:l[i]? =some k):(fL l)[i]? =some (.int .u8 (k:Nat)):=by simp[fL,h]
theorem Bf(F:Jf T){h:Heap}(hr:Rdy h){v:Value}{l:List Nat}(s:bA h 1 v l.length (fL l))(hn:l.length<1000000):Pu T 157 [v, .int .u8 3] h (.bool (ug l)):=by
 have hp:=F.ju.cb.fn.p;refine .of hp F.f157 hr rfl ?_;obtain⟨a,c,rfl⟩:=s.form;have C:Pu T 232 [.slice a l.length c, .int .u8 3] {h with log:=[]} (.int .i64 (sY 3 l 0)):=by
  refine .of hp F.f232 (.of hr.wf) rfl ?_;refine Y10 ?_
  refine bD (λm e ds h'=>∃i:Nat,i<=l.length/\m=l.length-i/\e=[(0, .slice a l.length c),(1, .int .u8 3),(7, .int .i64 (l.length:Nat)),(8, .int .i64 (i:Nat))]/\ds=[]/\{h with log:=[]}=h'∧sY 3 l 0=sY 3 (l.drop i) i)
   ⟨0,Nat.zero_le _,rfl,rfl,rfl,rfl,rfl⟩ ?_
  rintro m e ds _ ⟨i,hin,rfl,rfl,rfl,rfl,hi⟩;by_cases hlt:i<l.length
  ·obtain⟨r,hri⟩:∃r,l[i]? =some r:=⟨l[i],List.getElem?_eq_getElem hlt⟩;obtain⟨b,o,c2,vs,own,t,hv,g1,hb,g2⟩:=tN (s.log []) (EG hri);cases hv;have mlt:ah .lss (.int .i64 (i:Nat)) (.int .i64 (l.length:Nat))=some (.bool true):=dz (by omega);rw[F4 3 hri]at hi;by_cases hr3:r=3
   ·rw[if_pos hr3]at hi;have m1:ah .eql (.int .u8 3) (.int .u8 (r:Nat))=some (.bool true):=vI (by omega);rw[hi];refine Y32 ?_;exact an rfl rfl rfl
   ·rw[if_neg hr3]at hi;have m1:ah .eql (.int .u8 3) (.int .u8 (r:Nat))=some (.bool false):=mg (by omega);refine Y29 ?_;exact⟨l.length-(i+1),by omega,i+1,by omega,rfl,rfl,rfl,rfl,hi⟩
  ·obtain rfl:i=l.length:=by omega
   have mlt:ah .lss (.int .i64 (l.length:Nat)) (.int .i64 (l.length:Nat))=some (.bool false):=dA (by omega);rw[Ka]at hi;rw[hi];refine Y14 ?_;exact an rfl rfl rfl
 rw[←BZ l 0];generalize sY 3 l 0=z at C⊢;refine Y7 ?_;refine FW.pu C ?_;clear C;have m1:ah .geq (.int .i64 z) (.int .i64 0)=some (.bool (decide (0<=z))):=B7;refine Y4 ?_;exact an hr.log rfl rfl
def uk(w:List Nat×List Nat)(l:List Pb)(fs:List Int)(os:List (List Nat)):Bool×Int:=(decide ((jS w l fs os).2=0)&& !ug (jS w l fs os).1,(jS w l fs os).2)
theorem wH(w:List Nat×List Nat)(l:List Pb)(fs:List Int)(os:List (List Nat)):(jS w l fs os).1.length<=os.length:=by
 unfold jS;split
 ·exact Nat.zero_le _
 ·split
  ·exact Nat.zero_le _
  ·split
   ·exact Nat.zero_le _
   ·split
    ·exact Nat.zero_le _
    ·rw[List.length_map];exact Nat.le_refl _
theorem FT(F:Jf T){h:Heap}(hr:Rdy h)(hg:Tab h)(h2:2<h.next){w:List Nat×List Nat}(hw:IsW w){pv:Value}{l:List Pb}(sp:PbS h pv l)(hl:l.length<1000000){v:Value}{fs:List Int}(sf:bA h 1 v fs.length (ints fs))(hfl:fs.length<1000000){ov:Value}{os:List (List Nat)}(so:SsQ h ov os)(hol:os.length<1000000):
 Pu T 64 [wV w,pv,v,ov] h (.tuple #[.bool (uk w l fs os).1, .int .i64 (uk w l fs os).2]):=by
 refine .of F.ju.cb.fn.p F.f64 hr rfl ?_;have hwc:cellsOf (wV w)=wL w:=by show(wL w).toArray.toList=_;simp
 obtain⟨a,c,rfl⟩:=sp.form;obtain⟨a2,c2,rfl⟩:=sf.form;obtain⟨a3,c3,rfl⟩:=so.sl.form;have x0:Ext h (h.push (.cells (cellsOf (wV w)) true 1)):=(Ext.refl h).push _;have g0:(h.push (.cells (cellsOf (wV w)) true 1)).get h.next=some (.cells (wL w) true 1):=by rw[hwc];exact z3 h _
 have n0:(h.push (.cells (cellsOf (wV w)) true 1)).next=h.next+1:=rfl
 refine Y5 ?_;generalize(h.push (.cells (cellsOf (wV w)) true 1))=H at*;have W:=x0.wf hr.wf;have hL:=x0.log.trans hr.log;have wk:=ig hw;have wkl:=eV hw;have C:=Bs F.ju (h:={H with log:=[]}) (.of W) (show Tab H from hg.ext x0 h2) (by show 2<H.next;omega) hw ((sp.ext x0).log []) hl ((sf.ext x0).log []) hfl ((so.ext x0).log []) hol;have hjl:=wH w l fs os;unfold uk;generalize(jS w l fs os).2=er at*;generalize(jS w l fs os).1=js at*;refine Y6 ?_;refine FW.al C (λv h' m ⟨u,e,q⟩=>⟨u,e,q.log m⟩) ?_;rintro _ H1 x1 ⟨u,rfl,q1⟩;clear C;have W1:=x1.wf W;have hL1:=x1.log.trans hL;have s1:=q1.slice (by omega);have C2:=Bf F (h:={H1 with log:=[]}) (.of W1) (s1.log []) (by omega);generalize ug js=b3 at*;by_cases he:er=0
 ·have m1:ah .eql (.int .i64 er) (.int .i64 0)=some (.bool true):=vI he;rw[decide_eq_true he];refine Y14 ?_;refine FW.pu C2 ?_;refine Y8 ?_;exact an hL1 rfl rfl
 ·have m1:ah .eql (.int .i64 er) (.int .i64 0)=some (.bool false):=mg he;rw[decide_eq_false he];refine Y19 ?_;exact an hL1 rfl rfl
structure AU (T:Nat->Option af):Prop where
 p:aP T
 f52:T 52=some f52
 f53:T 53=some f53
 f112:T 112=some f112
 f113:T 113=some f113
 f115:T 115=some f115
 f118:T 118=some f118
 f140:T 140=some f140
 f208:T 208=some f208
theorem tF(F:AU T){h:Heap}(hr:Rdy h){v:Value}{l:List Pb}(s:PbS h v l)(hn:l.length<1000000):Pu T 53 [v] h (.int .i64 (prE l)):=by
 refine .of F.p F.f53 hr rfl ?_;obtain⟨a,c,rfl⟩:=s.form;have hL:=hr.log;unfold prE;by_cases h8:8<l.length
 ·have m1:ah .gtr (.int .i64 (l.length:Nat)) (.int .i64 8)=some (.bool true):=ic (by omega);rw[if_pos h8];refine Y15 ?_;exact an hL rfl rfl
 rw[if_neg h8];have m1:ah .gtr (.int .i64 (l.length:Nat)) (.int .i64 8)=some (.bool false):=ij (by omega);refine Y17 ?_
 refine bD (λm e ds h'=>∃i:Nat,i<=l.length/\l.length-i=m/\e=[(0, .slice a l.length c),(3, .int .i64 (i:Nat))]/\ds=[]/\h=h'∧(l.take i).any lu=false)
  ⟨0,Nat.zero_le _,rfl,rfl,rfl,rfl,rfl⟩ ?_
 rintro m e ds _ ⟨i,hi,rfl,rfl,rfl,rfl,hno⟩;by_cases hlt:i<l.length
 ·obtain⟨p,hpi⟩:∃r,l[i]? =some r:=⟨l[i],List.getElem?_eq_getElem hlt⟩;have hpm:=List.mem_of_getElem? hpi;have hps:=s.ok p hpm;obtain⟨b,o,c2,vs,own,t,hv,gl,hb,gat⟩:=s.elem hpi;cases hv;have k1:=gat.cells;have k2:=aG hps.len;have k3:=gat.cost;have mlt:ah .lss (.int .i64 (i:Nat)) (.int .i64 (l.length:Nat))=some (.bool true):=dz (by omega);have C:=ND F.p F.f113 (h:={h with log:=[]}) (.of hr.wf) p.cost 1 1000;have hst:(l.take (i+1)).any lu=((l.take i).any lu||lu p):=by
   obtain⟨hlt2,rfl⟩:=List.getElem?_eq_some_iff.1 hpi;rw[List.take_succ_eq_append_getElem hlt2,List.any_append];simp
  have hyes:lu p=true->l.any lu=true:=λq=>List.any_eq_true.2 ⟨p,hpm,q⟩;have hbad:lu p=(decide (p.cells=s0)|| !inR p.cost 1 1000):=rfl;generalize inR p.cost 1 1000=b2 at*;by_cases hz:p.cells=s0
  ·rw[decide_eq_true hz,Bool.true_or]at hbad;rw[if_pos (hyes hbad)];refine Y19 ?_;refine aB (iI (b:=s0) (by exact rfl) (by exact rfl) hps.len rfl) ?_;rw[decide_eq_true hz];refine Y20 ?_;exact an hL rfl rfl
  ·rw[decide_eq_false hz,Bool.false_or]at hbad;cases b2 with
   |false=>
    rw[if_pos (hyes hbad)];refine Y19 ?_;refine aB (iI (b:=s0) (by exact rfl) (by exact rfl) hps.len rfl) ?_;rw[decide_eq_false hz];refine Y13 ?_;refine FW.pu C ?_;refine Y14 ?_;exact an hL rfl rfl
   |true=>
    refine Y19 ?_;refine aB (iI (b:=s0) (by exact rfl) (by exact rfl) hps.len rfl) ?_;rw[decide_eq_false hz];refine Y13 ?_;refine FW.pu C ?_;refine Y13 ?_;exact⟨l.length-(i+1),by omega,i+1,by omega,rfl,rfl,rfl,rfl,by rw[hst,hno,hbad];rfl⟩
 ·obtain rfl:i=l.length:=by omega
  have mlt:ah .lss (.int .i64 (l.length:Nat)) (.int .i64 (l.length:Nat))=some (.bool false):=dA (by omega);rw[List.take_length]at hno;rw[if_neg (by rw[hno];simp)];refine Y17 ?_;exact an hL rfl rfl
theorem MH(fs:List Int)(n:Nat):(jq fs n).2=(decide (fs.length=n)&&mB fs):=by
 unfold jq;split
 ·rename_i h;rcases h with q|q
  ·rw[decide_eq_false (by omega),Bool.false_and]
  ·rw[q,Bool.and_false]
 ·rename_i h;cases q:mB fs with
  |false=>exact absurd (.inr q) h
  |true=>rw[Bool.and_true]
theorem xM(F:AU T){h:Heap}(hr:Rdy h){pv:Value}{l:List Pb}(sp:PbS h pv l){v:Value}{fs:List Int}(sf:bA h 1 v fs.length (ints fs))(hfl:fs.length<1000000):Pu T 112 [pv,v] h (.int .i64 (if(jq fs l.length).2 then 0 else 1)):=by
 refine .of F.p F.f112 hr rfl ?_;obtain⟨a,c,rfl⟩:=sp.form;obtain⟨a2,c2,rfl⟩:=sf.form;have hL:=hr.log;rw[MH];by_cases he:fs.length=l.length
 ·have m1:ah .neq (.int .i64 (fs.length:Nat)) (.int .i64 (l.length:Nat))=some (.bool false):=nR (by omega);rw[decide_eq_true he,Bool.true_and];refine Y19 ?_
  refine bD (λm e ds h'=>∃i:Nat,i<=fs.length/\fs.length-i=m/\e=[(1, .slice a2 fs.length c2),(5, .int .i64 (i:Nat))]/\ds=[]/\h=h'∧mB (fs.take i)=true)
   ⟨0,Nat.zero_le _,rfl,rfl,rfl,rfl,rfl⟩ ?_
  rintro m e ds _ ⟨i,hi,rfl,rfl,rfl,rfl,hok⟩;by_cases hlt:i<fs.length
  ·obtain⟨x,hx⟩:∃s,fs[i]? =some s:=⟨fs[i],List.getElem?_eq_getElem hlt⟩;obtain⟨b,o,c3,vs,own,tt,hv,gl,hbl,el⟩:=tN sf (ints_at hx);cases hv;have mlt:ah .lss (.int .i64 (i:Nat)) (.int .i64 (fs.length:Nat))=some (.bool true):=dz (by omega);have C:=ND F.p F.f113 (h:={h with log:=[]}) (.of hr.wf) x 0 2;have hst:mB (fs.take (i+1))=(mB (fs.take i)&&inR x 0 2):=by
    obtain⟨hlt2,rfl⟩:=List.getElem?_eq_some_iff.1 hx;unfold mB;rw[List.take_succ_eq_append_getElem hlt2,List.all_append];simp
   have hno:inR x 0 2=false->mB fs=false:=λq=>by
    unfold mB;rw[List.all_eq_false];exact⟨x,List.mem_of_getElem? hx,by rw[q];simp⟩
   cases hin:inR x 0 2 with
   |false=>
    rw[hin]at C;rw[hno hin,if_neg (by simp)];refine Y18 ?_;refine FW.pu C ?_;refine Y12 ?_;exact an hL rfl rfl
   |true=>
    rw[hin]at C hst;refine Y18 ?_;refine FW.pu C ?_;refine Y11 ?_;exact⟨fs.length-(i+1),by omega,i+1,by omega,rfl,rfl,rfl,rfl,by rw[hst,hok];rfl⟩
  ·obtain rfl:i=fs.length:=by omega
   have mlt:ah .lss (.int .i64 (fs.length:Nat)) (.int .i64 (fs.length:Nat))=some (.bool false):=dA (by omega);rw[List.take_length]at hok;rw[hok,if_pos rfl];refine Y17 ?_;exact an hL rfl rfl
 ·have m1:ah .neq (.int .i64 (fs.length:Nat)) (.int .i64 (l.length:Nat))=some (.bool true):=j6 (by omega);rw[decide_eq_false he,Bool.false_and,if_neg (by simp)];refine Y17 ?_;exact an hL rfl rfl
theorem EF{fs:List Int}(h:mB fs=true){i:Nat}{x:Int}(hx:fs[i]? =some x):∃k:Nat,x=(k:Int)/\k<=2:=by
 have:=List.all_eq_true.1 h x (List.mem_of_getElem? hx);have:=of_decide_eq_true this;exact⟨x.toNat,by omega,by omega⟩
theorem GZ{l:List Pb}{fs:List Int}{i:Nat}{p:Pb}{k:Nat}(hp:l[i]? =some p)(hk:fs[i]? =some ((k:Nat):Int)):(zsF l fs)[i]? =some (p,k):=Da hp (by rw[List.getElem?_map,hk];rfl)
theorem Ex{l:List Pb}{fs:List Int}(h:fs.length=l.length):(zsF l fs).length=l.length:=by
 unfold zsF;rw[List.length_zip,List.length_map];omega
theorem IS{l:List Pb}{fs:List Int}(h:∀p∈l,IsS p.cells):∀x∈zsF l fs,IsS x.1.cells:=oD h
def trQ(t:List Nat)(x:Pb×Nat):Bool:= !((decide (x.2=1)&& !sIn x.1.cells t)||(decide (x.2=2)&&sIn x.1.cells t))
theorem Oh(w:List Nat×List Nat)(z:Zs)(t:List Nat):trB w z t=(sIn w.1 t&&sIn t w.2&&z.all (trQ t)):=rfl
theorem B6(F:AU T){h:Heap}(hr:Rdy h){w:List Nat×List Nat}(hw:IsW w){pv:Value}{l:List Pb}(sp:PbS h pv l)(hl:l.length<1000000){v:Value}{fs:List Int}(sf:bA h 1 v fs.length (ints fs))(hfe:fs.length=l.length)(hok:mB fs=true){s:List Nat}(hs:IsS s):
 Pu T 208 [wV w,pv,v,sv s] h (.bool (trB w (zsF l fs) s)):=by
 refine .of F.p F.f208 hr rfl ?_;have hwc:cellsOf (wV w)=wL w:=by show(wL w).toArray.toList=_;simp
 obtain⟨a,c,rfl⟩:=sp.form;obtain⟨a2,c2,rfl⟩:=sf.form;have x0:Ext h ((h.push (.cells (cellsOf (wV w)) true 1)).push (.cells (cellsOf (sv s)) true 1)):=((Ext.refl h).push _).push _;have g0:((h.push (.cells (cellsOf (wV w)) true 1)).push (.cells (cellsOf (sv s)) true 1)).get h.next=some (.cells (wL w) true 1):=by rw[hwc];exact(z4 (Nat.lt_succ_self _)).trans (z3 h _)
 have g1:((h.push (.cells (cellsOf (wV w)) true 1)).push (.cells (cellsOf (sv s)) true 1)).get (h.next+1)=some (.cells (us s) true 1):=z3 _ _;have n0:((h.push (.cells (cellsOf (wV w)) true 1)).push (.cells (cellsOf (sv s)) true 1)).next=h.next+2:=rfl
 refine Y5 ?_;generalize((h.push (.cells (cellsOf (wV w)) true 1)).push (.cells (cellsOf (sv s)) true 1))=H at*;have W:=x0.wf hr.wf;have hL:=x0.log.trans hr.log;have wa:=Aq hw;have wb:=y9 hw;have wka:=aG hw.a.len;have wkb:=aG hw.b.len;have k8:=aG hs.len;have k9:=aN hs.len;have C1:=uZ F.p F.f52 F.f140 (h:={H with log:=[]}) (.of W) hw.a hs;have C2:=uZ F.p F.f52 F.f140 (h:={H with log:=[]}) (.of W) hs hw.b;rw[Oh];cases h1:sIn w.1 s with
 |false=>
  rw[h1]at C1;refine Y6 ?_;refine FW.pu C1 ?_;refine Y15 ?_;exact an hL rfl rfl
 |true=>
 rw[h1]at C1;cases h2:sIn s w.2 with
 |false=>
  rw[h2]at C2;refine Y6 ?_;refine FW.pu C1 ?_;refine Y10 ?_;refine FW.pu C2 ?_;refine Y10 ?_;exact an hL rfl rfl
 |true=>
 rw[h2]at C2;rw[Bool.true_and,Bool.true_and];have hzl:=Ex hfe;have spH:=sp.ext x0;have sfH:=sf.ext x0;refine Y6 ?_;refine FW.pu C1 ?_;refine Y10 ?_;refine FW.pu C2 ?_;clear C1 C2;refine Y12 ?_
 refine bD (λm e ds h'=>∃i:Nat,i<=l.length/\l.length-i=m/\e=[(1, .slice a l.length c),(2, .slice a2 fs.length c2),(7, .pointer (some ⟨h.next+1,0,none⟩)),(9, .int .i64 (i:Nat))]/\ds=[]/\H=h'∧((zsF l fs).take i).all (trQ s)=true)
  ⟨0,Nat.zero_le _,rfl,rfl,rfl,rfl,rfl⟩ ?_
 rintro m e ds _ ⟨i,hi,rfl,rfl,rfl,rfl,hall⟩;by_cases hlt:i<l.length
 ·obtain⟨p,hpi⟩:∃r,l[i]? =some r:=⟨l[i],List.getElem?_eq_getElem hlt⟩;have hps:=sp.ok p (List.mem_of_getElem? hpi);obtain⟨b,o,c3,vs,own,t,hv,gl,hb,gat⟩:=spH.elem hpi;cases hv;obtain⟨x,hx⟩:∃s,fs[i]? =some s:=⟨fs[i]'(by omega),List.getElem?_eq_getElem _⟩;obtain⟨k,rfl,hk⟩:=EF hok hx;obtain⟨b2,o2,c4,vs2,own2,t2,hv,gl2,hb2,el2⟩:=tN sfH (ints_at hx);cases hv;have k1:=gat.cells;have k2:=aG hps.len;have mlt:ah .lss (.int .i64 (i:Nat)) (.int .i64 (l.length:Nat))=some (.bool true):=dz (by omega);have C:=uZ F.p F.f52 F.f140 (h:={H with log:=[]}) (.of W) hps hs;have hz:=GZ hpi hx;have hst:((zsF l fs).take (i+1)).all (trQ s)=(((zsF l fs).take i).all (trQ s)&&trQ s (p,k)):=by rw[DS hz,List.all_append];simp
  have hno:trQ s (p,k)=false->(zsF l fs).all (trQ s)=false:=λq=>by rw[List.all_eq_false];exact⟨_,List.mem_of_getElem? hz,by rw[q];simp⟩
  have htq:trQ s (p,k)= !((decide (k=1)&& !sIn p.cells s)||(decide (k=2)&&sIn p.cells s)):=rfl;generalize trQ s (p,k)=tq at*;have m1:ah .eql (.int .i64 (k:Nat)) (.int .i64 1)=some (.bool (decide (k=1))):=tG (c:=1) rfl;have m2:ah .eql (.int .i64 (k:Nat)) (.int .i64 2)=some (.bool (decide (k=2))):=tG (c:=2) rfl;cases hin:sIn p.cells s with
  |true=>
   rw[hin]at C htq;by_cases hk2:k=2
   ·rw[decide_eq_true hk2,decide_eq_false (show¬k=1 by omega)]at htq;rw[decide_eq_false (show¬k=1 by omega)]at m1;rw[decide_eq_true hk2]at m2;rw[hno htq];refine Y21 ?_;refine FW.puD C (by(repeat apply aI rfl);exact bg) ?_;refine Y40 ?_;refine Y3 ?_;exact an hL rfl rfl
   ·rw[decide_eq_false hk2,Bool.not_true,Bool.and_false]at htq;rw[decide_eq_false hk2]at m2;by_cases hk1:k=1
    ·rw[decide_eq_true hk1]at m1;refine Y21 ?_;refine FW.puD C (by(repeat apply aI rfl);exact bg) ?_;refine Y40 ?_;refine Y3 ?_;exact⟨l.length-(i+1),by omega,i+1,by omega,rfl,rfl,rfl,rfl,by rw[hst,hall,htq];rfl⟩
    ·rw[decide_eq_false hk1]at m1;refine Y21 ?_;refine FW.puD C (by(repeat apply aI rfl);exact bg) ?_;refine Y39 ?_;refine Y2 ?_;exact⟨l.length-(i+1),by omega,i+1,by omega,rfl,rfl,rfl,rfl,by rw[hst,hall,htq];rfl⟩
  |false=>
   rw[hin]at C htq;by_cases hk1:k=1
   ·rw[decide_eq_true hk1]at m1 htq;rw[hno htq];refine Y21 ?_;refine FW.puD C (by(repeat apply aI rfl);exact bg) ?_;refine Y23 ?_;refine ng (by exact rfl) ?_;refine Y13 ?_;exact an hL rfl rfl
   ·rw[decide_eq_false hk1,Bool.false_and,Bool.and_false]at htq;rw[decide_eq_false hk1]at m1;by_cases hk2:k=2
    ·rw[decide_eq_true hk2]at m2;refine Y21 ?_;refine FW.puD C (by(repeat apply aI rfl);exact bg) ?_;refine Y40 ?_;refine Y2 ?_;exact⟨l.length-(i+1),by omega,i+1,by omega,rfl,rfl,rfl,rfl,by rw[hst,hall,htq];rfl⟩
    ·rw[decide_eq_false hk2]at m2;refine Y21 ?_;refine FW.puD C (by(repeat apply aI rfl);exact bg) ?_;refine Y39 ?_;refine Y2 ?_;exact⟨l.length-(i+1),by omega,i+1,by omega,rfl,rfl,rfl,rfl,by rw[hst,hall,htq];rfl⟩
 ·obtain rfl:i=l.length:=by omega
  have mlt:ah .lss (.int .i64 (l.length:Nat)) (.int .i64 (l.length:Nat))=some (.bool false):=dA (by omega);rw[←hzl,List.take_length]at hall;rw[hall];refine Y17 ?_;exact an hL rfl rfl
theorem pO(F:AU T){h:Heap}(hr:Rdy h){w:List Nat×List Nat}(hw:IsW w){pv:Value}{l:List Pb}(sp:PbS h pv l)(hl:l.length<1000000){v:Value}{fs:List Int}(sf:bA h 1 v fs.length (ints fs))(hfe:fs.length=l.length)(hok:mB fs=true):
 Pu T 115 [wV w,pv,v] h (.tuple #[sv (bsS w.1 (zsF l fs)), .bool (bsB w (zsF l fs))]):=by
 refine .of F.p F.f115 hr (D0 _ _) ?_;have hwc:cellsOf (wV w)=wL w:=by show(wL w).toArray.toList=_;simp
 obtain⟨a,c,rfl⟩:=sp.form;obtain⟨a2,c2,rfl⟩:=sf.form;have x0:Ext h ((h.push (.cells (cellsOf (wV w)) true 1)).push (.cells (aD 8 (.int .u64 0)) true 1)):=((Ext.refl h).push _).push _;have g0:((h.push (.cells (cellsOf (wV w)) true 1)).push (.cells (aD 8 (.int .u64 0)) true 1)).get h.next=some (.cells (wL w) true 1):=by rw[hwc];exact(z4 (Nat.lt_succ_self _)).trans (z3 h _)
 have g1:((h.push (.cells (cellsOf (wV w)) true 1)).push (.cells (aD 8 (.int .u64 0)) true 1)).get (h.next+1)=some (.cells (us s0) true 1):=z3 _ _;have n0:((h.push (.cells (cellsOf (wV w)) true 1)).push (.cells (aD 8 (.int .u64 0)) true 1)).next=h.next+2:=rfl
 have hnx:(h.push (.cells (cellsOf (wV w)) true 1)).next=h.next+1:=rfl
 refine Y5 ?_;generalize((h.push (.cells (cellsOf (wV w)) true 1)).push (.cells (aD 8 (.int .u64 0)) true 1))=H at*;rw[hnx];clear hnx;have W:=x0.wf hr.wf;have hL:=x0.log.trans hr.log;have wa:=Aq hw;have wka:=aG hw.a.len;have wk:=ig hw;have wkl:=eV hw;have kan:=hw.a.len;have hzl:=Ex hfe;have hzok:=IS (fs:=fs) sp.ok;have spH:=sp.ext x0;have sfH:=sf.ext x0;refine dI (E0:=[(1, .slice a l.length c),(2, .slice a2 fs.length c2),(3, .pointer (some ⟨h.next,0,none⟩)),(6, .pointer (some ⟨h.next+1,0,none⟩)),(8, .pointer (some ⟨H.next,0,none⟩))]) (P:=λh'=>Ext H h'∧h'.next=H.next+1/\h'.get H.next=some (.cells (us w.1) true 1)) ?_ ?_
 ·refine Y4 ?_;refine aB (aO (by exact rfl) (by exact rfl) YG (by(simp only[aA];assumption)) (by exact rfl) (by exact bB _)) ?_;refine cN ?_;refine y1 ?_;exact⟨rfl,rfl,rfl,dO (by omega) _ _,rfl,YG⟩
 rintro H1 ⟨x1,n1,g8⟩;refine Y5 ?_
 refine bD (λm e ds h'=>∃i:Nat,i<=l.length/\l.length-i=m/\e=[(1, .slice a l.length c),(2, .slice a2 fs.length c2),(3, .pointer (some ⟨h.next,0,none⟩)),(6, .pointer (some ⟨h.next+1,0,none⟩)),(8, .pointer (some ⟨H.next,0,none⟩)),(9, .int .i64 (i:Nat))]/\ds=[]/\Ext H h'∧h'.next=H.next+1/\h'.get H.next=some (.cells (us (bsS w.1 ((zsF l fs).take i))) true 1))
  ⟨0,Nat.zero_le _,rfl,rfl,rfl,x1,n1,g8⟩ ?_
 clear g8 x1 n1;rintro m e ds G ⟨i,hi,rfl,rfl,rfl,xG,nG,g8⟩;have WG:=xG.wf W;have hLG:=xG.log.trans hL;have g0G:=(xG.old _ (by omega)).trans g0;have g1G:=(xG.old _ (by omega)).trans g1;have hso:IsS (bsS w.1 ((zsF l fs).take i)):=j0 hw.a λx hx=>hzok x (List.mem_of_mem_take hx);by_cases hlt:i<l.length
 ·obtain⟨p,hpi⟩:∃r,l[i]? =some r:=⟨l[i],List.getElem?_eq_getElem hlt⟩;have hps:=sp.ok p (List.mem_of_getElem? hpi);obtain⟨b,o,c3,vs,own,t,hv,gl,hb,gat⟩:=(spH.ext xG).elem hpi;cases hv;obtain⟨x,hx⟩:∃s,fs[i]? =some s:=⟨fs[i]'(by omega),List.getElem?_eq_getElem _⟩;obtain⟨k,rfl,hk⟩:=EF hok hx;obtain⟨b2,o2,c4,vs2,own2,t2,hv,gl2,hb2,el2⟩:=tN (sfH.ext xG) (ints_at hx);cases hv;have k1:=gat.cells;have k2:=aG hps.len;have mlt:ah .lss (.int .i64 (i:Nat)) (.int .i64 (l.length:Nat))=some (.bool true):=dz (by omega);have hst:bsS w.1 ((zsF l fs).take (i+1))=bsJ (bsS w.1 ((zsF l fs).take i)) (p,k):=by
   unfold bsS;rw[DS (GZ hpi hx),List.foldl_append];rfl
  generalize bsS w.1 ((zsF l fs).take i)=s at*;have ks8:=aG hso.len;have ks9:=aN hso.len;have ksn:=hso.len;have mk:ah .eql (.int .i64 (k:Nat)) (.int .i64 1)=some (.bool (decide (k=1))):=tG (c:=1) rfl;have C:=A4 F.p F.f118 (h:={G with log:=[]}) (.of WG) hso hps;unfold bsJ at hst;dsimp only at hst;by_cases hk1:k=1
  ·rw[decide_eq_true hk1]at mk;rw[if_pos hk1]at hst;have hjs:=hso.join hps;generalize fH s p.cells=j at*;have kj8:=aG hjs.len;have kjn:=hjs.len;refine Y28 ?_;refine FW.puD C (by(repeat apply aI rfl);exact bg) ?_;refine iu rfl rfl rfl (by exact rfl) (by exact rfl) (by exact rfl) (by assumption) (by(simp only[aA];assumption)) (by(simp only[aA];assumption)) (by exact bB _) (by omega) (by omega) (by exact bg) ?_;refine mw ?_;refine y1 ?_;refine Ip ?_;refine uh ?_;refine Y5 ?_;refine⟨l.length-(i+1),by omega,i+1,by omega,rfl,rfl,rfl,⟨xG.next,?_,?_,?_⟩,nG,?_⟩
   ·rw[Heap.aq (by omega)];exact xG.log
   ·intro z hz;exact(z5 (by omega)).trans (xG.old z hz)
   ·intro wf;exact(xG.wf wf).as (AS.wr h.next _ _ _)
   ·rw[hst];(simp(disch:=first|omega|(simp only[z1,z2];omega))only[z3,z4,z5,z6,z7,z1,z2,g0,g1,g0G,g1G,gl,gl2,g8];done)
  ·rw[decide_eq_false hk1]at mk;rw[if_neg hk1]at hst;refine Y28 ?_;exact⟨l.length-(i+1),by omega,i+1,by omega,rfl,rfl,rfl,xG,nG,by rw[hst];exact g8⟩
 ·obtain rfl:i=l.length:=by omega
  have mlt:ah .lss (.int .i64 (l.length:Nat)) (.int .i64 (l.length:Nat))=some (.bool false):=dA (by omega);rw[←hzl,List.take_length]at g8 hso;have C:=B6 F (h:={G with log:=[]}) (.of WG) hw ((spH.ext xG).log []) hl ((sfH.ext xG).log []) hfe hok hso;rw[Mx hw hzok]at C;generalize bsB w (zsF l fs)=bb at*;generalize bsS w.1 (zsF l fs)=s at*;have ks8:=aG hso.len;have ks9:=aN hso.len;have ksn:=hso.len;refine Y21 ?_;refine FW.puD C (by(repeat apply aI rfl);apply aM rfl (aC rfl (cC (by exact rfl) (by assumption) (by assumption) (by assumption)) (by exact oV _)) rfl;exact bg) ?_;refine iu rfl rfl rfl (by exact rfl) (by exact rfl) (by exact rfl) (by assumption) (by(simp only[aA];assumption)) (by exact rfl) (by exact bB _) (by omega) (by omega) (by apply aI rfl;exact bg) ?_;refine qM ?_;refine mw ?_;refine Y3 ?_;refine an ?_ (aX (own:=true) (s:=1) rfl ?_ ks9 ks8 (gi rfl rfl)) rfl
  ·rw[Heap.aq (by omega)];exact hLG
  ·exact YG
theorem Bi(w:List Nat×List Nat)(l:List Pb):lB w l []=if sIn w.1 w.2=false then 1 else prE l:=by
 unfold lB;split
 ·rfl
 ·rw[if_neg (by simp),if_neg (by simp)]
structure By (T:Nat->Option af):Prop where
 r8:AU T
 n3:Hs T
 f60:T 60=some f60
 f61:T 61=some f61
 f100:T 100=some f100
 f103:T 103=some f103
theorem GM(F:By T){h:Heap}(hr:Rdy h){w:List Nat×List Nat}(hw:IsW w){pv:Value}{l:List Pb}(sp:PbS h pv l)(hl:l.length<1000000){v:Value}{fs:List Int}(sf:bA h 1 v fs.length (ints fs))(hfl:fs.length<1000000):
 Pu T 60 [wV w,pv,v] h (.tuple #[.bool (ql w l fs).1, .int .i64 (ql w l fs).2]):=by
 have hp:=F.r8.p;refine .of hp F.f60 hr rfl ?_;have hwc:cellsOf (wV w)=wL w:=by show(wL w).toArray.toList=_;simp
 obtain⟨a,c,rfl⟩:=sp.form;obtain⟨a2,c2,rfl⟩:=sf.form;have x0:Ext h (h.push (.cells (cellsOf (wV w)) true 1)):=(Ext.refl h).push _;have g0:(h.push (.cells (cellsOf (wV w)) true 1)).get h.next=some (.cells (wL w) true 1):=by rw[hwc];exact z3 h _
 have n0:(h.push (.cells (cellsOf (wV w)) true 1)).next=h.next+1:=rfl
 refine Y5 ?_;generalize(h.push (.cells (cellsOf (wV w)) true 1))=H at*;have W:=x0.wf hr.wf;have hL:=x0.log.trans hr.log;have wk:=ig hw;have wkl:=eV hw;have C1:=Hi F.n3.rs (h:={H with log:=[]}) (.of W) hw;have C2:=tF F.r8 (h:={H with log:=[]}) (.of W) ((sp.ext x0).log []) hl;have C3:=xM F.r8 (h:={H with log:=[]}) (.of W) ((sp.ext x0).log []) ((sf.ext x0).log []) hfl;cases hin:sIn w.1 w.2 with
 |false=>
  rw[hin,if_neg (by simp)]at C1;have hA:lB w l []=1:=by rw[Bi,hin,if_pos rfl]
  have hR:ql w l fs=(false,1):=by unfold ql;rw[hA,if_pos (by decide)]
  rw[hR];refine Y3 ?_;refine FW.pu C1 ?_;refine Y31 ?_;exact an hL rfl rfl
 |true=>
 rw[hin,if_pos rfl]at C1;have hA:lB w l []=prE l:=by rw[Bi,hin,if_neg (by simp)]
 unfold ql;rw[hA];by_cases he:prE l=0
 ·rw[he]at C2;rw[if_neg (show¬prE l≠0 from λq=>q he)];cases hf:(jq fs l.length).2 with
  |false=>
   rw[hf,if_neg (by simp)]at C3;rw[if_pos rfl];refine Y3 ?_;refine FW.pu C1 ?_;refine Y11 ?_;refine FW.pu C2 ?_;refine Y12 ?_;refine FW.pu C3 ?_;refine Y15 ?_;exact an hL rfl rfl
  |true=>
   rw[hf,if_pos rfl]at C3;rw[if_neg (by simp)];rw[MH,Bool.and_eq_true,decide_eq_true_eq]at hf;have C4:=pO F.r8 (h:={H with log:=[]}) (.of W) hw ((sp.ext x0).log []) hl ((sf.ext x0).log []) hf.1 hf.2;have hbs:IsS (bsS w.1 (zsF l fs)):=j0 hw.a (oD sp.ok);generalize bsS w.1 (zsF l fs)=s at*;have kbn:=hbs.len;refine Y3 ?_;refine FW.pu C1 ?_;refine Y11 ?_;refine FW.pu C2 ?_;refine Y12 ?_;refine FW.pu C3 ?_;refine Y15 ?_;refine FW.pu C4 ?_;refine Y4 ?_;refine aB (aO (by exact rfl) (by exact rfl) YG (by(simp only[aA];assumption)) (by exact rfl) (by exact bB _)) ?_;refine Y8 ?_;exact an (by rw[Heap.aq (by omega)];exact hL) rfl rfl
 ·rw[if_pos he];have m1:ah .eql (.int .i64 (prE l)) (.int .i64 0)=some (.bool false):=mg he;have m2:ah .neq (.int .i64 (prE l)) (.int .i64 0)=some (.bool true):=j6 he;generalize prE l=e at*;refine Y3 ?_;refine FW.pu C1 ?_;refine Y11 ?_;refine FW.pu C2 ?_;refine Y23 ?_;exact an hL rfl rfl
theorem E9(F:By T){h:Heap}(hr:Rdy h){w:List Nat×List Nat}(hw:IsW w){pv:Value}{l:List Pb}(sp:PbS h pv l)(hl:l.length<1000000){v:Value}{fs:List Int}(sf:bA h 1 v fs.length (ints fs))(hfl:fs.length<1000000):
 Pu T 61 [wV w,pv,v] h (.tuple #[sv (um w l fs).1, .int .i64 (um w l fs).2]):=by
 have hp:=F.r8.p;refine .of hp F.f61 hr (uu _ _) ?_;have hwc:cellsOf (wV w)=wL w:=by show(wL w).toArray.toList=_;simp
 obtain⟨a,c,rfl⟩:=sp.form;obtain⟨a2,c2,rfl⟩:=sf.form;have x0:Ext h ((h.push (.cells (cellsOf (wV w)) true 1)).push (.cells (aD 8 (.int .u64 0)) true 1)):=((Ext.refl h).push _).push _;have g0:((h.push (.cells (cellsOf (wV w)) true 1)).push (.cells (aD 8 (.int .u64 0)) true 1)).get h.next=some (.cells (wL w) true 1):=by rw[hwc];exact(z4 (Nat.lt_succ_self _)).trans (z3 h _)
 have g6:((h.push (.cells (cellsOf (wV w)) true 1)).push (.cells (aD 8 (.int .u64 0)) true 1)).get (h.next+1)=some (.cells (us s0) true 1):=z3 _ _;have n0:((h.push (.cells (cellsOf (wV w)) true 1)).push (.cells (aD 8 (.int .u64 0)) true 1)).next=h.next+2:=rfl
 have hnx:(h.push (.cells (cellsOf (wV w)) true 1)).next=h.next+1:=rfl
 refine Y5 ?_;generalize((h.push (.cells (cellsOf (wV w)) true 1)).push (.cells (aD 8 (.int .u64 0)) true 1))=H at*;rw[hnx];clear hnx;have W:=x0.wf hr.wf;have hL:=x0.log.trans hr.log;have wk:=ig hw;have wkl:=eV hw;have ks0:bK 8 (bE 0 (us s0))=us s0:=rfl;have ks1:Nat.beq (bO (us s0)) 8=true:=rfl;have C1:=GM F (h:={H with log:=[]}) (.of W) hw ((sp.ext x0).log []) hl ((sf.ext x0).log []) hfl;have hce:(ql w l fs).2=0->sIn w.1 w.2=true/\(jq fs l.length).2=true/\um w l fs=if bsB w (zsF l fs)=false then(s0,5)else(bsS w.1 (zsF l fs),0):=by
  intro q;unfold ql at q;unfold um;by_cases h1:lB w l []≠0
  ·rw[if_pos h1]at q;exact absurd q h1
  ·rw[if_neg h1]at q⊢;cases h2:(jq fs l.length).2 with
   |false=>rw[h2,if_pos rfl]at q;cases q
   |true=>exact⟨(sA (Classical.not_not.1 h1)).1,rfl,by rw[if_neg (by simp)]⟩
 have hcn:(ql w l fs).2≠0->um w l fs=(s0,(ql w l fs).2):=by
  intro q;unfold ql at q⊢;unfold um;by_cases h1:lB w l []≠0
  ·rw[if_pos h1,if_pos h1]
  ·rw[if_neg h1]at q;rw[if_neg h1,if_neg h1];cases h2:(jq fs l.length).2 with
   |false=>rw[if_pos rfl,if_pos rfl]
   |true=>rw[h2,if_neg (by simp)]at q;exact absurd rfl q
 generalize ql w l fs=cr at*;obtain⟨cb,ce⟩:=cr;dsimp only at C1 hce hcn;by_cases he:ce=0
 ·subst he;obtain⟨hin,hf,hbe⟩:=hce rfl;rw[hbe];rw[MH,Bool.and_eq_true,decide_eq_true_eq]at hf;have C4:=pO F.r8 (h:={H with log:=[]}) (.of W) hw ((sp.ext x0).log []) hl ((sf.ext x0).log []) hf.1 hf.2;have hbs:IsS (bsS w.1 (zsF l fs)):=j0 hw.a (oD sp.ok);clear hbe hcn hce;generalize bsS w.1 (zsF l fs)=s at*;have kb8:=aG hbs.len;have kb9:=aN hbs.len;have kbn:=hbs.len;have mn:ah .neq (.int .i64 0) (.int .i64 0)=some (.bool false):=rfl;cases hcan:bsB w (zsF l fs)with
  |false=>
   rw[hcan]at C4;rw[if_pos rfl];refine Y5 ?_;refine FW.pu C1 ?_;refine Y19 ?_;refine FW.pu C4 ?_;refine Y4 ?_;refine aB (aO (by exact rfl) (by exact rfl) YG (by(simp only[aA];assumption)) (by exact rfl) (by exact bB _)) ?_;refine Y15 ?_;refine an ?_ (aX (own:=true) (s:=1) rfl ?_ ks0 ks1 (gi rfl rfl)) rfl
   ·rw[Heap.aq (by omega)];exact(Heap.aq (by show h.next<=H.next;omega)).trans hL
   ·exact YG
  |true=>
   rw[hcan]at C4;rw[if_neg (by simp)];refine Y5 ?_;refine FW.pu C1 ?_;refine Y19 ?_;refine FW.pu C4 ?_;refine Y4 ?_;refine aB (aO (by exact rfl) (by exact rfl) YG (by(simp only[aA];assumption)) (by exact rfl) (by exact bB _)) ?_;refine Y11 ?_;refine aB (cC (by exact rfl) YG (by assumption) (by assumption)) ?_;refine aB (aO (by exact rfl) (by exact rfl) YG (by(simp only[aA];assumption)) (by exact rfl) (by exact bB _)) ?_;refine Y3 ?_;refine an ?_ (aX (own:=true) (s:=1) rfl ?_ kb9 kb8 (gi rfl rfl)) rfl
   ·rw[Heap.aq (by omega)];exact(Heap.aq (by show h.next<=H.next;omega)).trans hL
   ·exact YG
 ·rw[hcn he];have mn:ah .neq (.int .i64 ce) (.int .i64 0)=some (.bool true):=j6 he;refine Y5 ?_;refine FW.pu C1 ?_;refine Y20 ?_;refine an ?_ (aX (own:=true) (s:=1) rfl ?_ ks0 ks1 (gi rfl rfl)) rfl
  ·rw[Heap.aq (by omega)];exact hL
  ·exact YG
theorem Fy(F:By T){h:Heap}(hr:Rdy h){w:List Nat×List Nat}(hw:IsW w){pv:Value}{l:List Pb}(sp:PbS h pv l)(hl:l.length<1000000){ov:Value}{os:List (List Nat)}(so:SsQ h ov os)(hol:os.length<1000000):
 Pu T 100 [wV w,pv,ov] h (.int .i64 (lB w l os)):=by
 have hp:=F.r8.p;refine .of hp F.f100 hr rfl ?_;have hwc:cellsOf (wV w)=wL w:=by show(wL w).toArray.toList=_;simp
 obtain⟨a,c,rfl⟩:=sp.form;obtain⟨a2,c2,rfl⟩:=so.sl.form;have x0:Ext h (h.push (.cells (cellsOf (wV w)) true 1)):=(Ext.refl h).push _;have g0:(h.push (.cells (cellsOf (wV w)) true 1)).get h.next=some (.cells (wL w) true 1):=by rw[hwc];exact z3 h _
 have n0:(h.push (.cells (cellsOf (wV w)) true 1)).next=h.next+1:=rfl
 refine Y4 ?_;generalize(h.push (.cells (cellsOf (wV w)) true 1))=H at*;have W:=x0.wf hr.wf;have hL:=x0.log.trans hr.log;have wk:=ig hw;have wkl:=eV hw;have C1:=Hi F.n3.rs (h:={H with log:=[]}) (.of W) hw;have C2:=HR hp F.n3.rs.f93 (h:={H with log:=[]}) (.of W) ((so.ext x0).log []) hol;have C3:=tF F.r8 (h:={H with log:=[]}) (.of W) ((sp.ext x0).log []) hl;have e1:lB w l os=if sIn w.1 w.2=false then 1 else if BR os≠0 then BR os else prE l:=by
  unfold lB BR;by_cases h1:sIn w.1 w.2=false
  ·rw[if_pos h1,if_pos h1]
  ·rw[if_neg h1,if_neg h1];by_cases h6:6<os.length
   ·rw[if_pos h6,if_pos h6,if_pos (by decide)]
   ·rw[if_neg h6,if_neg h6];by_cases h3:os.any (λs=>decide (s=s0))=true
    ·rw[if_pos h3,if_pos h3,if_pos (by decide)]
    ·rw[if_neg h3,if_neg h3,if_neg (by decide)]
 rw[e1];cases hin:sIn w.1 w.2 with
 |false=>
  rw[hin,if_neg (by simp)]at C1;rw[if_pos rfl];refine Y3 ?_;refine FW.pu C1 ?_;refine Y23 ?_;exact an hL rfl rfl
 |true=>
 rw[hin,if_pos rfl]at C1;rw[if_neg (by simp)];by_cases he:BR os=0
 ·rw[he]at C2;rw[if_neg (λq=>q he)];refine Y3 ?_;refine FW.pu C1 ?_;refine Y11 ?_;refine FW.pu C2 ?_;refine Y11 ?_;refine FW.pu C3 ?_;refine Y7 ?_;exact an hL rfl rfl
 ·rw[if_pos he];have m1:ah .eql (.int .i64 (BR os)) (.int .i64 0)=some (.bool false):=mg he;generalize BR os=e at*;refine Y3 ?_;refine FW.pu C1 ?_;refine Y11 ?_;refine FW.pu C2 ?_;refine Y15 ?_;exact an hL rfl rfl
theorem Pf(F:By T){h:Heap}(hr:Rdy h){w:List Nat×List Nat}(hw:IsW w){ov:Value}{os:List (List Nat)}(so:SsQ h ov os)(hol:os.length<1000000)(hone:∀s∈os,¬s=s0):
 Al T 103 [wV w,ov] h λv h'=>NdS h' v (os.map (ei w)):=by
 have hp:=F.r8.p;refine .of hp F.f103 hr ?_ ?_
 ·rintro v h1 hv q;obtain⟨vals,s1,s2⟩:=q.ex;rcases bA.inv s1 with⟨c,rfl,h0,_⟩|⟨b,o,cap,rfl,_⟩
  ·have e:os.map (ei w)=[]:=List.length_eq_zero_iff.1 h0;rw[e];exact⟨[], .nil,λi r hi=>by simp at hi⟩
  ·cases hv
 obtain⟨a,c,rfl⟩:=so.sl.form;have hwc:cellsOf (wV w)=wL w:=by show(wL w).toArray.toList=_;simp
 have x0:Ext h (h.push (.cells (cellsOf (wV w)) true 1)):=(Ext.refl h).push _;have g0:(h.push (.cells (cellsOf (wV w)) true 1)).get h.next=some (.cells (wL w) true 1):=by rw[hwc];exact z3 h _
 have n0:(h.push (.cells (cellsOf (wV w)) true 1)).next=h.next+1:=rfl
 refine Y4 ?_;generalize(h.push (.cells (cellsOf (wV w)) true 1))=H at*;have W:=x0.wf hr.wf;have hL:=x0.log.trans hr.log;have wk:=ig hw;have wkl:=eV hw;have soH:=so.ext x0;refine Y8 ?_
 refine bD (λm e ds h'=>∃(i:Nat) (v:Value) (vals:List Value),i<=os.length/\os.length-i=m/\e=[(1, .slice a os.length c),(2, .pointer (some ⟨h.next,0,none⟩)),(5,v),(6, .int .i64 (i:Nat))]/\ds=[]/\Ext H h'∧Own H.next h' 1 v i vals/\dP vals=true/\∀j r,((os.take i).map (ei w))[j]? =some r->∃u,vals[j]? =some u/\OwS H.next h' u r)
  ⟨0, .slice none 0 0,[],Nat.zero_le _,rfl,rfl,rfl, .refl H, .nil,rfl,λj r hj=>(by rw[List.take_zero,List.map_nil,List.getElem?_nil]at hj;cases hj)⟩ ?_
 rintro m e ds G ⟨i,v,vals,hi,rfl,rfl,rfl,xG,ow,on1,hvs⟩;have WG:=xG.wf W;have hLG:=xG.log.trans hL;have nG:=xG.next
 by_cases hlt:i<os.length
 ·obtain⟨x,hx⟩:∃s,os[i]? =some s:=⟨os[i],List.getElem?_eq_getElem hlt⟩;have hxm:=List.mem_of_getElem? hx;have hxs:=so.ok x hxm;obtain⟨b,o,c3,vs,own,tt,hv,gl,hbl,el⟩:=(soH.ext xG).elem hx;cases hv;have kx8:=aG hxs.len;have mlt:ah .lss (.int .i64 (i:Nat)) (.int .i64 (os.length:Nat))=some (.bool true):=dz (by omega);have g0G:=(xG.old _ (by omega)).trans g0;have C:=GR F.n3.rn (h:={G with log:=[]}) (.of WG) hw hxs (hone x hxm);obtain⟨av,cv,rfl⟩:∃a c,v= .slice a i c:=(ow.slice (by omega)).form;refine Y20 ?_;refine FW.alD C (λv h' m q=>q.log m) ?_;rintro u G5 x5 q5;clear C;have q5:OwS G.next G5 u (ei w x):=Own.owS q5 (Nat.lt_of_le_of_lt (tC w x) (by decide))
  have n5:=x5.next
  have g05:=(x5.old _ (by omega)).trans g0G;have gl5:=(x5.old _ hbl).trans gl;obtain⟨a5,c5,rfl⟩:=q5.form;refine⟨_,by(repeat apply aI rfl);apply aM rfl (aC rfl (fR (by exact rfl)) (by exact fO _ _ _)) rfl;exact bg,?_⟩;refine sO rfl rfl rfl (by exact rfl) (by exact rfl) (by exact rfl) (iy (by exact rfl) (by exact rfl)) (by refine cZ (aC rfl (fR (by exact rfl)) (by exact fO _ _ _)) ?_;exact tE) ?_;have x6:Ext G5 (G5.push (.cells [.slice a5 (ei w x).length c5] true 1)):=(Ext.refl G5).push _;have hvb:∀q' a c,(.slice av i cv:Value)= .slice (some ⟨q',0,none⟩) a c->H.next<=q'∧q'<G.next:=λq' a c e=>by rw[e]at ow;exact zO ow
  refine IY (lo:=H.next) (n:=i) (cs:=vals) (c1:=[.slice a5 (ei w x).length c5]) (ow.ext (x5.trans x6)) (by omega) (by omega) (by omega) (by omega) rfl rfl rfl (by exact rfl) (by exact rfl) (by exact rfl) (DW (fF (cs:=[.slice a5 (ei w x).length c5]) (z3 G5 _) rfl rfl)) rfl rfl on1 ?_;intro G7 lg o7 n7 l7 W7 hold7;have n7:G7.next=G5.next+1+1:=n7
  have l7:G7.log=G5.log:=l7;have W7:WF G5->WF G7:=λw=>W7 (x6.wf w);have hold7:∀z,z<G5.next->(∀q' a c,(.slice av i cv:Value)= .slice (some ⟨q',0,none⟩) a c->z≠q')->G7.get z=G5.get z:=λz hz hne=>(hold7 z (by show z<G5.next+1;omega) hne).trans (z4 hz)
  have o7:Own (G5.next+1) G7 1 (.slice (some ⟨G5.next+1,0,none⟩) (i+1) UNK) (i+1) (vals++[.slice a5 (ei w x).length c5]):=o7;refine⟨_,by(repeat apply aI rfl);exact bg,?_⟩;refine Y10 ?_;refine⟨os.length-(i+1),by omega,i+1, .slice (some ⟨G5.next+1,0,none⟩) (i+1) UNK,vals++[.slice a5 (ei w x).length c5],by omega,rfl,rfl,rfl,⟨by omega,l7.trans (x5.log.trans xG.log),λz hz=> ?_,λw=>W7 (x5.wf (xG.wf w))⟩,o7.low (by omega),kY on1 rfl,λj r hj=> ?_⟩
  ·exact(hold7 z (by omega) (λq' a c e=>by have:=(hvb q' a c e).1;omega)).trans ((x5.old z (by omega)).trans (xG.old z hz))
  ·have hvl:vals.length=i:=Ep ow;have hml:((os.take i).map (ei w)).length=i:=by rw[List.length_map,List.length_take];omega
   rw[dS hx,List.map_append]at hj;rcases Nat.lt_or_ge j i with hji|hji
   ·rw[List.getElem?_append_left (by omega)]at hj;obtain⟨u',hu',qo⟩:=hvs j r hj;refine⟨u',by rw[List.getElem?_append_left (by omega)];exact hu',qo.EJ (by omega) λz hz=> ?_⟩;have hzb:=qo.vb hz;refine(hold7 z (by omega) (λq' a c e=> ?_)).trans (x5.old z (by omega));rw[e]at ow;exact qo.ne (Eg ow) z hz
   ·obtain rfl:j=i:=by
     have:=(List.getElem?_eq_some_iff.1 hj).1;rw[List.length_append,hml]at this;simp at this;omega
    rw[List.getElem?_append_right (by omega),hml,Nat.sub_self]at hj;simp at hj;subst hj;refine⟨_,by rw[List.getElem?_append_right (by omega),hvl,Nat.sub_self];rfl,(q5.low (by omega)).EJ (by omega) λz hz=> ?_⟩;have hzb:=q5.vb hz;exact hold7 z (by omega) (λq' a c e=>by have:=(hvb q' a c e).2;omega)
 ·obtain rfl:i=os.length:=by omega
  have mlt:ah .lss (.int .i64 (os.length:Nat)) (.int .i64 (os.length:Nat))=some (.bool false):=dA (by omega);rw[List.take_length]at hvs;have hsl:=ow.slice (by omega);refine Y18 ?_;refine cK hLG rfl ⟨vals,?_,λj r hj=> ?_⟩
  ·rw[List.length_map];exact hsl
  ·obtain⟨u,hu,qu⟩:=hvs j r hj;refine⟨u,hu,qu.ss λs hs=> ?_⟩;obtain⟨x,_,rfl⟩:=List.mem_map.1 (List.mem_of_getElem? hj);exact uN hw hs
structure BB (T:Nat->Option af):Prop where
 rc:By T
 f63:T 63=some f63
 f65:T 65=some f65
 f116:T 116=some f116
 f117:T 117=some f117
theorem CK(F:BB T){h:Heap}(hr:Rdy h){w:List Nat×List Nat}(hw:IsW w){pv:Value}{l:List Pb}(sp:PbS h pv l)(hl:l.length<1000000){v:Value}{fs:List Int}(sf:bA h 1 v fs.length (ints fs))(hfe:fs.length=l.length)(hok:mB fs=true)
 {nv:Value}{ns:List (List (List Nat))}(sn:NdS h nv ns)(hnn:ns.length<1000000)(hcan:bsB w (zsF l fs)=true)(hnd:∀r∈ns,r.length<1000000/\∀n∈r,IsS n/\Sub n w.2):
 Al T 116 [wV w,pv,v,nv] h λv h'=>Own h.next h' 1 v ns.length (fL (ns.map (jY (zsF l fs) (bsS w.1 (zsF l fs))))):=by
 have hp:=F.rc.r8.p;refine .of hp F.f116 hr (λv h1 hv q=>Own.EH hv q) ?_;have hwc:cellsOf (wV w)=wL w:=by show(wL w).toArray.toList=_;simp
 obtain⟨a,c,rfl⟩:=sp.form;obtain⟨a2,c2,rfl⟩:=sf.form;obtain⟨a3,c3,rfl⟩:=sn.form;have x0:Ext h (h.push (.cells (cellsOf (wV w)) true 1)):=(Ext.refl h).push _;have g0:(h.push (.cells (cellsOf (wV w)) true 1)).get h.next=some (.cells (wL w) true 1):=by rw[hwc];exact z3 h _
 have n0:(h.push (.cells (cellsOf (wV w)) true 1)).next=h.next+1:=rfl
 refine Y4 ?_;generalize(h.push (.cells (cellsOf (wV w)) true 1))=H at*;have W:=x0.wf hr.wf;have hL:=x0.log.trans hr.log;have wk:=ig hw;have wkl:=eV hw;have hzok:=IS (fs:=fs) sp.ok;have C1:=pO F.rc.r8 (h:={H with log:=[]}) (.of W) hw ((sp.ext x0).log []) hl ((sf.ext x0).log []) hfe hok;have hso:IsS (bsS w.1 (zsF l fs)):=j0 hw.a hzok;have htj:=λn hn hin=>LZ hw hzok hcan (n:=n) hn hin;rw[hcan]at C1;generalize bsS w.1 (zsF l fs)=s at*;have ks8:=aG hso.len;have ks9:=aN hso.len;have ksn:=hso.len;refine dI (E0:=[(1, .slice a l.length c),(2, .slice a2 fs.length c2),(3, .slice a3 ns.length c3),(4, .pointer (some ⟨h.next,0,none⟩)),(9, .pointer (some ⟨H.next,0,none⟩))]) (P:=λh'=>Ext H h'∧h'.next=H.next+1/\h'.get H.next=some (.cells (us s) true 1)) ?_ ?_
 ·refine Y5 ?_;refine FW.pu C1 ?_;refine Y4 ?_;refine aB (aO (by exact rfl) (by exact rfl) YG (by(simp only[aA];assumption)) (by exact rfl) (by exact bB _)) ?_;refine yM ?_;refine cN ?_;refine y1 ?_;exact⟨rfl,rfl,rfl,dO (by omega) _ _,rfl,fC _ _⟩
 clear C1;rintro H1 ⟨x1,n1,g9⟩;have ey1:=x0.trans x1;have W1:=ey1.wf hr.wf;have hL1:=x1.log.trans hL;have g01:=(x1.old _ (by omega)).trans g0;have sp1:=sp.ext ey1;have sf1:=sf.ext ey1;have sn1:=sn.ext ey1;clear g0;refine Y8 ?_
 refine bD (λm e ds h'=>∃(i:Nat) (u:Value),i<=ns.length/\ns.length-i=m/\e=[(1, .slice a l.length c),(2, .slice a2 fs.length c2),(3, .slice a3 ns.length c3),(4, .pointer (some ⟨h.next,0,none⟩)),(9, .pointer (some ⟨H.next,0,none⟩)),(11,u),(12, .int .i64 (i:Nat))]/\ds=[]/\Ext H1 h'∧Own H1.next h' 1 u i (fL ((ns.take i).map (jY (zsF l fs) s))))
  ⟨0,_,Nat.zero_le _,rfl,rfl,rfl, .refl H1, .nil⟩ ?_
 rintro m e ds G ⟨i,u,hi,rfl,rfl,rfl,xG,ow⟩;have WG:=xG.wf W1;have hLG:=xG.log.trans hL1;have nG:=xG.next
 by_cases hlt:i<ns.length
 ·obtain⟨r,hri⟩:∃s,ns[i]? =some s:=⟨ns[i],List.getElem?_eq_getElem hlt⟩;obtain⟨hrl,hrn⟩:=hnd r (List.mem_of_getElem? hri);obtain⟨b,o,c4,vs,own,tt,rv,hv,gl,hbl,el,sr⟩:=(sn1.ext xG).elem hri;cases hv;obtain⟨ra,rc,rfl⟩:=sr.sl.form;have mlt:ah .lss (.int .i64 (i:Nat)) (.int .i64 (ns.length:Nat))=some (.bool true):=dz (by omega);have hst:fL ((ns.take (i+1)).map (jY (zsF l fs) s))=fL ((ns.take i).map (jY (zsF l fs) s))++[.int .u8 ((jY (zsF l fs) s r:Nat):Int)]:=by
   obtain⟨hlt2,rfl⟩:=List.getElem?_eq_some_iff.1 hri;rw[List.take_succ_eq_append_getElem hlt2,List.map_append,←EO];rfl
  refine Y20 ?_
  refine bD (λm e ds h'=>∃k:Nat,k<=r.length/\r.length-k=m/\e=[(1, .slice a l.length c),(2, .slice a2 fs.length c2),(3, .slice (some ⟨b,o,none⟩) ns.length c3),(4, .pointer (some ⟨h.next,0,none⟩)),(9, .pointer (some ⟨H.next,0,none⟩)),(11,u),(12, .int .i64 (i:Nat)),(13, .int .u8 ((jY (zsF l fs) s (r.take k):Nat):Int)),(14, .int .i64 (k:Nat))]/\ds=[]/\Ext G h')
   ⟨0,Nat.zero_le _,rfl,rfl,rfl, .refl G⟩ ?_
  rintro m e ds G2 ⟨k,hk,rfl,rfl,rfl,x2⟩;have WG2:=x2.wf WG;have hLG2:=x2.log.trans hLG;have n2:=x2.next
  have gl2:=(x2.old _ hbl).trans gl;by_cases hkl:k<r.length
  ·obtain⟨n,hnk⟩:∃s,r[k]? =some s:=⟨r[k],List.getElem?_eq_getElem hkl⟩;obtain⟨hns,hnsub⟩:=hrn n (List.mem_of_getElem? hnk);obtain⟨b5,o5,c5,vs5,own5,t5,hv,gl5,hbl5,el5⟩:=(sr.ext x2).elem hnk;cases hv;have kn8:=aG hns.len;have mlk:ah .lss (.int .i64 (k:Nat)) (.int .i64 (r.length:Nat))=some (.bool true):=dz (by omega);have g9G2:=((xG.trans x2).old _ (by omega)).trans g9;have g0G2:=((xG.trans x2).old _ (by omega)).trans g01;have hjs:=hso.join hns;have htn:=htj n hns hnsub;have hsn:jY (zsF l fs) s (r.take (k+1))=if sIn n s then 1 else if(alB (zsF l fs) (fH s n)&&decide (jY (zsF l fs) s (r.take k)=2))then 3 else jY (zsF l fs) s (r.take k):=by rw[dS hnk,F7]
   have C2:=A4 hp F.rc.r8.f118 (h:={G2.push (.cells (aD 8 (.int .u64 0)) true 1)with log:=[]}) (.of (WG2.push _)) hso hns;have C4:∀G3,Ext G2 G3->WF G3->Pu T 208 [wV w, .slice a l.length c, .slice a2 fs.length c2,sv (fH s n)] {G3 with log:=[]} (.bool (alB (zsF l fs) (fH s n))):=λG3 x3 w3=>by
    rw[←htn];exact B6 F.rc.r8 (h:={G3 with log:=[]}) (.of w3) hw ((sp1.ext ((xG.trans x2).trans x3)).log []) hl ((sf1.ext ((xG.trans x2).trans x3)).log []) hfe hok hjs
   clear htj htn;generalize jY (zsF l fs) s (r.take k)=jk at*;generalize alB (zsF l fs) (fH s n)=ab at*;generalize fH s n=jn at*;have kj8:=aG hjs.len;have kj9:=aN hjs.len;have kjn:=hjs.len;refine Y15 ?_;refine dI (E0:=[(1, .slice a l.length c),(2, .slice a2 fs.length c2),(3, .slice (some ⟨b,o,none⟩) ns.length c3),(4, .pointer (some ⟨h.next,0,none⟩)),(9, .pointer (some ⟨H.next,0,none⟩)),(11,u),(12, .int .i64 (i:Nat)),(13, .int .u8 (jk:Nat)),(14, .int .i64 (k:Nat)),(15, .pointer (some ⟨G2.next,0,none⟩))]) (P:=λh'=>Ext G2 h'∧h'.next=G2.next+1/\h'.get G2.next=some (.cells (us jn) true 1)) ?_ ?_
   ·refine Y9 ?_;refine sO rfl rfl rfl (by exact rfl) (by exact rfl) (by exact rfl) tR (by refine cZ (aC rfl (cC (by exact rfl) YG (by assumption) (by assumption)) (by exact oV _)) ?_;refine cZ (aC rfl (mK (by exact rfl) (by exact rfl) (by omega)) (by exact cW _)) ?_;refine cZ (aC rfl (fR (by exact rfl)) (by exact gJ _ _)) ?_;refine cZ (aC rfl (eT (by exact rfl) YG (by assumption)) (by exact fO _ _ _)) ?_;refine cZ (aC rfl (mK (by exact rfl) (by exact rfl) (by omega)) (by exact cW _)) ?_;refine cZ (aC rfl (fR (by exact rfl)) (by exact gJ _ _)) ?_;refine cZ (aC rfl (fR (by exact rfl)) (by exact fO _ _ _)) ?_;refine cZ (aC rfl (cC (by exact rfl) YG (by assumption) (by assumption)) (by exact oV _)) ?_;exact tE) ?_;refine qC ?_;refine FW.puD C2 (by apply aM rfl (El rfl) (by rfl);(repeat apply aI rfl);exact bg) ?_;refine iu rfl rfl rfl (by exact rfl) (by exact rfl) (by exact rfl) YG (by(simp only[aA];assumption)) (by exact rfl) (by exact bB _) (by(simp only[z1,z2];omega)) (by omega) (by apply aI rfl;exact bg) ?_;refine Y2 ?_;exact⟨rfl,rfl,rfl,dO (by omega) _ _,rfl,YG⟩
   clear C2;rintro G3 ⟨x3,n3,g15⟩;have WG3:=x3.wf WG2;have hLG3:=x3.log.trans hLG2;have C4:=C4 G3 x3 WG3;have C5:=uZ hp F.rc.r8.f52 F.rc.r8.f140 (h:={G3 with log:=[]}) (.of WG3) hns hso;have gl3:=(x3.old _ (by omega)).trans gl2;have gl53:=(x3.old _ hbl5).trans gl5;have g93:=(x3.old _ (by omega)).trans g9G2;have g03:=(x3.old _ (by omega)).trans g0G2;clear gl2 gl5 g9G2 g0G2;have m2:ah .eql (.int .u8 (jk:Nat)) (.int .u8 2)=some (.bool (decide (jk=2))):=tG (c:=2) rfl;cases hin:sIn n s with
   |true=>
    rw[hin]at C5;rw[hin,if_pos rfl]at hsn;refine Y6 ?_;refine FW.pu C4 ?_;refine Y13 ?_;refine FW.puD C5 (by(repeat apply aI rfl);exact bg) ?_;refine Y6 ?_;refine cN ?_;refine Y8 ?_;exact⟨r.length-(k+1),by omega,k+1,by omega,rfl,by rw[hsn];rfl,rfl,x2.trans x3⟩
   |false=>
    rw[hin]at C5;rw[hin,if_neg (by simp)]at hsn;cases ab with
    |false=>
     rw[Bool.false_and,if_neg (by simp)]at hsn;refine Y6 ?_;refine FW.pu C4 ?_;refine Y13 ?_;refine FW.puD C5 (by(repeat apply aI rfl);exact bg) ?_;refine Y20 ?_;exact⟨r.length-(k+1),by omega,k+1,by omega,rfl,by rw[hsn],rfl,x2.trans x3⟩
    |true=>
     rw[Bool.true_and]at hsn;cases hj2:decide (jk=2)with
     |true=>
      rw[hj2]at m2;rw[hj2,if_pos rfl]at hsn;refine Y6 ?_;refine FW.pu C4 ?_;refine Y13 ?_;refine FW.puD C5 (by(repeat apply aI rfl);exact bg) ?_;refine Y16 ?_;refine cN ?_;refine Y8 ?_;exact⟨r.length-(k+1),by omega,k+1,by omega,rfl,by rw[hsn];rfl,rfl,x2.trans x3⟩
     |false=>
      rw[hj2]at m2;rw[hj2,if_neg (by simp)]at hsn;refine Y6 ?_;refine FW.pu C4 ?_;refine Y13 ?_;refine FW.puD C5 (by(repeat apply aI rfl);exact bg) ?_;refine Y22 ?_;exact⟨r.length-(k+1),by omega,k+1,by omega,rfl,by rw[hsn],rfl,x2.trans x3⟩
  ·obtain rfl:k=r.length:=by omega
   have mlk:ah .lss (.int .i64 (r.length:Nat)) (.int .i64 (r.length:Nat))=some (.bool false):=dA (by omega);rw[List.take_length];generalize jY (zsF l fs) s r=jx at*;generalize fL ((ns.take i).map (jY (zsF l fs) s))=cs at*;refine Y19 ?_;refine aB (iy (by exact rfl) (by exact rfl)) ?_;refine sC (lo:=H1.next) (c1:=[.int .u8 (jx:Nat)]) (ow.ext (x2.trans ((Ext.refl G2).push _))) (by omega) (by omega) (by omega) (by show H1.next<=G2.next+1;omega) (by omega) (by exact rfl) (by exact rfl) (fF (cs:=[.int .u8 (jx:Nat)]) (z3 G2 _) rfl rfl) rfl rfl ?_;intro v2 h9 o9 x9;refine yM ?_;refine cN ?_;refine Y8 ?_;refine⟨ns.length-(i+1),by omega,i+1,v2,by omega,rfl,rfl,rfl,(((xG.trans x2).lx (Nat.le_refl _)).trans ((((Ext.refl G2).push _).lx (by omega)).trans x9)).ext,?_⟩;rw[hst];exact o9
 ·obtain rfl:i=ns.length:=by omega
  have mlt:ah .lss (.int .i64 (ns.length:Nat)) (.int .i64 (ns.length:Nat))=some (.bool false):=dA (by omega);rw[List.take_length]at ow;refine Y18 ?_;exact cK hLG rfl (ow.low (by omega))
theorem xC(F:BB T){h:Heap}(hr:Rdy h){w:List Nat×List Nat}(hw:IsW w){pv:Value}{l:List Pb}(sp:PbS h pv l)(hl:l.length<1000000){v:Value}{fs:List Int}(sf:bA h 1 v fs.length (ints fs))(hfl:fs.length<1000000){ov:Value}{os:List (List Nat)}(so:SsQ h ov os)(hol:os.length<1000000):
 Al T 63 [wV w,pv,v,ov] h λv h'=>∃u,v= .tuple #[u, .int .i64 (jS w l fs os).2]/\Own h.next h' 1 u (jS w l fs os).1.length (fL (jS w l fs os).1):=by
 have hp:=F.rc.r8.p;refine .of hp F.f63 hr (λv h1 hv ⟨u,e,q⟩=>⟨u,e,by subst e;exact Own.Ew hv q⟩) ?_;have hwc:cellsOf (wV w)=wL w:=by show(wL w).toArray.toList=_;simp
 obtain⟨a,c,rfl⟩:=sp.form;obtain⟨a2,c2,rfl⟩:=sf.form;obtain⟨a3,c3,rfl⟩:=so.sl.form;have x0:Ext h (h.push (.cells (cellsOf (wV w)) true 1)):=(Ext.refl h).push _;have g0:(h.push (.cells (cellsOf (wV w)) true 1)).get h.next=some (.cells (wL w) true 1):=by rw[hwc];exact z3 h _
 have n0:(h.push (.cells (cellsOf (wV w)) true 1)).next=h.next+1:=rfl
 refine Y5 ?_;generalize(h.push (.cells (cellsOf (wV w)) true 1))=H at*;have W:=x0.wf hr.wf;have hL:=x0.log.trans hr.log;have wk:=ig hw;have wkl:=eV hw;have C1:=Fy F.rc (h:={H with log:=[]}) (.of W) hw ((sp.ext x0).log []) hl ((so.ext x0).log []) hol;have C2:=xM F.rc.r8 (h:={H with log:=[]}) (.of W) ((sp.ext x0).log []) ((sf.ext x0).log []) hfl;unfold jS;have hask:=sA (w:=w) (l:=l) (os:=os);generalize lB w l os=er at*;by_cases he:er=0;case neg=>
  rw[if_pos he];have m1:ah .eql (.int .i64 er) (.int .i64 0)=some (.bool false):=mg he;have m2:ah .neq (.int .i64 er) (.int .i64 0)=some (.bool true):=j6 he;refine Y5 ?_;refine FW.pu C1 ?_;refine Y31 ?_;exact cK hL rfl ⟨_,rfl, .nil⟩
 subst he;rw[if_neg (λq=>q rfl)];obtain⟨hin,hol6,hone,hl8⟩:=hask rfl;have C3:=Pa F.rc.n3 (h:={H with log:=[]}) (.of W) hw hin;cases hf:(jq fs l.length).2 with
 |false=>
  rw[hf,if_neg (by simp)]at C2;rw[if_pos rfl];refine Y5 ?_;refine FW.pu C1 ?_;refine Y12 ?_;refine FW.pu C2 ?_;refine Y23 ?_;exact cK hL rfl ⟨_,rfl, .nil⟩
 |true=>
 rw[hf,if_pos rfl]at C2;rw[if_neg (by simp)];rw[MH,Bool.and_eq_true,decide_eq_true_eq]at hf;cases hm:rC w with
 |true=>
  rw[hm,if_pos rfl]at C3;rw[if_pos rfl];refine Y5 ?_;refine FW.pu C1 ?_;refine Y12 ?_;refine FW.pu C2 ?_;refine Y11 ?_;refine FW.pu C3 ?_;refine Y15 ?_;exact cK hL rfl ⟨_,rfl, .nil⟩
 |false=>
 rw[hm,if_neg (by simp)]at C3;rw[if_neg (by simp)];have C4:=pO F.rc.r8 (h:={H with log:=[]}) (.of W) hw ((sp.ext x0).log []) hl ((sf.ext x0).log []) hf.1 hf.2;have hbs:IsS (bsS w.1 (zsF l fs)):=j0 hw.a (oD sp.ok);have x1:=dO (h:=H) (base:=h.next) (by omega) (.cells (aD 8 (.int .u64 0)) true 1) (.cells (us (bsS w.1 (zsF l fs))) true 1);have n1:((H.push (.cells (aD 8 (.int .u64 0)) true 1)).wr h.next H.next (.cells (us (bsS w.1 (zsF l fs))) true 1)).next=H.next+1:=rfl
 have kbn:=hbs.len;cases hcan:bsB w (zsF l fs)with
 |false=>
  rw[hcan]at C4;rw[if_pos rfl];generalize bsS w.1 (zsF l fs)=s at*;refine Y5 ?_;refine FW.pu C1 ?_;refine Y12 ?_;refine FW.pu C2 ?_;refine Y11 ?_;refine FW.pu C3 ?_;refine Y15 ?_;refine FW.pu C4 ?_;refine Y4 ?_;refine aB (aO (by exact rfl) (by exact rfl) YG (by(simp only[aA];assumption)) (by exact rfl) (by exact bB _)) ?_;refine Y14 ?_;exact cK (x1.log.trans hL) rfl ⟨_,rfl, .nil⟩
 |true=>
 rw[hcan]at C4;rw[if_neg (by simp)];refine Y5 ?_;refine FW.pu C1 ?_;clear C1;refine Y12 ?_;refine FW.pu C2 ?_;clear C2;refine Y11 ?_;refine FW.pu C3 ?_;clear C3;refine Y15 ?_;refine FW.pu C4 ?_;clear C4;refine Y4 ?_;refine aB (aO (by exact rfl) (by exact rfl) YG (by(simp only[aA];assumption)) (by exact rfl) (by exact bB _)) ?_;refine Y2 ?_;generalize((H.push (.cells (aD 8 (.int .u64 0)) true 1)).wr h.next H.next (.cells (us (bsS w.1 (zsF l fs))) true 1))=H1 at*;have ey1:=x0.trans x1;have W1:=ey1.wf hr.wf;have hL1:=x1.log.trans hL;have g01:=(x1.old _ (by omega)).trans g0;have C5:=Pf F.rc (h:={H1 with log:=[]}) (.of W1) hw ((so.ext ey1).log []) hol hone;clear g0;refine Y16 ?_;refine FW.alD C5 (λv h' m q=>q.log m) ?_;rintro nv H2 x2 sn;clear C5;have W2:=x2.wf W1;have hL2:=x2.log.trans hL1;have g02:=(x2.old _ (by omega)).trans g01;obtain⟨a4,c4,rfl⟩:=sn.form;refine⟨_,by(repeat apply aI rfl);apply aM rfl (aC rfl (fR (by exact rfl)) (by exact fO _ _ _)) rfl;apply aM rfl (aC rfl (fR (by exact rfl)) (by exact fO _ _ _)) rfl;apply aM rfl (aC rfl (cC (by exact rfl) (by assumption) (by assumption) (by assumption)) (by exact QB _)) rfl;exact bg,?_⟩;have C6:=CK F (h:={H2 with log:=[]}) (.of W2) hw ((sp.ext (ey1.trans x2)).log []) hl ((sf.ext (ey1.trans x2)).log []) hf.1 hf.2 (sn.log []) (by rw[List.length_map];omega) hcan (λr hr=>by
  obtain⟨o,ho,rfl⟩:=List.mem_map.1 hr;exact⟨Nat.lt_of_le_of_lt (tC w o) (by decide),λn hn=>⟨uN hw hn,J4 hw (so.ok o ho) (hone o ho) hn⟩⟩)
 rw[List.map_map]at C6;skip;refine qC ?_;refine FW.alD C6 (λv h' m q=>q.log m) ?_;rintro u H3 x3 q3;clear C6;have q3:Own H2.next H3 1 u (os.map (ei w)).length (fL (os.map (jY (zsF l fs) (bsS w.1 (zsF l fs)) ∘ ei w))):=q3
 have n2:=x2.next
 refine⟨_,by(repeat apply aI rfl);exact bg,?_⟩;refine Y6 ?_;refine cK (x3.log.trans hL2) rfl ⟨_,rfl,?_⟩;dsimp only;rw[List.length_map]at q3⊢;exact q3.low (by omega)
theorem Bu(F:BB T){h:Heap}(hr:Rdy h){v:Value}{l:List Nat}(s:bA h 1 v l.length (fL l))(hn:l.length<1000000):Pu T 117 [v] h (.bool (!ug l)):=by
 refine .of F.rc.r8.p F.f117 hr rfl ?_;have hL:=hr.log;obtain⟨a,c,rfl⟩:=s.form;refine Y8 ?_
 refine bD (λm e ds h'=>∃i:Nat,i<=l.length/\l.length-i=m/\e=[(0, .slice a l.length c),(3, .int .i64 (i:Nat))]/\ds=[]/\h=h'∧ug (l.take i)=false)
  ⟨0,Nat.zero_le _,rfl,rfl,rfl,rfl,rfl⟩ ?_
 rintro m e ds _ ⟨i,hi,rfl,rfl,rfl,rfl,hno⟩;by_cases hlt:i<l.length
 ·obtain⟨r,hri⟩:∃r,l[i]? =some r:=⟨l[i],List.getElem?_eq_getElem hlt⟩;obtain⟨b,o,c2,vs,own,t,hv,g1,hb,g2⟩:=tN s (EG hri);cases hv;have mlt:ah .lss (.int .i64 (i:Nat)) (.int .i64 (l.length:Nat))=some (.bool true):=dz (by omega);have m1:ah .eql (.int .u8 (r:Nat)) (.int .u8 3)=some (.bool (decide (r=3))):=tG (c:=3) rfl;have hst:ug (l.take (i+1))=(ug (l.take i)||decide (r=3)):=by
   obtain⟨hlt2,rfl⟩:=List.getElem?_eq_some_iff.1 hri;unfold ug;rw[List.take_succ_eq_append_getElem hlt2,List.any_append];simp
  cases h3:decide (r=3)with
  |true=>
   rw[h3]at m1;have e:ug l=true:=List.any_eq_true.2 ⟨r,List.mem_of_getElem? hri,h3⟩;rw[e];refine Y29 ?_;exact an hL rfl rfl
  |false=>
   rw[h3]at m1 hst;refine Y28 ?_;exact⟨l.length-(i+1),by omega,i+1,by omega,rfl,rfl,rfl,rfl,by rw[hst,hno];rfl⟩
 ·obtain rfl:i=l.length:=by omega
  have mlt:ah .lss (.int .i64 (l.length:Nat)) (.int .i64 (l.length:Nat))=some (.bool false):=dA (by omega);rw[List.take_length]at hno;rw[hno];refine Y17 ?_;exact an hL rfl rfl
theorem Dv(F:BB T){h:Heap}(hr:Rdy h){w:List Nat×List Nat}(hw:IsW w){pv:Value}{l:List Pb}(sp:PbS h pv l)(hl:l.length<1000000){v:Value}{fs:List Int}(sf:bA h 1 v fs.length (ints fs))(hfl:fs.length<1000000){ov:Value}{os:List (List Nat)}(so:SsQ h ov os)(hol:os.length<1000000):
 Pu T 65 [wV w,pv,v,ov] h (.tuple #[.bool (uk w l fs os).1, .int .i64 (uk w l fs os).2]):=by
 refine .of F.rc.r8.p F.f65 hr rfl ?_;have hwc:cellsOf (wV w)=wL w:=by show(wL w).toArray.toList=_;simp
 obtain⟨a,c,rfl⟩:=sp.form;obtain⟨a2,c2,rfl⟩:=sf.form;obtain⟨a3,c3,rfl⟩:=so.sl.form;have x0:Ext h (h.push (.cells (cellsOf (wV w)) true 1)):=(Ext.refl h).push _;have g0:(h.push (.cells (cellsOf (wV w)) true 1)).get h.next=some (.cells (wL w) true 1):=by rw[hwc];exact z3 h _
 have n0:(h.push (.cells (cellsOf (wV w)) true 1)).next=h.next+1:=rfl
 refine Y5 ?_;generalize(h.push (.cells (cellsOf (wV w)) true 1))=H at*;have W:=x0.wf hr.wf;have hL:=x0.log.trans hr.log;have wk:=ig hw;have wkl:=eV hw;have C:=xC F (h:={H with log:=[]}) (.of W) hw ((sp.ext x0).log []) hl ((sf.ext x0).log []) hfl ((so.ext x0).log []) hol;have hjl:=wH w l fs os;unfold uk;generalize(jS w l fs os).2=er at*;generalize(jS w l fs os).1=js at*;refine Y6 ?_;refine FW.al C (λv h' m ⟨u,e,q⟩=>⟨u,e,q.log m⟩) ?_;rintro _ H1 x1 ⟨u,rfl,q1⟩;clear C;have W1:=x1.wf W;have hL1:=x1.log.trans hL;have s1:=q1.slice (by omega);have C2:=Bu F (h:={H1 with log:=[]}) (.of W1) (s1.log []) (by omega);generalize ug js=b3 at*;by_cases he:er=0
 ·have m1:ah .eql (.int .i64 er) (.int .i64 0)=some (.bool true):=vI he;rw[decide_eq_true he];refine Y14 ?_;refine FW.pu C2 ?_;refine Y6 ?_;exact an hL1 rfl rfl
 ·have m1:ah .eql (.int .i64 er) (.int .i64 0)=some (.bool false):=mg he;rw[decide_eq_false he];refine Y18 ?_;exact an hL1 rfl rfl
end Go.A.Pk
end
