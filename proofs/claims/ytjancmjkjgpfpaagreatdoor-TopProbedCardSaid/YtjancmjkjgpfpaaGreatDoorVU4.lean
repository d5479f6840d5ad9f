/- Walks of functions, plain laws, the table. -/
import Derived.Test.YtjancmjkjgpfpaaGreatDoorVU3
import Derived.Test.YtjancmjkjgpfpaaGreatDoorVF
import Derived.Test.YtjancmjkjgpfpaaGreatDoorVU2
import Derived.Test.YtjancmjkjgpfpaaGreatDoorVD
set_option linter.all false
set_option maxHeartbeats 16000000
set_option maxRecDepth 100000
section
namespace Go.A.Pk
variable {T:Nat->Option an}
theorem Gz{h:Heap}{v:Value}{n:Nat}{cs:List Value}(s:aJ h 1 v n cs){i:Nat}{x:Value}(hi:cs[i]? =some x):
 ∃b o c vs own t,v= .slice (some ⟨b,o,none⟩) n c/\h.get b=some (.cells vs own t)/\b<h.next/\bH vs (o+i*1)=some x:=by
 have hlt:=(List.getElem?_eq_some_iff.1 hi).1;rcases aJ.inv s with⟨_,_,h0,hc⟩|⟨b,o,cap,hs,s3,hc⟩
 ·rw[hc]at hlt;simp at hlt
 ·obtain⟨vs,own,t,g1,g2⟩:=s3.obj;have hl:=s3.len;refine⟨b,o,cap,vs,own,t,hs,g1,s3.lt,?_⟩;rw[bI,aT]at g2;rw[←g2,List.getElem?_take_of_lt (by omega),List.getElem?_drop]at hi;rw[cD,Nat.mul_one];exact hi
theorem ints_at{l:List Int}{i:Nat}{x:Int}(h:l[i]? =some x):(ints l)[i]? =some (.int .i64 x):=by simp[ints,h]
def cO(l:List Nat):List Nat:=l++List.replicate (8-l.length) 0
theorem iG{l:List Nat}(h:l.length<=8):(cO l).length=8:=by unfold cO;rw[List.length_append,List.length_replicate];omega
theorem LZ{l:List Nat}{k:Nat}(h:l.length<8):(cO l).set l.length k=cO (l++[k]):=by
 unfold cO;rw[List.set_append_right _ _ (Nat.le_refl _),Nat.sub_self];obtain⟨m,hm⟩:∃m,8-l.length=m+1:=⟨8-l.length-1,by omega⟩;rw[hm,List.replicate_succ,List.set_cons_zero,List.append_assoc,List.length_append,List.length_singleton,show 8-(l.length+1)=m by omega];rfl
def z8:List Nat:=[0,0,0,0,0,0,0,0]
def tO(l:List Int):Bool:=l.all λx=>inR x 0 2
def nT(l:List Int)(n:Nat):List Nat×Bool:=if n<l.length∨tO l=false then(z8,false)else(cO (l.map Int.toNat),decide (l.length=n))
theorem JW(f:List Nat)(i k:Nat):(fL f).set (0+i*1) (.int .u8 (k:Nat))=fL (f.set i k):=by
 rw[Nat.zero_add,Nat.mul_one];unfold fL;rw[List.map_set]
structure Qv (T:Nat->Option an):Prop where
 p:aF T
 f106:T 35=some f106
 f142:T 49=some f142
theorem Oc(f:List Nat)(b:Bool):cG (.tuple #[fV f, .bool b])=true:=by
 have q:flat (fV f)=true:=by
  show cV (fL f).toArray.toList=true;rw[List.toList_toArray];induction f with
  |nil=>rfl
  |cons a f ih=>exact ih
 show iD [fV f, .bool b]=true;simp only[iD,q];rfl
theorem J5(F:Qv T){h:Heap}(hr:Rdy h){q:Nat}{w:List Nat×List Nat}(hw:IsW w){pv nv ov mv:Value}(gq:h.get q=some (.cells (quL w pv nv ov mv) true 1)){l:List Pb}(sp:PbS h pv l)(hl:l.length<=8){v:Value}{fs:List Int}(sf:aJ h 1 v fs.length (ints fs))(hfl:fs.length<1000000):
 Pu T 49 [.pointer (some ⟨q,0,none⟩),v] h (.tuple #[fV (nT fs l.length).1, .bool (nT fs l.length).2]):=by
 refine .of F.p F.f142 hr (Oc _ _) ?_;obtain⟨a,c,rfl⟩:=sp.form;obtain⟨a2,c2,rfl⟩:=sf.form;have hqn:=hr.wf.bK gq;have kp:=qA hw (.slice a l.length c) nv ov mv;have x0:Ext h ((h.push (.cells (aK 8 (.int .u8 0)) true 1)).push (.cells (aK 8 (.int .u8 0)) true 1)):=((Ext.refl h).push _).push _;have g4:((h.push (.cells (aK 8 (.int .u8 0)) true 1)).push (.cells (aK 8 (.int .u8 0)) true 1)).get h.next=some (.cells (fL z8) true 1):=(z4 (Nat.lt_succ_self _)).trans (z3 h _)
 have g6:((h.push (.cells (aK 8 (.int .u8 0)) true 1)).push (.cells (aK 8 (.int .u8 0)) true 1)).get (h.next+1)=some (.cells (fL (cO ((fs.take 0).map Int.toNat))) true 1):=z3 _ _;have n0:((h.push (.cells (aK 8 (.int .u8 0)) true 1)).push (.cells (aK 8 (.int .u8 0)) true 1)).next=h.next+2:=rfl
 refine Y7 ?_;have gqH:=(x0.old _ hqn).trans gq;have sfH:=sf.ext x0;generalize((h.push (.cells (aK 8 (.int .u8 0)) true 1)).push (.cells (aK 8 (.int .u8 0)) true 1))=H at*;have W:=x0.wf hr.wf;have hL:=x0.log.trans hr.log;have hnx:(h.push (.cells (aK 8 (.int .u8 0)) true 1)).next=h.next+1:=rfl
 rw[hnx];clear hnx;refine Y7 ?_
 refine cM (λm e ds h'=>∃i:Nat,i<=fs.length/\i<=l.length/\m=fs.length-i/\e=[(0, .pointer (some ⟨q,0,none⟩)),(1, .slice a2 fs.length c2),(4, .pointer (some ⟨h.next,0,none⟩)),(6, .pointer (some ⟨h.next+1,0,none⟩)),(9, .slice a2 fs.length c2),(10, .int .i64 (fs.length:Nat)),(11, .int .i64 (i:Nat))]/\ds=[]/\WF h'∧h'.log=[]/\h'.next=H.next/\(∀z,z≠h.next+1->h'.get z=H.get z)/\h'.get (h.next+1)=some (.cells (fL (cO ((fs.take i).map Int.toNat))) true 1)/\tO (fs.take i)=true)
  ⟨0,Nat.zero_le _,Nat.zero_le _,rfl,rfl,rfl,W,hL,rfl,λ_ _=>rfl,g6,rfl⟩ ?_
 rintro m e ds G ⟨i,hi,hil,rfl,rfl,rfl,WG,hLG,nG,oG,g6G,hok⟩;have gqG:=(oG q (by omega)).trans gqH;have g4G:=(oG h.next (by omega)).trans g4;by_cases hlt:i<fs.length
 ·obtain⟨x,hx⟩:∃s,fs[i]? =some s:=⟨fs[i],List.getElem?_eq_getElem hlt⟩;obtain⟨b,o,c3,vs,own,tt,hv,gl,hbl,el⟩:=Gz sf (ints_at hx);cases hv;have glG:=((oG b (by omega)).trans (x0.old b hbl)).trans gl;have mlt:aq .lss (.int .i64 (i:Nat)) (.int .i64 (fs.length:Nat))=some (.bool true):=ei (by omega);have kz8:cw 8 (bU 0 (fL z8))=fL z8:=rfl;have kz9:Nat.beq (cm (fL z8)) 8=true:=rfl;by_cases hil2:i<l.length
  ·have mge:aq .geq (.int .i64 (i:Nat)) (.int .i64 (l.length:Nat))=some (.bool false):=nY (by omega);have C:=Kn F.p F.f106 (h:={G with log:=[]}) (.of WG) x 0 2;have hst:tO (fs.take (i+1))=(tO (fs.take i)&&inR x 0 2):=by
    obtain⟨hlt2,rfl⟩:=List.getElem?_eq_some_iff.1 hx;unfold tO;rw[List.take_succ_eq_append_getElem hlt2,List.all_append];simp
   have hno:inR x 0 2=false->tO fs=false:=λq=>by
    unfold tO;rw[List.all_eq_false];exact⟨x,List.mem_of_getElem? hx,by rw[q];simp⟩
   cases hin:inR x 0 2 with
   |false=>
    rw[hin]at C;have e:nT fs l.length=(z8,false):=by unfold nT;rw[if_pos (.inr (hno hin))]
    rw[e];refine Y30 ?_;refine FW.pu C ?_;refine Y17 ?_;refine aA ?_ (dF (own:=true) (s:=1) rfl ?_ kz8 kz9 (lU rfl rfl)) rfl
    ·rw[Heap.aB (by omega)];exact hLG
    ·exact YG
   |true=>
    rw[hin]at C hst;obtain⟨k,rfl⟩:∃k:Nat,x=(k:Int):=⟨x.toNat,by unfold inR at hin;have:=of_decide_eq_true hin;omega⟩;have hk2:k<=2:=by unfold inR at hin;have:=of_decide_eq_true hin;omega
    have kcv:fN .u8 (k:Int)=((k:Nat):Int):=by
     have:k=0∨k=1∨k=2:=by omega
     rcases this with rfl|rfl|rfl<;>rfl
    have htl:((fs.take i).map Int.toNat).length=i:=by rw[List.length_map,List.length_take];omega
    have hpl:(cO ((fs.take i).map Int.toNat)).length=8:=iG (by omega);have hps:(cO ((fs.take i).map Int.toNat)).set i k=cO ((fs.take (i+1)).map Int.toNat):=by
     have:=LZ (l:=(fs.take i).map Int.toNat) (k:=k) (by omega);rw[htl]at this;rw[this];obtain⟨hlt2,e⟩:=List.getElem?_eq_some_iff.1 hx;rw[List.take_succ_eq_append_getElem hlt2,e,List.map_append];rfl
    have hset:=JW (cO ((fs.take i).map Int.toNat)) i k;rw[hps]at hset;generalize cO ((fs.take i).map Int.toNat)=f at*;have hfl2:(fL f).length=8:=by rw[dx];exact hpl
    refine Y30 ?_;refine FW.pu C ?_;clear C;refine Y10 ?_;refine aD (vF (by exact rfl) (by assumption)) ?_;refine aD (oL (by exact rfl) (by exact rfl) (by omega)) ?_;refine aD (oN (by exact rfl) (by exact rfl) (by assumption) (by exact rfl) (by exact rfl) (by omega)) ?_;refine bL ?_;refine Y7 ?_;exact⟨fs.length-(i+1),by omega,i+1,by omega,by omega,rfl,rfl,rfl,WG.as (AS.wr h.next _ _ _),(Heap.aB (by omega)).trans hLG,nG,λz hz=>(z5 hz).trans (oG z hz),by rw[←hset];(simp(disch:=first|omega|(simp only[z1,z2];omega))only[z3,z4,z5,z6,z7,z1,z2,gq,g4,g6,gqH,gqG,g4G,gl,glG,g6G];done),by rw[hst,hok];rfl⟩
  ·have mge:aq .geq (.int .i64 (i:Nat)) (.int .i64 (l.length:Nat))=some (.bool true):=tJ (by omega);have e:nT fs l.length=(z8,false):=by unfold nT;rw[if_pos (.inl (by omega))]
   rw[e];refine Y40 ?_;refine Y4 ?_;refine aA ?_ (dF (own:=true) (s:=1) rfl ?_ kz8 kz9 (lU rfl rfl)) rfl
   ·rw[Heap.aB (by omega)];exact hLG
   ·exact YG
 ·obtain rfl:i=fs.length:=by omega
  have mlt:aq .lss (.int .i64 (fs.length:Nat)) (.int .i64 (fs.length:Nat))=some (.bool false):=eH (by omega);rw[List.take_length]at g6G hok;have e:nT fs l.length=(cO (fs.map Int.toNat),decide (fs.length=l.length)):=by
   unfold nT;rw[if_neg (λq=>q.elim (by omega) (by rw[hok];simp))]
  rw[e];have hpl:(cO (fs.map Int.toNat)).length=8:=iG (by rw[List.length_map];omega);generalize cO (fs.map Int.toNat)=f at*;have kf8:=iq hpl;have kf9:=fJ hpl;have kfl:(fL f).length=8:=by rw[dx];exact hpl
  have kfo:=kN f;have meq:aq .eql (.int .i64 (fs.length:Nat)) (.int .i64 (l.length:Nat))=some (.bool (decide (fs.length=l.length))):=wJ rfl;refine Y21 ?_;refine pU rfl rfl rfl (by exact rfl) (by exact rfl) (by exact rfl) (by assumption) (by assumption) (by exact rfl) (by assumption) (by omega) (by omega) (by apply ah rfl (aa rfl (vI (by exact rfl) (by exact rfl) (by with_reducible assumption)) (by exact BK _)) rfl;apply ah rfl (aa rfl (Ai (by exact rfl)) (by exact dg _ _)) rfl;apply ah rfl (aa rfl (bY (by exact rfl) YG (by assumption)) (by exact eV _ _ _)) rfl;apply ah rfl (aa rfl (cT (by exact rfl)) (by exact aX _)) rfl;apply ah rfl (aa rfl (gp (by exact rfl)) (by exact aX _)) rfl;apply ah rfl (aa rfl (eG (by exact rfl)) (by exact aX _)) rfl;apply ah rfl (aa rfl (Ai (by exact rfl)) (by exact dg _ _)) rfl;apply ah rfl (aa rfl (eG (by exact rfl)) (by exact eV _ _ _)) rfl;apply aG rfl;exact bh) ?_;refine Y5 ?_;refine aA ?_ (dF (own:=true) (s:=1) rfl ?_ kf8 kf9 (lU rfl rfl)) rfl
  ·rw[Heap.aB (by omega)];exact hLG
  ·exact YG
theorem NR{w:List Nat×List Nat}{l:List Pb}{os:List (List Nat)}(h:mc w l os=0):sIn w.1 w.2=true/\os.length<=6/\(∀s∈os,¬s=s0)/\l.length<=8:=by
 unfold mc at h;split at h
 ·cases h
 ·rename_i h1;split at h
  ·cases h
  ·rename_i h2;split at h
   ·cases h
   ·rename_i h3;refine⟨by simpa using h1,by omega,λs hs e=>h3 (List.any_eq_true.2 ⟨s,hs,decide_eq_true e⟩),?_⟩;unfold prE at h;split at h
    ·cases h
    ·omega
theorem Ol{fs:List Int}{n:Nat}(hn:n<=8)(h:(nT fs n).2=true):(nT fs n).1=cO (fs.map Int.toNat)/\(nT fs n).1.length=8/\fs.length=n/\tO fs=true:=by
 unfold nT at h⊢;split at h
 ·cases h
 ·rename_i hc;rw[if_neg hc];have e:=of_decide_eq_true h;exact⟨rfl,iG (by rw[List.length_map];omega),e,by cases q:tO fs with
   |true=>rfl
   |false=>exact absurd (.inr q) hc⟩
theorem J3{fs:List Int}{n:Nat}(hn:n<=8):(nT fs n).1.length=8:=by
 unfold nT;split
 ·rfl
 ·exact iG (by rw[List.length_map];omega)
def zsF(l:List Pb)(fs:List Int):Zs:=l.zip (fs.map Int.toNat)
theorem NJ{l:List Pb}{fs:List Int}(h:fs.length=l.length):l.zip (cO (fs.map Int.toNat))=zsF l fs:=by
 unfold zsF cO;have e:(fs.map Int.toNat).length=l.length:=by rw[List.length_map];exact h
 generalize fs.map Int.toNat=f at*;generalize List.replicate (8-f.length) 0=r;clear h;induction l generalizing f with
 |nil=>cases f with
  |nil=>simp
  |cons a f=>simp at e
 |cons p l ih=>cases f with
  |nil=>simp at e
  |cons a f=>simp[ih f (by simpa using e)]
structure Tt (T:Nat->Option an):Prop where
 ak:IU T
 qu:Ca T
 fn:Qv T
theorem Own.UC{lo lo' sz n:Nat}{h h':Heap}{v:Value}{cs:List Value}(hv:cG v=true)(q:Own lo h sz v n cs):Own lo' h' sz v n cs:=by
 cases q with
 |nil=>exact .nil
 |full=>cases hv
end Go.A.Pk
end
section
namespace Go.A.Pk
def InC(s:List Nat)(x y z:Nat):Prop:=(x:Int)<=7-(dS s).1.hi.x/\(y:Int)<=7-(dS s).1.hi.y/\(z:Int)<=7-(dS s).1.hi.z
def WR(a:List Nat)(im:List (List Nat))(p:List Nat):Prop:=∃s∈im,∃x y z:Nat,InC s x y z/\mK (shC x y z) s=p/\sIn p a=true
structure PlI (a:List Nat) (im:List (List Nat)) (i z y x:Nat) (l:List (List Nat)):Prop where
 ok:∀p∈l,IsS p
 pw:l.Pairwise SLt
 sound:∀p∈l,WR a im p
 comp:∀j s,im[j]? =some s->∀x' y' z':Nat,InC s x' y' z'→(j<i∨j=i/\(z'<z∨z'=z/\(y'<y∨y'=y/\x'<x)))->sIn (mK (shC x' y' z') s) a=true->mK (shC x' y' z') s∈l
end Go.A.Pk
end
section
namespace Go.A.Pk
variable {T:Nat->Option an}
theorem Own.J1{lo lo' sz n:Nat}{h h':Heap}{u:Value}{k:Int}{cs:List Value}(hv:cG (.tuple #[u, .int .i64 k])=true)(q:Own lo h sz u n cs):Own lo' h' sz u n cs:=by
 cases q with
 |nil=>exact .nil
 |full h1 h2 h3 h4 h5=>
  simp[cG,iD,cV,flat,mO,kF]at hv;try cases hv.1
def uN(w:List Nat×List Nat)(l:List Pb)(fs:List Int)(os:List (List Nat)):List Nat×Int:=
 if mc w l os≠0 then([],mc w l os)else if(nT fs l.length).2=false then([],1)else if mB w=true then([],82)else if bsB w (zsF l fs)=false then([],5)else
  (os.map λo=>jK (zsF l fs) (bsS w.1 (zsF l fs)) (bQ w o),0)
theorem aJ.se{h h':Heap}{sz n:Nat}{v:Value}{cs:List Value}(s:aJ h sz v n cs)(hn:h.next<=h'.next)(ha:∀z,z<h.next->h'.get z=h.get z):aJ h' sz v n cs:=by
 cases s with
 |nil=>exact .nil
 |mem s hc=>
  obtain⟨vs,own,t,g1,g2⟩:=s.obj;exact .mem ⟨Nat.lt_of_lt_of_le s.lt hn,⟨vs,own,t,(ha _ s.lt).trans g1,g2⟩,s.len⟩ hc
structure IZ (T:Nat->Option an):Prop where
 cb:Tt T
 lk:I3 T
 f56:T 9=some f56
 f144:T 27=some f144
theorem Oa(f:List Nat)(k:Nat):fL (f++[k])=fL f++[.int .u8 (k:Nat)]:=by simp[fL]
theorem Ks(F:IZ T){h:Heap}(hr:Rdy h)(hg:Tab h)(h2:0<h.next){w:List Nat×List Nat}(hw:IsW w){pv:Value}{l:List Pb}(sp:PbS h pv l)(hl:l.length<1000000){v:Value}{fs:List Int}(sf:aJ h 1 v fs.length (ints fs))(hfl:fs.length<1000000){ov:Value}{os:List (List Nat)}(so:SsQ h ov os)(hol:os.length<1000000):
 Al T 27 [wV w,pv,v,ov] h λv h'=>∃u,v= .tuple #[u, .int .i64 (uN w l fs os).2]/\Own h.next h' 1 u (uN w l fs os).1.length (fL (uN w l fs os).1):=by
 refine .of F.cb.fn.p F.f144 hr (λv h1 hv ⟨u,e,q⟩=>⟨u,e,by subst e;exact Own.J1 hv q⟩) ?_;have hwc:cellsOf (wV w)=wL w:=by show(wL w).toArray.toList=_;simp
 obtain⟨a,c,rfl⟩:=sp.form;obtain⟨a2,c2,rfl⟩:=sf.form;obtain⟨a3,c3,rfl⟩:=so.sl.form;have hov:∀b o m c,(.slice a3 os.length c3:Value)= .slice (some ⟨b,o,none⟩) m c->b<h.next:=λb o m c e=>by
  rcases aJ.inv so.sl with⟨_,hv,_⟩|⟨b',o',cap,hv,s1,_⟩
  ·rw[hv]at e;cases e
  ·rw[hv]at e;cases e;exact s1.lt
 have x0:Ext h (h.push (.cells (cellsOf (wV w)) true 1)):=(Ext.refl h).push _;have g0:(h.push (.cells (cellsOf (wV w)) true 1)).get h.next=some (.cells (wL w) true 1):=by rw[hwc];exact z3 h _
 have n0:(h.push (.cells (cellsOf (wV w)) true 1)).next=h.next+1:=rfl
 refine Y5 ?_;generalize(h.push (.cells (cellsOf (wV w)) true 1))=H at*;have W:=x0.wf hr.wf;have hL:=x0.log.trans hr.log;have wk:=lY hw;have wkl:=jh hw;have C1:=Cm F.cb.ak (h:={H with log:=[]}) (.of W) hw ((sp.ext x0).log []) hl ((so.ext x0).log []) hol;unfold uN;have hask:=NR (w:=w) (l:=l) (os:=os);generalize mc w l os=er at*;refine Y5 ?_;refine FW.al C1 (λv h' m q=>q) ?_;clear C1;rintro _ H1 x1 (⟨he,rfl⟩|⟨rfl,q,m,rfl,hq1,hq2,hq3,gq,gm⟩)
 ·rw[if_pos he];have hL1:=x1.log.trans hL;have mn:aq .neq (.int .i64 er) (.int .i64 0)=some (.bool true):=jE he;refine Y19 ?_;exact cF hL1 rfl ⟨_,rfl, .nil⟩
 rw[if_neg (λq=>q rfl)];obtain⟨_,hol6,hone,hl8⟩:=hask rfl;clear hask;have hq1:H.next<=m:=hq1
 have ey1:=x0.trans x1;have W1:=ey1.wf hr.wf;have hL1:=x1.log.trans hL;have n1:=x1.next
 have g01:=(x1.old _ (by omega)).trans g0;have C2:=J5 F.cb.fn (h:={H1 with log:=[]}) (.of W1) hw gq ((sp.ext ey1).log []) hl8 ((sf.ext ey1).log []) hfl;have hfn:=Ol (fs:=fs) hl8;have hzp:=λe=>NJ (l:=l) (fs:=fs) e;have mn:aq .neq (.int .i64 0) (.int .i64 0)=some (.bool false):=rfl;have hf8:=J3 (fs:=fs) hl8;generalize nT fs l.length=fp at*;obtain⟨f,ok⟩:=fp;dsimp only at C2 hfn hf8⊢;have kf8:=iq hf8;have kf9:=fJ hf8;have kfl:(fL f).length=8:=by rw[dx];exact hf8
 have kfo:=kN f;have x2:=ff (h:=H1) (base:=h.next) (by omega) (.cells (aK 8 (.int .u8 0)) true 1) (.cells (fL f) true 1);have g12:=fO (h:=H1) (base:=h.next) (aK 8 (.int .u8 0)) (fL f);have n2:((H1.push (.cells (aK 8 (.int .u8 0)) true 1)).wr h.next H1.next (.cells (fL f) true 1)).next=H1.next+1:=rfl
 clear g0;refine Y18 ?_;refine FW.pu C2 ?_;clear C2;refine Y4 ?_;refine aD (bZ (by exact rfl) (by exact rfl) YG (by assumption) (by exact rfl) (by assumption)) ?_;refine Y2 ?_;generalize((H1.push (.cells (aK 8 (.int .u8 0)) true 1)).wr h.next H1.next (.cells (fL f) true 1))=H2 at*;have ey2:=ey1.trans x2;have W2:=ey2.wf hr.wf;have hL2:=x2.log.trans hL1;have gq2:=(x2.old q hq3).trans gq;have g02:=(x2.old _ (by omega)).trans g01;cases ok with
 |false=>
  rw[if_pos rfl];refine Y15 ?_;exact cF hL2 rfl ⟨_,rfl, .nil⟩
 |true=>
 rw[if_neg (by simp)];obtain⟨hf1,_,hfe,_⟩:=hfn rfl;have hz:l.zip f=zsF l fs:=by rw[hf1];exact hzp hfe
 have C3:=KY F.cb.ak.ne (h:={H2 with log:=[]}) (.of W2) hw;clear hfn hzp g01 gq;cases hm:mB w with
 |true=>
  rw[hm]at C3;rw[if_pos rfl];refine Y11 ?_;refine FW.pu C3 ?_;refine Y10 ?_;exact cF hL2 rfl ⟨_,rfl, .nil⟩
 |false=>
 rw[hm]at C3;rw[if_neg (by simp)];have C4:=FP F.cb.qu (h:={H2 with log:=[]}) (.of W2) hw gq2 ((sp.ext ey2).log []) hl8 hf8;rw[hz]at C4;have hbs:IsS (bsS w.1 (zsF l fs)):=nO hw.a (pX sp.ok);generalize hbz:bsS w.1 (zsF l fs)=s at*;have kb8:=bA hbs.len;have kb9:=bV hbs.len;have kbn:=hbs.len;have x3:=ff (h:=H2) (base:=h.next) (by omega) (.cells (aK 8 (.int .u64 0)) true 1) (.cells (us s) true 1);have g14:=fO (h:=H2) (base:=h.next) (aK 8 (.int .u64 0)) (us s);have n3:((H2.push (.cells (aK 8 (.int .u64 0)) true 1)).wr h.next H2.next (.cells (us s) true 1)).next=H2.next+1:=rfl
 refine Y11 ?_;refine FW.pu C3 ?_;clear C3;refine Y10 ?_;refine FW.pu C4 ?_;clear C4;refine Y4 ?_;refine aD (bZ (by exact rfl) (by exact rfl) YG (by(simp only[aH];assumption)) (by exact rfl) (by exact dB _)) ?_;refine Y2 ?_;generalize((H2.push (.cells (aK 8 (.int .u64 0)) true 1)).wr h.next H2.next (.cells (us s) true 1))=H3 at*;have ey3:=ey2.trans x3;have W3:=ey3.wf hr.wf;have hL3:=x3.log.trans hL2;have gq3:=(x3.old q (by omega)).trans gq2;have g123:=(x3.old _ (by omega)).trans g12;clear gq2 g12;cases hcan:bsB w (zsF l fs)with
 |false=>
  rw[if_pos rfl];refine Y12 ?_;exact cF hL3 rfl ⟨_,rfl, .nil⟩
 |true=>
 rw[if_neg (by simp)];have C5:=Gg F.lk (h:={H3 with log:=[]}) (.of W3) (show Tab H3 from hg.ext ey3 h2) (by show 0<H3.next;omega) (q:=q) (by omega) hw gq3 ((so.ext ey3).log []) hol (λb o m c e=>by have:=hov b o m c e;omega);refine Y11 ?_;refine FW.gs0 C5 (λv h' m q=> ?_) (λz hz=>by omega) ?_
 ·obtain⟨o5,nv,q1,q2⟩:=q;exact⟨o5,nv,q1,q2.log m⟩
 rintro _ H4 n4 l4 _ w4 ⟨o4,nv,gq4,sn⟩;clear C5;have o4:∀z,z<H3.next->z≠q->H4.get z=H3.get z:=o4
 have W4:=w4 W3;have hL4:=l4.trans hL3;have g124:=(o4 _ (by omega) (by omega)).trans g123;have g144:=(o4 _ (by omega) (by omega)).trans g14;have sp4:PbS H4 (.slice a l.length c) l:=⟨aJ.se sp.sl (by omega) λz hz=>(o4 z (by omega) (by omega)).trans (ey3.old z hz),sp.ok⟩;clear g123 g14 gq3;refine Y11 ?_
 refine cM (λm e ds h'=>∃(i:Nat) (v:Value),i<=os.length/\os.length-i=m/\e=[(10, .pointer (some ⟨q,0,none⟩)),(12, .pointer (some ⟨H1.next,0,none⟩)),(14, .pointer (some ⟨H2.next,0,none⟩)),(16,v),(51, .int .i64 (os.length:Nat)),(52, .int .i64 (i:Nat))]/\ds=[]/\Ext H4 h'∧Own H4.next h' 1 v i (fL ((os.take i).map λo=>jK (zsF l fs) s (bQ w o))))
  ⟨0,_,Nat.zero_le _,rfl,rfl,rfl, .refl H4, .nil⟩ ?_
 rintro m' e ds G ⟨i,v,hi,rfl,rfl,rfl,xG,ow⟩;have WG:=xG.wf W4;have hLG:=xG.log.trans hL4;have nG:=xG.next
 by_cases hlt:i<os.length
 ·obtain⟨x,hx⟩:∃s,os[i]? =some s:=⟨os[i],List.getElem?_eq_getElem hlt⟩;have mlt:aq .lss (.int .i64 (i:Nat)) (.int .i64 (os.length:Nat))=some (.bool true):=ei (by omega);have g12G:=(xG.old _ (by omega)).trans g124;have g14G:=(xG.old _ (by omega)).trans g144;have gqG:=(xG.old _ (by omega)).trans gq4;have hnx:(os.map (bQ w))[i]? =some (bQ w x):=by rw[List.getElem?_map,hx];rfl
  have C6:=zq F.cb.qu (h:={G with log:=[]}) (.of WG) hw gqG ((sp4.ext xG).log []) hl8 hf8 hbs ((sn.ext xG).log []) (by rw[List.length_map];omega) hnx (Nat.lt_of_le_of_lt (zG w x) (by decide));rw[hz]at C6;have hst:fL ((os.take (i+1)).map λo=>jK (zsF l fs) s (bQ w o))=fL ((os.take i).map λo=>jK (zsF l fs) s (bQ w o))++[.int .u8 ((jK (zsF l fs) s (bQ w x):Nat):Int)]:=by
   rw[fQ hx,List.map_append,←Oa];rfl
  generalize fL ((os.take i).map λo=>jK (zsF l fs) s (bQ w o))=cs at*;generalize jK (zsF l fs) s (bQ w x)=jx at*;refine Y20 ?_;refine FW.pu C6 ?_;clear C6;refine aD (mT (by exact rfl) (by exact rfl)) ?_;refine Qc (lo:=H4.next) (c1:=[.int .u8 (jx:Nat)]) (ow.ext ((Ext.refl G).push _)) (by omega) (by omega) (by omega) (by show H4.next<=G.next+1;omega) (by omega) (by exact rfl) (by exact rfl) (iN (cs:=[.int .u8 (jx:Nat)]) (z3 G _) rfl rfl) rfl rfl ?_;intro v2 h9 o9 x9;refine yM ?_;refine bL ?_;refine Y7 ?_;refine⟨os.length-(i+1),by omega,i+1,v2,by omega,rfl,rfl,rfl,((xG.lx (Nat.le_refl _)).trans ((((Ext.refl G).push _).lx (by omega)).trans x9)).ext,?_⟩;rw[hst];exact o9
 ·obtain rfl:i=os.length:=by omega
  have mlt:aq .lss (.int .i64 (os.length:Nat)) (.int .i64 (os.length:Nat))=some (.bool false):=eH (by omega);rw[List.take_length]at ow;refine Y16 ?_;exact cF hLG rfl ⟨_,rfl,by dsimp only;rw[List.length_map];exact ow.low (by omega)⟩
theorem Kt(F:IZ T){h:Heap}(hr:Rdy h)(hg:Tab h)(h2:0<h.next){w:List Nat×List Nat}(hw:IsW w){pv:Value}{l:List Pb}(sp:PbS h pv l)(hl:l.length<1000000){v:Value}{fs:List Int}(sf:aJ h 1 v fs.length (ints fs))(hfl:fs.length<1000000){ov:Value}{os:List (List Nat)}(so:SsQ h ov os)(hol:os.length<1000000):
 Al T 9 [wV w,pv,v,ov] h λv h'=>∃u,v= .tuple #[u, .int .i64 (uN w l fs os).2]/\Own h.next h' 1 u (uN w l fs os).1.length (fL (uN w l fs os).1):=by
 refine .of F.cb.fn.p F.f56 hr (λv h1 hv ⟨u,e,q⟩=>⟨u,e,by subst e;exact Own.J1 hv q⟩) ?_;have hwc:cellsOf (wV w)=wL w:=by show(wL w).toArray.toList=_;simp
 obtain⟨a,c,rfl⟩:=sp.form;obtain⟨a2,c2,rfl⟩:=sf.form;obtain⟨a3,c3,rfl⟩:=so.sl.form;have x0:Ext h (h.push (.cells (cellsOf (wV w)) true 1)):=(Ext.refl h).push _;have g0:(h.push (.cells (cellsOf (wV w)) true 1)).get h.next=some (.cells (wL w) true 1):=by rw[hwc];exact z3 h _
 have n0:(h.push (.cells (cellsOf (wV w)) true 1)).next=h.next+1:=rfl
 refine Y5 ?_;generalize(h.push (.cells (cellsOf (wV w)) true 1))=H at*;have W:=x0.wf hr.wf;have hL:=x0.log.trans hr.log;have wk:=lY hw;have wkl:=jh hw;have C:=Ks F (h:={H with log:=[]}) (.of W) (show Tab H from hg.ext x0 h2) (by show 0<H.next;omega) hw ((sp.ext x0).log []) hl ((sf.ext x0).log []) hfl ((so.ext x0).log []) hol;refine Y6 ?_;refine FW.al C (λv h' m ⟨u,e,q⟩=>⟨u,e,q.log m⟩) ?_;rintro _ H1 x1 ⟨u,rfl,q1⟩;have q1:Own H.next H1 1 u (uN w l fs os).1.length (fL (uN w l fs os).1):=q1
 refine Y6 ?_;exact cF (x1.log.trans hL) rfl ⟨_,rfl,q1.low (by omega)⟩
theorem Ux{l:List Nat}{i k:Nat}(h:l[i]? =some k):(fL l)[i]? =some (.int .u8 (k:Nat)):=by simp[fL,h]
theorem WH(fs:List Int)(n:Nat):(nT fs n).2=(decide (fs.length=n)&&tO fs):=by
 unfold nT;split
 ·rename_i h;rcases h with q|q
  ·rw[decide_eq_false (by omega),Bool.false_and]
  ·rw[q,Bool.and_false]
 ·rename_i h;cases q:tO fs with
  |false=>exact absurd (.inr q) h
  |true=>rw[Bool.and_true]
end Go.A.Pk
end
section
namespace Go.A.Pk
def cst(f:List Nat):List Int:=f.map λ(k:Nat)=>(k:Int)
theorem rS(f:List Nat):(cst f).length=f.length:=by simp[cst]
theorem FY(f:List Nat):(cst f).map Int.toNat=f:=by
 unfold cst;rw[List.map_map];induction f with
 |nil=>rfl
 |cons a f ih=>rw[List.map_cons,ih];rfl
theorem GN(l:List Pb)(f:List Nat):zsF l (cst f)=l.zip f:=by unfold zsF;rw[FY]
structure td (t:List Nat) (l:List Pb) (f:List Nat):Prop where
 len:f.length=l.length
 at':∀(i:Nat) (p:Pb) (k:Nat),l[i]? =some p->f[i]? =some k->k=0∨k=oJ t p
theorem NP(t:List Nat)(p:Pb):oJ t p=1∨oJ t p=2:=by unfold oJ;split<;>simp
theorem Qq{l:List Pb}{f:List Nat}{x:Pb×Nat}(h:x∈l.zip f):∃i:Nat,l[i]? =some x.1/\f[i]? =some x.2:=by
 obtain⟨i,hi⟩:=List.getElem?_of_mem h;exact⟨i,List.getElem?_zip_eq_some.1 hi⟩
theorem td.hon{t:List Nat}{l:List Pb}{f:List Nat}(h:td t l f):vu t (l.zip f):=λx hx=>by
 obtain⟨i,h1,h2⟩:=Qq hx;exact h.at' i _ _ h1 h2
theorem td.ok{t:List Nat}{l:List Pb}{f:List Nat}(h:td t l f):tO (cst f)=true:=by
 unfold tO cst;rw[List.all_map,List.all_eq_true];intro k hk;obtain⟨i,hi⟩:=List.getElem?_of_mem hk;have hlt:=(List.getElem?_eq_some_iff.1 hi).1;have hl:=h.len;have:=h.at' i (l[i]'(by omega)) k (List.getElem?_eq_getElem (by omega)) hi;have:=NP t (l[i]'(by omega));show decide (0<=((k:Nat):Int)/\((k:Nat):Int)<=2)=true;rw[decide_eq_true_eq];omega
theorem td.fnd{t:List Nat}{l:List Pb}{f:List Nat}(h:td t l f):(nT (cst f) l.length).2=true:=by
 rw[WH,h.ok,rS,decide_eq_true h.len];rfl
theorem td.set{t:List Nat}{l:List Pb}{f:List Nat}(h:td t l f){i:Nat}{p:Pb}(hp:l[i]? =some p):td t l (f.set i (oJ t p)):=by
 refine⟨by rw[List.length_set];exact h.len,λj q k hq hk=> ?_⟩;rw[List.getElem?_set]at hk;split at hk
 ·rename_i e;subst e;split at hk
  ·rw[hp]at hq;cases hq;cases hk;exact .inr rfl
  ·cases hk
 ·exact h.at' j q k hq hk
section
variable {w:List Nat×List Nat} (hw:IsW w) {t:List Nat} (ht:IsS t) (h1:Sub w.1 t) (h2:Sub t w.2) {l:List Pb} (hl:∀p∈l,IsS p.cells)
include hw ht h1 h2 hl
theorem Kg{f:List Nat}(h:td t l f)(os:List (List Nat)):uN w l (cst f) os=if mc w l os≠0 then([],mc w l os)else if mB w=true then([],82)else(os.map λo=>jK (l.zip f) (bsS w.1 (l.zip f)) (bQ w o),0):=by
 unfold uN;rw[h.fnd,if_neg (show¬true=false by simp),GN,F9 hw ht h1 h2 (pX hl) h.hon,if_neg (show¬true=false by simp)]
end
theorem ints_set(f:List Nat)(i k:Nat):(ints (cst f)).set (0+i*1) (.int .i64 ((k:Nat):Int))=ints (cst (f.set i k)):=by
 rw[Nat.zero_add,Nat.mul_one];unfold ints cst;rw[List.map_set,List.map_set]
theorem zu:∀n,eS n [Value.int .i64 0]=ints (cst (List.replicate n 0))
 |0=>rfl
 |n+1=>by
  show eD [Value.int .i64 0] (eS n _)=_;rw[zu n,List.replicate_succ];rfl
end Go.A.Pk
end
section
namespace Go.A.Pk
def mnF(g:Nat->Int)(L:List Nat)(c:Int):Int:=L.foldl (λn p=>min n (g p)) c
theorem pz(g:Nat->Int):∀(L:List Nat) (c:Int),mnF g L c<=c
 |[],c=>Int.le_refl c
 |p::L,c=>Int.le_trans (pz g L (min c (g p))) (Int.min_le_left _ _)
theorem EG(g:Nat->Int):∀{L:List Nat} {c:Int} {p:Nat},p∈L->mnF g L c<=g p
 |x::L,c,p,h=>by
  rcases List.mem_cons.1 h with rfl|h
  ·exact Int.le_trans (pz g L (min c (g p))) (Int.min_le_right _ _)
  ·exact EG g (L:=L) (c:=min c (g x)) h
theorem EF{g:Nat->Int}{d:Int}:∀{L:List Nat} {c:Int},d<=c->(∀p∈L,d<=g p)->d<=mnF g L c
 |[],c,h,_=>h
 |p::L,c,h,hl=>EF (L:=L) (Int.le_min.2 ⟨h,hl p List.mem_cons_self⟩) λx hx=>hl x (List.mem_cons_of_mem _ hx)
theorem zC{g g':Nat->Int}:∀{L:List Nat} {c:Int},(∀p∈L,g p=g' p)->mnF g L c=mnF g' L c
 |[],_,_=>rfl
 |p::L,c,h=>by
  show mnF g L (min c (g p))=mnF g' L (min c (g' p));rw[h p List.mem_cons_self];exact zC λx hx=>h x (List.mem_cons_of_mem _ hx)
theorem K6(g:Nat->Int):∀(L:List Nat) (c:Int),mnF g L c=c∨∃p∈L,mnF g L c=g p
 |[],c=> .inl rfl
 |p::L,c=>by
  show mnF g L (min c (g p))=c∨∃x∈p::L,mnF g L (min c (g p))=g x;rcases K6 g L (min c (g p))with h|⟨x,hx,h⟩
  ·rw[h];rcases Int.le_total c (g p)with q|q
   ·exact .inl (Int.min_eq_left q)
   ·exact .inr ⟨p,List.mem_cons_self,Int.min_eq_right q⟩
  ·exact .inr ⟨x,List.mem_cons_of_mem _ hx,h⟩
theorem K7(g:Nat->Int)(L:List Nat)(c:Int)(p:Nat):mnF g (L++[p]) c=min (mnF g L c) (g p):=by
 unfold mnF;rw[List.foldl_append];rfl
def bD(n:Nat)(f:List Nat):List Nat:=(List.range n).filter λp=>decide (f.getD p 0=0)
theorem gG{n:Nat}{f:List Nat}{p:Nat}:p∈bD n f↔p<n/\f.getD p 0=0:=by
 unfold bD;rw[List.mem_filter,List.mem_range,decide_eq_true_eq]
theorem tH(n:Nat)(f:List Nat):bD (n+1) f=bD n f++(if f.getD n 0=0 then [n]else []):=by
 unfold bD;rw[List.range_succ,List.filter_append];congr 1;by_cases h:f.getD n 0=0
 ·rw[if_pos h,List.filter_cons_of_pos (by rw[decide_eq_true_eq];exact h)];rfl
 ·rw[if_neg h,List.filter_cons_of_neg (by rw[decide_eq_true_eq];exact h)];rfl
theorem rZ{f:List Nat}{p x a:Nat}(hp:p<f.length):(f.set p a).getD x 0=if x=p then a else f.getD x 0:=by
 rw[List.getD_eq_getElem?_getD,List.getD_eq_getElem?_getD,List.getElem?_set];by_cases h:p=x
 ·rw[if_pos h,if_pos h.symm,if_pos (by omega)];rfl
 ·rw[if_neg h,if_neg (λq=>h q.symm)]
theorem KF{n:Nat}{f:List Nat}{p a:Nat}(hp:p<f.length)(ha:a≠0):bD n (f.set p a)=(bD n f).filter λx=>decide (x≠p):=by
 unfold bD;rw[List.filter_filter];refine List.filter_congr λx _=> ?_;rw[rZ hp];by_cases h:x=p
 ·rw[if_pos h,decide_eq_false ha,decide_eq_false (by simpa using h)];rfl
 ·rw[if_neg h,decide_eq_true h,Bool.true_and]
theorem mw{n:Nat}{f:List Nat}{p a:Nat}(hp:p<f.length)(ha:a≠0)(hm:p∈bD n f):(bD n (f.set p a)).length<(bD n f).length:=by
 rw[KF hp ha,List.length_filter_lt_length_iff_exists];exact⟨p,hm,by simp⟩
theorem kr(n:Nat)(f:List Nat):(bD n f).length<=n:=by
 unfold bD;exact Nat.le_trans (List.length_filter_le _ _) (by rw[List.length_range];exact Nat.le_refl _)
section
variable (w:List Nat×List Nat) (l:List Pb) (ns:List (List (List Nat)))
def fG(f:List Nat):Bool:=bsB w (l.zip f)&&ns.any λr=>decide (jK (l.zip f) (bsS w.1 (l.zip f)) r=3)
def dK(p:Nat):Int:=(l.getD p ⟨s0,0⟩).cost
def nE:Nat->List Nat->Int
 |0,f=>if fG w l ns f then 100000 else 0
 |k+1,f=>if fG w l ns f then mnF (λp=>dK l p+max (nE k (f.set p 1)) (nE k (f.set p 2))) (bD l.length f) 100000 else 0
def bF(f:List Nat):Int:=nE w l ns l.length f
end
variable {w:List Nat×List Nat} {l:List Pb} {ns:List (List (List Nat))}
theorem uK:∀{k k':Nat} {f:List Nat},l.length<=f.length->(bD l.length f).length<=k->k<=k'→nE w l ns k' f=nE w l ns k f
 |0,0,f,_,_,_=>rfl
 |0,k'+1,f,_,h,_=>by
  have:bD l.length f=[]:=List.eq_nil_of_length_eq_zero (by omega);simp only[nE,this,mnF,List.foldl_nil]
 |k+1,0,f,_,_,h=>by omega
 |k+1,k'+1,f,hf,h,hk=>by
  have key:∀p∈bD l.length f,∀a,a≠0->nE w l ns k' (f.set p a)=nE w l ns k (f.set p a):=λp hp a ha=>by
   have hpl:=(gG.1 hp).1;have:=mw (a:=a) (by omega) ha hp;exact uK (by rw[List.length_set];exact hf) (by omega) (by omega)
  simp only[nE];rw[zC λp hp=>(show dK l p+max (nE w l ns k' (f.set p 1)) (nE w l ns k' (f.set p 2))=dK l p+max (nE w l ns k (f.set p 1)) (nE w l ns k (f.set p 2))by rw[key p hp 1 (by omega),key p hp 2 (by omega)])]
theorem vq{f:List Nat}(hf:l.length<=f.length):bF w l ns f=if fG w l ns f then mnF (λp=>dK l p+max (bF w l ns (f.set p 1)) (bF w l ns (f.set p 2))) (bD l.length f) 100000 else 0:=by
 unfold bF;have h1:=kr l.length f;rw[←uK (k':=l.length+1) hf h1 (by omega)];simp only[nE]
theorem GJ(hc:∀p∈l,0<=p.cost):∀{k:Nat} {f:List Nat},0<=nE w l ns k f/\nE w l ns k f<=100000
 |0,f=>by unfold nE;split<;>omega
 |k+1,f=>by
  unfold nE;split
  ·refine⟨EF (by omega) λp hp=> ?_,pz _ _ _⟩;have h1:0<=dK l p:=by
    have hpl:=(gG.1 hp).1;unfold dK;rw[List.getD_eq_getElem?_getD,List.getElem?_eq_getElem hpl];exact hc _ (List.getElem_mem hpl)
   have h2:=(GJ hc (k:=k) (f:=f.set p 1)).1;have h3:=Int.le_max_left (nE w l ns k (f.set p 1)) (nE w l ns k (f.set p 2));omega
  ·omega
theorem jg(hc:∀p∈l,0<=p.cost)(f:List Nat):0<=bF w l ns f/\bF w l ns f<=100000:=GJ hc
def j5(w:List Nat×List Nat)(l:List Pb)(os:List (List Nat)):Int×Int:=
 if mc w l os≠0 then(0,mc w l os)else if mB w=true then(0,82)else if 100000<=bF w l (os.map (bQ w)) z8 then(0,81)else(bF w l (os.map (bQ w)) z8,0)
theorem jl{w:List Nat×List Nat}{l:List Pb}{os:List (List Nat)}:mc w l os=0↔sIn w.1 w.2=true/\os.length<=6/\os.any (λs=>decide (s=s0))=false/\l.length<=8/\l.any oH=false:=by
 unfold mc prE;cases sIn w.1 w.2<;>cases os.any (λs=>decide (s=s0))<;>cases l.any oH<;>by_cases h6:6<os.length<;>by_cases h8:8<l.length<;>simp[h6,h8]<;>omega
theorem sL{l:List Pb}(h:l.any oH=false):∀p∈l,1<=p.cost/\p.cost<=1000:=λp hp=>by
 have:=List.any_eq_false.1 h p hp;unfold oH inR at this;simp at this;exact this.2
theorem VG{n:Nat}(h:n<8):z8[n]? =some 0:=by
 match n,h with
 |0,_=>rfl
 |1,_=>rfl
 |2,_=>rfl
 |3,_=>rfl
 |4,_=>rfl
 |5,_=>rfl
 |6,_=>rfl
 |7,_=>rfl
theorem zi{w:List Nat×List Nat}{l:List Pb}{os:List (List Nat)}:(j5 w l os).2=0↔mc w l os=0/\mB w=false/\bF w l (os.map (bQ w)) z8<100000:=by
 unfold j5;by_cases h1:mc w l os=0
 ·rw[if_neg (by simpa using h1)];cases h2:mB w with
  |true=>simp
  |false=>
   rw[if_neg (by simp)];by_cases h3:100000<=bF w l (os.map (bQ w)) z8
   ·rw[if_pos h3];simp;omega
   ·rw[if_neg h3];simp[h1];omega
 ·rw[if_pos h1];simp[h1]
theorem JK{w:List Nat×List Nat}{l:List Pb}{os:List (List Nat)}(h:(j5 w l os).2=0):(j5 w l os).1=bF w l (os.map (bQ w)) z8:=by
 obtain⟨h1,h2,h3⟩:=zi.1 h;unfold j5;rw[if_neg (by simpa using h1),if_neg (by simp[h2]),if_neg (by omega)]
end Go.A.Pk
end
section
namespace Go.A.Pk
structure Fk where
 probe:Int
 yes:Int
 no:Int
def kE(s:List Fk):List Int:=s.flatMap λx=>[x.yes,x.no]
theorem Fg(x:Fk)(s:List Fk):kE (x::s)=x.yes::x.no::kE s:=rfl
theorem Il(a b:List Fk):kE (a++b)=kE a++kE b:=by unfold kE;rw[List.flatMap_append]
section
variable (w:List Nat×List Nat) (l:List Pb) (ns:List (List (List Nat))) (s:List Fk)
def IK(cost:Int):Nat->List Nat->Int->Int->Int->Option Nat
 |0,_,_,_,_=>none
 |k+1,f,at_,from_,paid=>
  if at_= -1 then(if fG w l ns f=true then none else some 0)else
  if fG w l ns f=true/\from_<at_/\at_<s.length then
   match s[at_.toNat]? with
   |none=>none
   |some x=>
    if(0<=x.probe/\x.probe<l.length)/\f.getD x.probe.toNat 0=0 then
     if paid+dK l x.probe.toNat<=cost then
      match IK cost k (f.set x.probe.toNat 1) x.yes at_ (paid+dK l x.probe.toNat)with
      |none=>none
      |some a=>match IK cost k (f.set x.probe.toNat 2) x.no at_ (paid+dK l x.probe.toNat)with
       |none=>none
       |some b=>some (a+b+1)
     else none
    else none
  else none
end
def MI(s:List Fk):Prop:=((kE s).filter λi=>decide (i≠ -1)).Nodup
def AA(s:List Fk):Int:=if s.length=0 then -1 else 0
def U7(w:List Nat×List Nat)(l:List Pb)(ns:List (List (List Nat)))(s:List Fk)(cost:Int):Prop:=
 (s.length=0->0<=cost)/\MI s/\IK w l ns s cost 10 z8 (AA s) (-1) 0=some s.length
theorem Fj{s:List Fk}:MI s↔ ∀c:Int,c≠ -1->(kE s).count c<=1:=by
 unfold MI;rw[List.nodup_iff_count];constructor
 ·intro h c hc;have:=h c
  rwa [List.count_filter (by simpa using hc)]at this
 ·intro h c;by_cases hc:c= -1
  ·subst hc;rw[List.count_eq_zero.2 (by simp)];omega
  ·rw[List.count_filter (by simpa using hc)];exact h c hc
end Go.A.Pk
end
section
namespace Go.A.Pk
def fq(g:Nat->Int):List Nat->Nat
 |[]=>0
 |x::L=>L.foldl (λb y=>if g y<g b then y else b) x
theorem sk(g:Nat->Int):∀(L:List Nat) (x:Nat),(L.foldl (λb y=>if g y<g b then y else b) x=x∨L.foldl (λb y=>if g y<g b then y else b) x∈L)/\g (L.foldl (λb y=>if g y<g b then y else b) x)<=g x/\∀y∈L,g (L.foldl (λb y=>if g y<g b then y else b) x)<=g y
 |[],x=>⟨.inl rfl,Int.le_refl _,λy hy=>(by cases hy)⟩
 |y::L,x=>by
  have ih:=sk g L (if g y<g x then y else x);rw[List.foldl_cons];by_cases h:g y<g x
  ·rw[if_pos h]at ih⊢;refine⟨.inr ?_,by omega,λu hu=> ?_⟩
   ·rcases ih.1 with q|q
    ·rw[q];exact List.mem_cons_self
    ·exact List.mem_cons_of_mem _ q
   ·rcases List.mem_cons.1 hu with rfl|hu
    ·exact ih.2.1
    ·exact ih.2.2 u hu
  ·rw[if_neg h]at ih⊢;refine⟨ih.1.imp id (List.mem_cons_of_mem _),ih.2.1,λu hu=> ?_⟩;rcases List.mem_cons.1 hu with rfl|hu
   ·omega
   ·exact ih.2.2 u hu
theorem Gh{g:Nat->Int}{L:List Nat}(h:L≠[]):fq g L∈L:=by
 cases L with
 |nil=>exact absurd rfl h
 |cons x L=>
  rcases(sk g L x).1 with q|q
  ·show L.foldl _ x∈_;rw[q];exact List.mem_cons_self
  ·exact List.mem_cons_of_mem _ q
theorem RQ{g:Nat->Int}{L:List Nat}{y:Nat}(h:y∈L):g (fq g L)<=g y:=by
 cases L with
 |nil=>cases h
 |cons x L=>
  rcases List.mem_cons.1 h with rfl|h
  ·exact(sk g L y).2.1
  ·exact(sk g L x).2.2 y h
section
variable (w:List Nat×List Nat) (l:List Pb) (ns:List (List (List Nat)))
def dO(f:List Nat)(p:Nat):Int:=dK l p+max (bF w l ns (f.set p 1)) (bF w l ns (f.set p 2))
def dL:Nat->List Nat->Nat->Int×List Fk
 |0,_,_=>(-1,[])
 |k+1,f,a=>if bF w l ns f=0 then(-1,[])else
  ((a:Int),⟨(fq (dO w l ns f) (bD l.length f):Nat),(dL k (f.set (fq (dO w l ns f) (bD l.length f)) 1) (a+1)).1,(dL k (f.set (fq (dO w l ns f) (bD l.length f)) 2) (a+1+(dL k (f.set (fq (dO w l ns f) (bD l.length f)) 1) (a+1)).2.length)).1⟩::
    ((dL k (f.set (fq (dO w l ns f) (bD l.length f)) 1) (a+1)).2++(dL k (f.set (fq (dO w l ns f) (bD l.length f)) 2) (a+1+(dL k (f.set (fq (dO w l ns f) (bD l.length f)) 1) (a+1)).2.length)).2))
end
section
variable {w:List Nat×List Nat} {l:List Pb} {ns:List (List (List Nat))}
theorem mW(hc:∀p∈l,1<=p.cost/\p.cost<=1000){p:Nat}(h:p<l.length):1<=dK l p/\dK l p<=1000:=by
 unfold dK;rw[List.getD_eq_getElem?_getD,List.getElem?_eq_getElem h];exact hc _ (List.getElem_mem h)
theorem hc0(hc:∀p∈l,1<=p.cost/\p.cost<=1000):∀p∈l,0<=p.cost:=λp hp=>by have:=(hc p hp).1;omega
theorem jr(hc:∀p∈l,1<=p.cost/\p.cost<=1000){f:List Nat}(hf:l.length<=f.length):(fG w l ns f=true↔1<=bF w l ns f)/\(fG w l ns f=false↔bF w l ns f=0):=by
 have h:=vq (w:=w) (ns:=ns) hf;cases ho:fG w l ns f with
 |true=>
  rw[ho,if_pos rfl]at h;have:1<=bF w l ns f:=by
   rw[h];refine EF (by omega) λp hp=> ?_;have h1:=(mW hc (gG.1 hp).1).1;have h2:=(jg (w:=w) (ns:=ns) (hc0 hc) (f.set p 1)).1;omega
  exact⟨⟨λ_=>this,λ_=>rfl⟩,⟨λq=>(by cases q),λq=>(by omega)⟩⟩
 |false=>
  rw[ho,if_neg (by simp)]at h;exact⟨⟨λq=>(by cases q),λq=>(by omega)⟩,⟨λ_=>h,λ_=>rfl⟩⟩
theorem sW(hc:∀p∈l,1<=p.cost/\p.cost<=1000){f:List Nat}(hf:l.length<=f.length)(h0:bF w l ns f≠0)(h1:bF w l ns f<100000):fq (dO w l ns f) (bD l.length f)∈bD l.length f/\bF w l ns f=dO w l ns f (fq (dO w l ns f) (bD l.length f)):=by
 have h:=vq (w:=w) (ns:=ns) hf;cases ho:fG w l ns f with
 |false=>exact absurd ((jr hc hf).2.1 ho) h0
 |true=>
  rw[ho,if_pos rfl]at h;rcases K6 (λp=>dK l p+max (bF w l ns (f.set p 1)) (bF w l ns (f.set p 2))) (bD l.length f) 100000 with q|⟨p,hp,q⟩
  ·omega
  ·have hm:fq (dO w l ns f) (bD l.length f)∈bD l.length f:=Gh (List.ne_nil_of_mem hp);refine⟨hm,?_⟩;have e1:=RQ (g:=dO w l ns f) hp;have e2:=EG (λp=>dK l p+max (bF w l ns (f.set p 1)) (bF w l ns (f.set p 2))) (c:=100000) hm;have e3:dO w l ns f p=dK l p+max (bF w l ns (f.set p 1)) (bF w l ns (f.set p 2)):=rfl;have e4:dO w l ns f (fq (dO w l ns f) (bD l.length f))=dK l (fq (dO w l ns f) (bD l.length f))+max (bF w l ns (f.set (fq (dO w l ns f) (bD l.length f)) 1)) (bF w l ns (f.set (fq (dO w l ns f) (bD l.length f)) 2)):=rfl;omega
theorem DW:∀{k:Nat} {f:List Nat} {a:Nat},((dL w l ns k f a).1= -1/\(dL w l ns k f a).2=[]∨(dL w l ns k f a).1=a/\0<(dL w l ns k f a).2.length)/\∀c:Int,c≠ -1->(kE (dL w l ns k f a).2).count c<=(if(a:Int)<c/\c<a+(dL w l ns k f a).2.length then 1 else 0):=by
 intro k;induction k with
 |zero=>intro f a;exact⟨.inl ⟨rfl,rfl⟩,λc _=>by simp[dL,kE]⟩
 |succ k ih=>
  intro f a;unfold dL;by_cases hv:bF w l ns f=0
  ·rw[if_pos hv];exact⟨.inl ⟨rfl,rfl⟩,λc _=>by simp[kE]⟩
  ·rw[if_neg hv];generalize fq (dO w l ns f) (bD l.length f)=b;obtain⟨a1,a2⟩:=ih (f:=f.set b 1) (a:=a+1);generalize dL w l ns k (f.set b 1) (a+1)=r1 at*;obtain⟨b1,b2⟩:=ih (f:=f.set b 2) (a:=a+1+r1.2.length);generalize dL w l ns k (f.set b 2) (a+1+r1.2.length)=r2 at*;refine⟨.inr ⟨rfl,by simp⟩,λc hc=> ?_⟩;have c1:=a2 c hc;have c2:=b2 c hc;dsimp only;rw[Fg,Il,List.count_cons,List.count_cons,List.count_append,List.length_cons,List.length_append];have a1':(r1.1= -1/\r1.2.length=0)∨(r1.1=((a+1:Nat):Int)/\0<r1.2.length):=a1.imp (λq=>⟨q.1,by rw[q.2];rfl⟩) id;have b1':(r2.1= -1/\r2.2.length=0)∨(r2.1=((a+1+r1.2.length:Nat):Int)/\0<r2.2.length):=b1.imp (λq=>⟨q.1,by rw[q.2];rfl⟩) id;have c1':(kE r1.2).count c=0∨((kE r1.2).count c=1/\((a+1:Nat):Int)<c/\c<((a+1:Nat):Int)+r1.2.length):=by split at c1<;>omega
   have c2':(kE r2.2).count c=0∨((kE r2.2).count c=1/\((a+1+r1.2.length:Nat):Int)<c/\c<((a+1+r1.2.length:Nat):Int)+r2.2.length):=by split at c2<;>omega
   have e1':((if(r1.1==c)=true then 1 else 0)=0/\r1.1≠c)∨((if(r1.1==c)=true then 1 else 0)=1/\r1.1=c):=by
    by_cases q:r1.1=c
    ·right;exact⟨if_pos (by simpa using q),q⟩
    ·left;exact⟨if_neg (by simpa using q),q⟩
   have e2':((if(r2.1==c)=true then 1 else 0)=0/\r2.1≠c)∨((if(r2.1==c)=true then 1 else 0)=1/\r2.1=c):=by
    by_cases q:r2.1=c
    ·right;exact⟨if_pos (by simpa using q),q⟩
    ·left;exact⟨if_neg (by simpa using q),q⟩
   clear a1 a2 b1 b2 c1 c2;generalize(if(r1.1==c)=true then 1 else 0)=E1 at*;generalize(if(r2.1==c)=true then 1 else 0)=E2 at*;generalize(kE r1.2).count c=K1 at*;generalize(kE r2.2).count c=K2 at*;split<;>omega
theorem PK(hc:∀p∈l,1<=p.cost/\p.cost<=1000){s:List Fk}{cost:Int}:∀{k:Nat} {f:List Nat} {a:Nat} {fr paid:Int},l.length<=f.length->(bD l.length f).length<k->bF w l ns f<100000->paid+bF w l ns f<=cost->fr<a→
 (∀i,i<(dL w l ns k f a).2.length->s[a+i]? =(dL w l ns k f a).2[i]?)->IK w l ns s cost k f (dL w l ns k f a).1 fr paid=some (dL w l ns k f a).2.length:=by
 intro k;induction k with
 |zero=>intro f a fr paid _ h;omega
 |succ k ih=>
  intro f a fr paid hf hk h1 hp hfr hs;unfold dL at hs⊢;by_cases hv:bF w l ns f=0
  ·rw[if_pos hv];unfold IK;rw[if_pos rfl,(jr hc hf).2.2 hv];rfl
  ·rw[if_neg hv]at hs⊢;obtain⟨hbm,hbv⟩:=sW hc hf hv h1;obtain⟨hbl,hb0⟩:=gG.1 hbm;have hd:∀x,bF w l ns (f.set (fq (dO w l ns f) (bD l.length f)) x)=bF w l ns (f.set (fq (dO w l ns f) (bD l.length f)) x):=λ_=>rfl;have hcb:=mW hc hbl;unfold dO at hbv;have hlt:=λx (hx:x≠0)=>mw (a:=x) (Nat.lt_of_lt_of_le hbl hf) hx hbm;change bF w l ns f=dK l (fq (dO w l ns f) (bD l.length f))+max (bF w l ns (f.set (fq (dO w l ns f) (bD l.length f)) 1)) (bF w l ns (f.set (fq (dO w l ns f) (bD l.length f)) 2))at hbv;clear hd;generalize fq (dO w l ns f) (bD l.length f)=b at*;have hs0:=hs 0 (by simp);have hs1:∀i,i<(dL w l ns k (f.set b 1) (a+1)).2.length->s[a+1+i]? =(dL w l ns k (f.set b 1) (a+1)).2[i]? :=λi hi=>by
    have:=hs (i+1) (by simp;omega);rw[show a+(i+1)=a+1+i by omega,List.getElem?_cons_succ,List.getElem?_append_left hi]at this;exact this
   have hs2:∀i,i<(dL w l ns k (f.set b 2) (a+1+(dL w l ns k (f.set b 1) (a+1)).2.length)).2.length->s[a+1+(dL w l ns k (f.set b 1) (a+1)).2.length+i]? =(dL w l ns k (f.set b 2) (a+1+(dL w l ns k (f.set b 1) (a+1)).2.length)).2[i]? :=λi hi=>by
    have:=hs ((dL w l ns k (f.set b 1) (a+1)).2.length+i+1) (by simp;omega);rw[show a+((dL w l ns k (f.set b 1) (a+1)).2.length+i+1)=a+1+(dL w l ns k (f.set b 1) (a+1)).2.length+i by omega,List.getElem?_cons_succ,List.getElem?_append_right (by omega),Nat.add_sub_cancel_left]at this;exact this
   have i1:=ih (f:=f.set b 1) (a:=a+1) (fr:=a) (paid:=paid+dK l b) (by rw[List.length_set];exact hf) (by have:=hlt 1 (by omega);omega) (by omega) (by omega) (by omega) hs1;have i2:=ih (f:=f.set b 2) (a:=a+1+(dL w l ns k (f.set b 1) (a+1)).2.length) (fr:=a) (paid:=paid+dK l b) (by rw[List.length_set];exact hf) (by have:=hlt 2 (by omega);omega) (by omega) (by omega) (by omega) hs2;generalize dL w l ns k (f.set b 1) (a+1)=r1 at*;generalize dL w l ns k (f.set b 2) (a+1+r1.2.length)=r2 at*;rw[Nat.add_zero,List.getElem?_cons_zero]at hs0;have hal:=(List.getElem?_eq_some_iff.1 hs0).1;unfold IK;dsimp only;rw[if_neg (by omega),if_pos ⟨(jr hc hf).1.2 (by have:=(jg (w:=w) (ns:=ns) (hc0 hc) f).1;omega),by omega,by omega⟩];rw[show((a:Int)).toNat=a from rfl];simp only[hs0];rw[show((b:Int)).toNat=b from rfl,if_pos ⟨⟨by omega,by omega⟩,hb0⟩,if_pos (by have:=(jg (w:=w) (ns:=ns) (hc0 hc) (f.set b 1)).1;omega)];simp only[i1,i2,List.length_cons,List.length_append]
def kW(w:List Nat×List Nat)(l:List Pb)(ns:List (List (List Nat))):List Fk:=(dL w l ns 10 z8 0).2
theorem SV(hc:∀p∈l,1<=p.cost/\p.cost<=1000)(hl:l.length<=8){cost:Int}(h1:bF w l ns z8<100000)(h2:bF w l ns z8<=cost):U7 w l ns (kW w l ns) cost:=by
 have hr:=DW (w:=w) (l:=l) (ns:=ns) (k:=10) (f:=z8) (a:=0);have hfir:AA (kW w l ns)=(dL w l ns 10 z8 0).1:=by
  unfold AA kW;rcases hr.1 with⟨q1,q2⟩|⟨q1,q2⟩
  ·rw[q1,q2];rfl
  ·rw[q1,if_neg (by omega)];rfl
 have h0:=(jg (w:=w) (ns:=ns) (hc0 hc) z8).1;refine⟨λ_=>by omega,Fj.2 λc hcn=> ?_,?_⟩
 ·have:=hr.2 c hcn;unfold kW;split at this<;>omega
 ·rw[hfir];refine PK hc (f:=z8) (a:=0) hl (by have:=kr l.length z8;omega) h1 (by omega) (by decide) λi _=> ?_;rw[Nat.zero_add];rfl
end
end Go.A.Pk
end
