/- Walks of functions, plain laws, the table. -/
import Derived.Test.YtjancmjkjgpfpaaGreatDoorVU4
import Derived.Test.YtjancmjkjgpfpaaGreatDoorVD
import Derived.Test.YtjancmjkjgpfpaaGreatDoorVF
set_option linter.all false
set_option maxHeartbeats 16000000
set_option maxRecDepth 100000
section
namespace Go.A.Pk
variable {T:Nat->Option an}
def fP(mm:List (List Nat×Int)):List (Value×Value):=mm.map λx=>(fV x.1, .int .i64 x.2)
theorem AM:∀{f g:List Nat} {n:Nat},f.length=n->g.length=n->bJ (aK n (.i .u8)) (fL f) (fL g)=some (decide (f=g))
 |[],[],n,h1,_=>by subst h1;rfl
 |[],_::_,n,h1,h2=>by subst h1;simp at h2
 |_::_,[],n,h1,h2=>by subst h2;simp at h1
 |a::f,b::g,n,h1,h2=>by
  subst h1;have ih:=AM (f:=f) (g:=g) (n:=f.length) rfl (by simpa using h2);show bJ (.i .u8::aK f.length (.i .u8)) (.int .u8 (a:Nat)::fL f) (.int .u8 (b:Nat)::fL g)=_;have e:iR (.i .u8) (.int .u8 ((a:Nat):Int)) (.int .u8 ((b:Nat):Int))=some (decide (a=b)):=by
   simp only[iR,if_true,Option.some.injEq];by_cases h:a=b
   ·subst h;simp
   ·rw[decide_eq_false h];simp;omega
  unfold bJ;rw[e];by_cases h:a=b
  ·subst h;rw[decide_eq_true rfl,ih];simp
  ·rw[decide_eq_false h,ih];simp[h]
theorem gF(f:List Nat):cellsOf (fV f)=fL f:=by show(fL f).toArray.toList=_;simp
theorem ED{f:List Nat}(hf:f.length=8):jM true (aK 8 (.i .u8)) (fV f)=true:=by
 unfold jM;rw[gF,AM hf hf];rfl
theorem RJ{f g:List Nat}(hf:f.length=8)(hg:g.length=8):oZ true (aK 8 (.i .u8)) (fV f) (fV g)=some (decide (f=g)):=by
 unfold oZ;rw[gF,gF,AM hf hg];rfl
def kC(f:List Nat):Nat->List (List Nat×Int)->Option (Nat×Int)
 |_,[]=>none
 |i,x::mm=>if f=x.1 then some (i,x.2)else kC f (i+1) mm
theorem findF{f:List Nat}(hf:f.length=8):∀{mm:List (List Nat×Int)} {i:Nat},(∀x∈mm,x.1.length=8)->oE true (aK 8 (.i .u8)) (fV f) i (fP mm)=some ((kC f i mm).map λp=>(p.1, .int .i64 p.2))
 |[],_,_=>rfl
 |x::mm,i,h=>by
  show oE true (aK 8 (.i .u8)) (fV f) i ((fV x.1, .int .i64 x.2)::fP mm)=_;unfold oE kC;rw[RJ hf (h x List.mem_cons_self)];by_cases e:f=x.1
  ·rw[decide_eq_true e,if_pos e];rfl
  ·rw[decide_eq_false e,if_neg e];exact findF hf λy hy=>h y (List.mem_cons_of_mem _ hy)
theorem zv{f:List Nat}:∀{mm:List (List Nat×Int)} {i j:Nat} {v:Int},kC f i mm=some (j,v)->(f,v)∈mm
 |x::mm,i,j,v,h=>by
  unfold kC at h;split at h
  ·rename_i e;cases h;rw[e];exact List.mem_cons_self
  ·exact List.mem_cons_of_mem _ (zv h)
def AQ(mm:List (List Nat×Int))(f:List Nat)(v:Int):List (List Nat×Int):=
 match kC f 0 mm with
 |some (i,_)=>mm.set i (f,v)
 |none=>mm++[(f,v)]
theorem K4(mm:List (List Nat×Int))(i:Nat)(f:List Nat)(v:Int):qY (fP mm) i (fV f, .int .i64 v)=fP (mm.set i (f,v)):=by
 rw[kQ];unfold fP;rw[List.map_set]
theorem K3(mm:List (List Nat×Int))(f:List Nat)(v:Int):eD (fP mm) [(fV f, .int .i64 v)]=fP (mm++[(f,v)]):=by
 rw[dH];unfold fP;rw[List.map_append];rfl
theorem KM{mm:List (List Nat×Int)}{f:List Nat}{v:Int}{x:List Nat×Int}(h:x∈AQ mm f v):x=(f,v)∨x∈mm:=by
 unfold AQ at h;split at h
 ·exact(List.mem_or_eq_of_mem_set h).symm
 ·rcases List.mem_append.1 h with h|h
  ·exact .inr h
  ·exact .inl (List.mem_singleton.1 h)
def lH(w:List Nat×List Nat)(l:List Pb)(ns:List (List (List Nat)))(mm:List (List Nat×Int)):Prop:=∀x∈mm,x.1.length=8/\x.2=bF w l ns x.1
theorem lH.put{w:List Nat×List Nat}{l:List Pb}{ns:List (List (List Nat))}{mm:List (List Nat×Int)}(h:lH w l ns mm){f:List Nat}(hf:f.length=8):lH w l ns (AQ mm f (bF w l ns f)):=λx hx=>by
 rcases KM hx with rfl|hx
 ·exact⟨hf,rfl⟩
 ·exact h x hx
theorem FJ{base:Nat}{h:Heap}{e:Env}{m k:Operand}{r:Nat}{mm:List (List Nat×Int)}{f:List Nat}{u:Value}(hm:ev h e m=some (.map (some r)))(hk:ev h e k=some (fV f))(hr:h.get r=some (.map (fP mm)))(hf:f.length=8)(h8:∀x∈mm,x.1.length=8)
 (hu:(match kC f 0 mm with|some (_,v)=>Value.tuple #[.int .i64 v, .bool true]|none=> .tuple #[.int .i64 0, .bool false])=u):aop h base e (.lookup true (aK 8 (.i .u8)) (.int .i64 0) true m k)=some (.val u h):=by
 subst hu;simp only[aop,hm,hk,hr,sA,ED hf,cond_true,findF hf h8];cases kC f 0 mm<;>rfl
theorem vH{base:Nat}{h:Heap}{e:Env}{m k v:Operand}{r:Nat}{mm:List (List Nat×Int)}{f:List Nat}{n:Int}(hm:ev h e m=some (.map (some r)))(hk:ev h e k=some (fV f))(hv:ev h e v=some (.int .i64 n))(hr:h.get r=some (.map (fP mm)))(hf:f.length=8)(h8:∀x∈mm,x.1.length=8):
 aop h base e (.nk true (aK 8 (.i .u8)) m k v)=some (.val (.tuple #[]) (h.wr base r (.map (fP (AQ mm f n))))):=by
 simp only[aop,hm,hk,hv,hr,ED hf,cond_true,findF hf h8];unfold AQ;cases kC f 0 mm with
 |none=>simp only[Option.map_none,K3]
 |some p=>simp only[z7,K4]
theorem Ab{base:Nat}{e:Env}{h:Heap}{ops:List aV}{bf:List Nat}{rs rs':List Rec}{Q:Env->Heap->Prop}{i mask:Nat}{is:List Nat}{dst:Option Nat}{m k v:Operand}{g:Option (Nat×Bool)}{er:Env}{r:Nat}{mm:List (List Nat×Int)}{f:List Nat}{n:Int}(ho:bH ops i=some ⟨dst, .nk true (aK 8 (.i .u8)) m k v,g⟩)(hm:bH bf i=some mask)
 (he:bO e (cS ⟨dst, .nk true (aK 8 (.i .u8)) m k v,g⟩)=er)(hw:bN er g=some true)(hmv:ev {h with log:=[]} er m=some (.map (some r)))(hk:ev {h with log:=[]} er k=some (fV f))(hv:ev {h with log:=[]} er v=some (.int .i64 n))(hr:h.get r=some (.map (fP mm)))(hf:f.length=8)(h8:∀x∈mm,x.1.length=8)(hlt:r<h.next)
 (hrs:bC (h.wr base r (.map (fP (AQ mm f n)))) base [r] mask rs=some rs')
 (H:WD T base ops bf Q is rs' (cC e dst (.tuple #[])) (h.wr base r (.map (fP (AQ mm f n))))):WD T base ops bf Q (i::is) rs e h:=
 kY ho hm he hw rfl (vH (h:={h with log:=[]}) hmv hk hv hr hf h8) (Er hlt _) (qx hlt _) hrs H
structure QuH (h:Heap) (q m:Nat) (w:List Nat×List Nat) (pv nv ov:Value) (l:List Pb) (os:List (List Nat)) (ns:List (List (List Nat))):Prop where
 hw:IsW w
 gq:h.get q=some (.cells (quL w pv nv ov (.map (some m))) true 1)
 sp:PbS h pv l
 hl:l.length<=8
 so:SsQ h ov os
 hol:os.length<1000000
 sn:NdS h nv ns
 hns:ns.length=os.length
 hrn:∀r∈ns,r.length<1000000
 mem:∃mm,h.get m=some (.map (fP mm))/\lH w l ns mm
theorem aJ.uz{h h':Heap}{sz n m:Nat}{es:List (Value×Value)}{v:Value}{cs:List Value}(s:aJ h sz v n cs)(hm:h.get m=some (.map es))(hn:h.next<=h'.next)(ha:∀z,z<h.next->z≠m->h'.get z=h.get z):aJ h' sz v n cs:=by
 cases s with
 |nil=>exact .nil
 |mem s hc=>
  obtain⟨vs,own,t,g1,g2⟩:=s.obj;refine .mem ⟨Nat.lt_of_lt_of_le s.lt hn,⟨vs,own,t,(ha _ s.lt λe=> ?_).trans g1,g2⟩,s.len⟩ hc;subst e;rw[g1]at hm;cases hm
theorem QuH.keep{h h':Heap}{q m:Nat}{w:List Nat×List Nat}{pv nv ov:Value}{l:List Pb}{os:List (List Nat)}{ns:List (List (List Nat))}(Q:QuH h q m w pv nv ov l os ns)(hwf:WF h)(hn:h.next<=h'.next)(ha:∀z,z<h.next->z≠m->h'.get z=h.get z)(hm:∃mm,h'.get m=some (.map (fP mm))/\lH w l ns mm):QuH h' q m w pv nv ov l os ns:=by
 obtain⟨mm,g1,_⟩:=Q.mem;obtain⟨vals,s1,s2⟩:=Q.sn.ex;refine⟨Q.hw,(ha q (hwf.bK Q.gq) λe=> ?_).trans Q.gq,⟨aJ.uz Q.sp.sl g1 hn ha,Q.sp.ok⟩,Q.hl,⟨aJ.uz Q.so.sl g1 hn ha,Q.so.ok⟩,Q.hol,⟨vals,aJ.uz s1 g1 hn ha,λi r hi=> ?_⟩,Q.hns,Q.hrn,hm⟩
 ·have:=Q.gq;rw[e,g1]at this;cases this
 ·obtain⟨v,hv,sv⟩:=s2 i r hi;exact⟨v,hv,⟨aJ.uz sv.sl g1 hn ha,sv.ok⟩⟩
theorem QuH.ext{h h':Heap}{q m:Nat}{w:List Nat×List Nat}{pv nv ov:Value}{l:List Pb}{os:List (List Nat)}{ns:List (List (List Nat))}(Q:QuH h q m w pv nv ov l os ns)(hwf:WF h)(x:Ext h h'):QuH h' q m w pv nv ov l os ns:=by
 refine Q.keep hwf x.next (λz hz _=>x.old z hz) ?_
 obtain⟨mm,g1,g2⟩:=Q.mem;exact⟨mm,(x.old m (hwf.bK g1)).trans g1,g2⟩
theorem QuH.log{h:Heap}{q m:Nat}{w:List Nat×List Nat}{pv nv ov:Value}{l:List Pb}{os:List (List Nat)}{ns:List (List (List Nat))}(Q:QuH h q m w pv nv ov l os ns)(lg:List Nat):QuH {h with log:=lg} q m w pv nv ov l os ns:=
 ⟨Q.hw,Q.gq,Q.sp.log lg,Q.hl,Q.so.log lg,Q.hol,Q.sn.log lg,Q.hns,Q.hrn,Q.mem⟩
structure uf (T:Nat->Option an):Prop where
 qu:Ca T
 f108:T 37=some f108
 f147:T 18=some f147
 f149:T 20=some f149
 f228:T 45=some f228
theorem mF(F:uf T){h:Heap}(hr:Rdy h){f:List Nat}(hf:f.length=8){p a:Nat}(hp:p<8):
 Pu T 20 [fV f, .int .i64 (p:Nat), .int .u8 (a:Nat)] h (fV (f.set p a)):=by
 refine .of F.qu.p F.f149 hr ?_ ?_
 ·show cV (fL (f.set p a)).toArray.toList=true;rw[List.toList_toArray];generalize f.set p a=f;induction f with
  |nil=>rfl
  |cons a f ih=>exact ih
 have hfc:=gF f;have x0:Ext h ((h.push (.cells (cellsOf (fV f)) true 1)).push (.cells (aK 8 (.int .u8 0)) true 1)):=((Ext.refl h).push _).push _;have g0:((h.push (.cells (cellsOf (fV f)) true 1)).push (.cells (aK 8 (.int .u8 0)) true 1)).get h.next=some (.cells (fL f) true 1):=by rw[hfc];exact(z4 (Nat.lt_succ_self _)).trans (z3 h _)
 have g1:((h.push (.cells (cellsOf (fV f)) true 1)).push (.cells (aK 8 (.int .u8 0)) true 1)).get (h.next+1)=some (.cells (fL z8) true 1):=z3 _ _;have n0:((h.push (.cells (cellsOf (fV f)) true 1)).push (.cells (aK 8 (.int .u8 0)) true 1)).next=h.next+2:=rfl
 refine Y4 ?_;generalize((h.push (.cells (cellsOf (fV f)) true 1)).push (.cells (aK 8 (.int .u8 0)) true 1))=H at*;have hnx:(h.push (.cells (cellsOf (fV f)) true 1)).next=h.next+1:=rfl
 rw[hnx];clear hnx;have W:=x0.wf hr.wf;have hL:=x0.log.trans hr.log;have hset:=JW f p a;have hfl2:(fL f).length=8:=by rw[dx];exact hf
 have hzl:(fL z8).length=8:=rfl;have hsl:(f.set p a).length=8:=by rw[List.length_set];exact hf
 have ks1:=iq hsl;have ks2:=fJ hsl;have ks3:(fL (f.set p a)).length=8:=by rw[dx];exact hsl
 have ks4:=kN (f.set p a);generalize f.set p a=g at*;refine Y4 ?_;refine aD (oN (by exact rfl) (by exact rfl) (by assumption) (by exact rfl) (by exact rfl) (by omega)) ?_;refine y3 ?_;rw[hset];refine y4 ?_;refine aD (dh (by exact rfl) YG (by assumption) (by assumption)) ?_;refine aD (bZ (by exact rfl) (by exact rfl) YG (by assumption) (by assumption) (by assumption)) ?_;refine Y2 ?_;refine aA ?_ (dF (own:=true) (s:=1) rfl ?_ ks1 ks2 rfl) rfl
 ·rw[Heap.aB (by omega),Heap.aB (by omega)];exact hL
 ·exact YG
theorem AN(F:uf T){h:Heap}(hr:Rdy h)(q:Value)(f:List Nat)(hq:cellsOf q=[q]):
 Al T 18 [q,fV f] h λv h'=>v= .func (.func 45) #[] #[.pointer (some ⟨h.next,0,none⟩), .pointer (some ⟨h.next+1,0,none⟩)]/\h'.next=h.next+2/\h'.get h.next=some (.cells [q] true 1)/\h'.get (h.next+1)=some (.cells (fL f) true 1):=by
 refine .of F.qu.p F.f147 hr ?_ ?_
 ·rintro v h1 hv ⟨rfl,_⟩;cases hv
 have hfc:=gF f;refine Y10 ?_;refine cF hr.log rfl ⟨rfl,rfl,?_,?_⟩
 ·rw[hq];exact(z4 (Nat.lt_succ_self _)).trans (z3 h _)
 ·rw[←hfc];exact z3 _ _
theorem Gd(F:uf T){h:Heap}(hr:Rdy h){q m:Nat}{w:List Nat×List Nat}{pv nv ov:Value}{l:List Pb}{os:List (List Nat)}{ns:List (List (List Nat))}(Qh:QuH h q m w pv nv ov l os ns){f:List Nat}(hf:f.length=8){b1 b2:Nat}(g1:h.get b1=some (.cells [.pointer (some ⟨q,0,none⟩)] true 1))
 {px:bB}{W:Nat->Prop}{N lp:Nat}{P:List Nat->Heap->Prop}{S:Heap->Prop}(Y:I6 px T W N lp (λp=>[.int .i64 ((p:Nat):Int)]) (bD l.length f) P S)(hN:N<=h.next)(hlp:lp<h.next)(hb2:∀d H,P d H->H.get b2=some (.cells (fL f) true 1))(hP0:P [] h):
 GrW T 45 [.func (.yield lp) #[] #[], .pointer (some ⟨b1,0,none⟩), .pointer (some ⟨b2,0,none⟩)] h W (P (bD l.length f)) S:=by
 refine .of F.qu.p F.f228 hlp (λh1 h2 hn ha hp=>Y.eO _ _ _ hp (by omega) λx hx=>ha x (by omega)) Y.GA ?_;obtain⟨a,c,rfl⟩:=Qh.sp.form;have gq:=Qh.gq;have kp:=qA Qh.hw (.slice a l.length c) nv ov (.map (some m));have hl8:=Qh.hl;refine Y9 ?_
 refine cM (λk e ds h'=>∃i:Nat,i<=l.length/\k=l.length-i/\e=[(0, .func (.yield lp) #[] #[]),(2, .pointer (some ⟨b2,0,none⟩)),(9, .int .i64 (l.length:Nat)),(10, .int .i64 (i:Nat))]/\ds=[]/\Ws W h h'∧P (bD i f) h')
  ⟨0,Nat.zero_le _,rfl,rfl,rfl,(Ext.refl h).ws,hP0⟩ ?_
 rintro k e ds G ⟨i,hi,rfl,rfl,rfl,xG,hP⟩;have WG:=xG.wf hr.wf;have hLG:∀z∈G.log,W z:=λz hz=>(xG.log z hz).elim (λq=>by rw[hr.log]at q;cases q) id;have gb2:=hb2 _ _ hP;by_cases hlt:i<l.length
 ·obtain⟨y,hy⟩:∃y,f[i]? =some y:=⟨f[i]'(by omega),List.getElem?_eq_getElem _⟩;have kf:=Ay hy;have hgd:f.getD i 0=y:=by rw[List.getD_eq_getElem?_getD,hy];rfl
  have mlt:aq .lss (.int .i64 (i:Nat)) (.int .i64 (l.length:Nat))=some (.bool true):=ei (by omega);have mk:aq .eql (.int .u8 (y:Nat)) (.int .u8 0)=some (.bool (decide (y=0))):=wJ (c:=0) rfl;have hst:=tH i f;rw[hgd]at hst;by_cases hy0:y=0
  ·rw[decide_eq_true hy0]at mk;rw[if_pos hy0]at hst;refine Y24 ?_;refine kZ (fn:= .yield lp) (args:=[.int .i64 (i:Nat)]) (by exact rfl) ?_;refine Y.call F.qu.p (x:=i) (gG.2 ⟨hlt,by rw[hgd];exact hy0⟩) WG (by have:=xG.next;omega) hlp hP ?_ ?_
   ·intro G2 x2 hP2;rw[←hst]at hP2;refine Y12 ?_;exact⟨l.length-(i+1),by omega,i+1,by omega,rfl,rfl,rfl,xG.trans x2,hP2⟩
   ·intro G2 x2 hm2 hS2;refine Y10 ?_;exact JP (λz hz=>(x2.log z hz).elim (hLG z) id) rfl hm2 hS2
  ·rw[decide_eq_false hy0]at mk;rw[if_neg hy0,List.append_nil]at hst;rw[←hst]at hP;refine Y33 ?_;exact⟨l.length-(i+1),by omega,i+1,by omega,rfl,rfl,rfl,xG,hP⟩
 ·obtain rfl:i=l.length:=by omega
  have mlt:aq .lss (.int .i64 (l.length:Nat)) (.int .i64 (l.length:Nat))=some (.bool false):=eH (by omega);refine Y9 ?_;exact JO hLG rfl hP
theorem vf(F:uf T){h:Heap}(hr:Rdy h){q m:Nat}{w:List Nat×List Nat}{pv nv ov:Value}{l:List Pb}{os:List (List Nat)}{ns:List (List (List Nat))}(Qh:QuH h q m w pv nv ov l os ns){f:List Nat}(hf:f.length=8):
 Pu T 37 [.pointer (some ⟨q,0,none⟩),fV f] h (.tuple #[.bool (bsB w (l.zip f)), .bool (fG w l ns f)]):=by
 refine .of F.qu.p F.f108 hr rfl ?_;have hfc:=gF f;have x0:Ext h (h.push (.cells (cellsOf (fV f)) true 1)):=(Ext.refl h).push _;have g0:(h.push (.cells (cellsOf (fV f)) true 1)).get h.next=some (.cells (fL f) true 1):=by rw[hfc];exact z3 h _
 have n0:(h.push (.cells (cellsOf (fV f)) true 1)).next=h.next+1:=rfl
 refine Y5 ?_;generalize(h.push (.cells (cellsOf (fV f)) true 1))=H at*;have W:=x0.wf hr.wf;have hL:=x0.log.trans hr.log;have QH:=Qh.ext hr.wf x0;have gqn:=hr.wf.bK Qh.gq;have kf8:=iq hf;have kf9:=fJ hf;have hw:=Qh.hw;have C1:=FP F.qu (h:={H with log:=[]}) (.of W) hw QH.gq (QH.sp.log []) QH.hl hf;have hbs:IsS (bsS w.1 (l.zip f)):=nO hw.a (pX Qh.sp.ok);unfold fG;generalize bsB w (l.zip f)=can at*;generalize hbz:bsS w.1 (l.zip f)=s at*;have kb8:=bA hbs.len;have kb9:=bV hbs.len;have kbn:=hbs.len;have x3:=ff (h:=H) (base:=h.next) (by omega) (.cells (aK 8 (.int .u64 0)) true 1) (.cells (us s) true 1);have g14:=fO (h:=H) (base:=h.next) (aK 8 (.int .u64 0)) (us s);have n3:((H.push (.cells (aK 8 (.int .u64 0)) true 1)).wr h.next H.next (.cells (us s) true 1)).next=H.next+1:=rfl
 refine Y4 ?_;refine FW.pu C1 ?_;clear C1;refine Y4 ?_;refine aD (bZ (by exact rfl) (by exact rfl) YG (by(simp only[aH];assumption)) (by exact rfl) (by exact dB _)) ?_;refine Y2 ?_;generalize((H.push (.cells (aK 8 (.int .u64 0)) true 1)).wr h.next H.next (.cells (us s) true 1))=H2 at*;have W2:=x3.wf W;have hL2:=x3.log.trans hL;have Q2:=QH.ext W x3;have g02:=(x3.old _ (by omega)).trans g0;obtain⟨a,c,hov⟩:=Q2.so.sl.form;subst hov;have gq2:=Q2.gq;have ko:=QX hw pv nv (.slice a os.length c) (.map (some m));have hol:=Qh.hol;clear g0;cases can with
 |false=>
  refine Y12 ?_;exact aA hL2 rfl rfl
 |true=>
 refine Y18 ?_
 refine cM (λk e ds h'=>∃i:Nat,i<=os.length/\k=os.length-i/\e=[(0, .pointer (some ⟨q,0,none⟩)),(3, .pointer (some ⟨h.next,0,none⟩)),(6, .pointer (some ⟨H.next,0,none⟩)),(20, .int .i64 (os.length:Nat)),(21, .int .i64 (i:Nat))]/\ds=[]/\H2=h'∧(ns.take i).any (λr=>decide (jK (l.zip f) s r=3))=false)
  ⟨0,Nat.zero_le _,rfl,rfl,rfl,rfl,rfl⟩ ?_
 rintro k e ds _ ⟨i,hi,rfl,rfl,rfl,rfl,hno⟩;by_cases hlt:i<os.length
 ·obtain⟨r,hr2⟩:∃r,ns[i]? =some r:=⟨ns[i]'(by rw[Qh.hns];exact hlt),List.getElem?_eq_getElem _⟩;have mlt:aq .lss (.int .i64 (i:Nat)) (.int .i64 (os.length:Nat))=some (.bool true):=ei (by omega);have C2:=zq F.qu (h:={H2 with log:=[]}) (.of W2) hw Q2.gq (Q2.sp.log []) Q2.hl hf hbs (Q2.sn.log []) (by rw[Qh.hns];exact Qh.hol) hr2 (Qh.hrn r (List.mem_of_getElem? hr2));have hs1:(ns.take (i+1)).any (λr=>decide (jK (l.zip f) s r=3))=((ns.take i).any (λr=>decide (jK (l.zip f) s r=3))||decide (jK (l.zip f) s r=3)):=by rw[fQ hr2,List.any_append];simp
  have hyes:decide (jK (l.zip f) s r=3)=true->ns.any (λr=>decide (jK (l.zip f) s r=3))=true:=λq=>List.any_eq_true.2 ⟨r,List.mem_of_getElem? hr2,q⟩;rw[hno,Bool.false_or]at hs1;generalize jK (l.zip f) s r=j at*;have mk:aq .eql (.int .u8 (j:Nat)) (.int .u8 3)=some (.bool (decide (j=3))):=wJ (c:=3) rfl;cases hj:decide (j=3)with
  |true=>
   rw[hj]at mk;rw[hyes hj];refine Y19 ?_;refine FW.pu C2 ?_;refine Y13 ?_;exact aA hL2 rfl rfl
  |false=>
   rw[hj]at mk hs1;refine Y19 ?_;refine FW.pu C2 ?_;refine Y10 ?_;exact⟨os.length-(i+1),by omega,i+1,by omega,rfl,rfl,rfl,rfl,hs1⟩
 ·obtain rfl:i=os.length:=by omega
  have mlt:aq .lss (.int .i64 (os.length:Nat)) (.int .i64 (os.length:Nat))=some (.bool false):=eH (by omega);rw[←Qh.hns,List.take_length]at hno;rw[hno];refine Y15 ?_;exact aA hL2 rfl rfl
end Go.A.Pk
end
section
namespace Go.A.Pk
variable {T:Nat->Option an}
section
open I
def GV:aR:=(I.R [M 10 32] [2,3,7,10])
def GX:aR:=(.block 1 (.draw [L 33 7,L 34 2,g 35 (.bX (t 34)),A 36 16 35,L 37 36,M 38 10,g 39 (.aO 9 (t 37) (t 38)),A 40 8 39,L 41 40,L 42 2,N 43 8 3,M 44 10,g 45 (.call (.func 20) [(t 43),(t 44),(.const (.int .u8 1))]),g 46 (.call (.func 16) [(t 42),(t 45)]),L 47 2,N 48 8 3,M 49 10,g 50 (.call (.func 20) [(t 48),(t 49),(.const (.int .u8 2))]),g 51 (.call (.func 16) [(t 47),(t 50)]),g 52 (.eC true [(t 46),(t 51)]),B 53 .add 41 52,g 54 (.eC false [(t 33),(t 53)]),S 1 7 54] [0,1,2,3,4,5,6,7,8,9,10,11,14,15,16,12,13,17,18,19,20,21,22] [0,0,2,6,14,0,62,126,254,0,0,0,3072,7680,0,0,0,114176,261632,523776,1048574,2097151,4194303] []))
end
theorem RX(a b:Int):mi a b=min a b:=by unfold mi;split<;>omega
theorem K9(a b:Int):mx a b=max a b:=by unfold mx;split<;>omega
def TA(m:Nat)(w:List Nat×List Nat)(l:List Pb)(ns:List (List (List Nat)))(f:List Nat)(v:Value)(h':Heap):Prop:=v= .int .i64 (bF w l ns f)/\∃mm,h'.get m=some (.map (fP mm))/\lH w l ns mm
structure FE (T:Nat->Option an):Prop where
 op:uf T
 f128:T 16=some f128
theorem tA{l:List Pb}{p:Nat}{x:Pb}(h:l[p]? =some x):dK l p=x.cost:=by
 unfold dK;rw[List.getD_eq_getElem?_getD,h];rfl
theorem IJ(F:FE T){H:Heap}(hr:Rdy H){q m:Nat}{w:List Nat×List Nat}{pv nv ov:Value}{l:List Pb}{os:List (List Nat)}{ns:List (List (List Nat))}(hc:∀p∈l,1<=p.cost/\p.cost<=1000)(Qh:QuH H q m w pv nv ov l os ns){f:List Nat}(hf:f.length=8)
 {lp b2 b3 nb p:Nat}{fn:Value}{n0:Int}(gl:H.get lp=some (.loop [(2, .pointer (some ⟨b2,0,none⟩)),(3, .pointer (some ⟨b3,0,none⟩)),(7, .pointer (some ⟨nb,0,none⟩)),(31,fn)] [32] GV GX 0 .normal))
 (g2:H.get b2=some (.cells [.pointer (some ⟨q,0,none⟩)] true 1))(g3:H.get b3=some (.cells (fL f) true 1))(g7:H.get nb=some (.cells [.int .i64 n0] true 1))(h27:b2≠nb)(h37:b3≠nb)(hq7:q≠nb)(hpl:p<l.length)
 (IH:∀a,a=1∨a=2->∀{h:Heap},Rdy h->QuH h q m w pv nv ov l os ns->Gs T 16 [.pointer (some ⟨q,0,none⟩),fV (f.set p a)] h (λz=>z=m) (TA m w l ns (f.set p a))):
 FW T (.yield lp) [.int .i64 (p:Nat)] H λr H'=>(∀z∈H'.log,z=m∨z=nb∨z=lp)/\(r= .ret (.bool true)/\((∀z,z<H.next->z≠m->z≠nb->H'.get z=H.get z)/\H.next<=H'.next/\H'.get nb=some (.cells [.int .i64 (min n0 (dK l p+max (bF w l ns (f.set p 1)) (bF w l ns (f.set p 2))))] true 1)/\∃mm,H'.get m=some (.map (fP mm))/\lH w l ns mm)∨r= .ret (.bool false)/\lp∈H'.log/\False):=by
 have kl:=hr.wf.bK gl;obtain⟨mm0,gm0,hmm0⟩:=Qh.mem;have km:=hr.wf.bK gm0;have k2:=hr.wf.bK g2;have k3:=hr.wf.bK g3;have k7:=hr.wf.bK g7;have kq:=hr.wf.bK Qh.gq;have n2l:b2≠lp:=λe=>by rw[e,gl]at g2;cases g2
 have n3l:b3≠lp:=λe=>by rw[e,gl]at g3;cases g3
 have n7l:nb≠lp:=λe=>by rw[e,gl]at g7;cases g7
 have nml:m≠lp:=λe=>by rw[e,gl]at gm0;cases gm0
 have n2m:b2≠m:=λe=>by rw[e,gm0]at g2;cases g2
 have n3m:b3≠m:=λe=>by rw[e,gm0]at g3;cases g3
 have n7m:nb≠m:=λe=>by rw[e,gm0]at g7;cases g7
 have nql:q≠lp:=λe=>by have:=Qh.gq;rw[e,gl]at this;cases this
 have nqm:q≠m:=λe=>by have:=Qh.gq;rw[e,gm0]at this;cases this
 refine FW.ND F.op.qu.p (.inl rfl) (R:=λH'=>(∀z,z<H.next->z≠m->z≠nb->H'.get z=H.get z)/\H.next<=H'.next/\H'.get nb=some (.cells [.int .i64 (min n0 (dK l p+max (bF w l ns (f.set p 1)) (bF w l ns (f.set p 2))))] true 1)/\∃mm,H'.get m=some (.map (fP mm))/\lH w l ns mm) (S:=λ_=>False) (W:=λz=>z=m∨z=nb∨z=lp) gl rfl kl (.inr (.inr rfl)) ?_;unfold GV;refine Y2 ?_;refine bL ?_;refine y1 ?_;refine⟨rfl,gl,?_⟩;unfold GX;refine kG ?_;refine WE.uM ?_;intro hA hAe;have A1:∀z,z<H.next->z≠lp->H.get z=hA.get z:=λz hz hne=>by rw[hAe];exact(z5 hne).symm
 have A2:hA.get lp=some (.loop [(2, .pointer (some ⟨b2,0,none⟩)),(3, .pointer (some ⟨b3,0,none⟩)),(7, .pointer (some ⟨nb,0,none⟩)),(31,fn)] [32] GV GX 1 .normal):=by rw[hAe];exact Heap.aI gl
 have A5:hA.next=H.next:=by rw[hAe];rfl
 have A6:hA.log=[]:=by rw[hAe,Heap.aB (by omega)];exact hr.log
 have A7:WF hA:=by rw[hAe];exact hr.wf.as (AS.wr _ _ _ _)
 clear hAe;have a2:=(A1 b2 k2 n2l).symm.trans g2;have a3:=(A1 b3 k3 n3l).symm.trans g3;have a7:=(A1 nb k7 n7l).symm.trans g7;have am:=(A1 m km nml).symm.trans gm0;have hne:∀(b:Nat) vs own sz,H.get b=some (.cells vs own sz)->b≠lp:=λb vs own sz g e=>by rw[e,gl]at g;cases g
 have keepL:∀{sz n:Nat} {v:Value} {cs:List Value},aJ H sz v n cs->aJ hA sz v n cs:=λ{sz n v cs} s=>by
  cases s with
  |nil=>exact .nil
  |mem s hc=>
   obtain⟨vs,own,t,u1,u2⟩:=s.obj;exact .mem ⟨by rw[A5];exact s.lt,⟨vs,own,t,(A1 _ s.lt (hne _ _ _ _ u1)).symm.trans u1,u2⟩,s.len⟩ hc
 have QA:QuH hA q m w pv nv ov l os ns:=by
  obtain⟨vals,s1,s2⟩:=Qh.sn.ex;exact⟨Qh.hw,(A1 q kq nql).symm.trans Qh.gq,⟨keepL Qh.sp.sl,Qh.sp.ok⟩,Qh.hl,⟨keepL Qh.so.sl,Qh.so.ok⟩,Qh.hol,⟨vals,keepL s1,λi r hi=>by
   obtain⟨v,hv,sv⟩:=s2 i r hi;exact⟨v,hv,⟨keepL sv.sl,sv.ok⟩⟩⟩,Qh.hns,Qh.hrn,⟨mm0,am,hmm0⟩⟩
 clear keepL hne g2 g3 g7 gm0;obtain⟨x,hx⟩:∃x,l[p]? =some x:=⟨l[p],List.getElem?_eq_getElem hpl⟩;have hl8:=Qh.hl;have hp8:p<8:=by omega
 obtain⟨b,o,cp,vs,own,tt,hpv,gb,hbl,gat⟩:=QA.sp.elem hx;subst hpv;have hcost:=tA hx;have hcx:=hc x (List.mem_of_getElem? hx);have kc:=gat.cost;have hw:=Qh.hw;have gqA:=QA.gq;have kp:=qA hw (.slice (some ⟨b,o,none⟩) l.length cp) nv ov (.map (some m));have kf8:=iq hf;have kf9:=fJ hf;have hc0:∀p∈l,0<=p.cost:=λp hp=>by have:=(hc p hp).1;omega
 have v1:=jg (w:=w) (ns:=ns) hc0 (f.set p 1);have v2:=jg (w:=w) (ns:=ns) hc0 (f.set p 2);have madd:aq .add (.int .i64 x.cost) (.int .i64 (mx (bF w l ns (f.set p 1)) (bF w l ns (f.set p 2))))=some (.int .i64 (x.cost+mx (bF w l ns (f.set p 1)) (bF w l ns (f.set p 2)))):=by
  have:mx (bF w l ns (f.set p 1)) (bF w l ns (f.set p 2))<=100000/\0<=mx (bF w l ns (f.set p 1)) (bF w l ns (f.set p 2)):=by unfold mx;split<;>omega
  exact kK (ct (by omega) (by omega))
 have C1:=mF F.op (h:={hA with log:=[]}) (.of A7) hf hp8 (a:=1);have I1:=IH 1 (.inl rfl) (h:={hA with log:=[]}) (.of A7) (QA.log []);have nb7:b≠nb∨b=nb:=by omega
 refine Y17 ?_;refine FW.puD C1 (by apply ah rfl (aa rfl (eG (by exact rfl)) (by exact dg _ _)) rfl;apply ah rfl (aa rfl (dh (by exact rfl) (by assumption) (by assumption) (by assumption)) (by exact yc _)) rfl;apply ah rfl (aa rfl (bY (by exact rfl) (by assumption) (by exact rfl)) (by exact aX _)) rfl;(repeat apply aG rfl);apply ah rfl (aa rfl (bY (by exact rfl) (by assumption) (by exact rfl)) (by exact aX _)) rfl;apply ah rfl (aa rfl (bY (by exact rfl) (by assumption) (by assumption)) (by exact dg _ _)) rfl;apply ah rfl (aa rfl (cT (by exact rfl)) (by exact aX _)) rfl;apply ah rfl (aa rfl (iT (by exact rfl) (by exact rfl) (by omega)) (by exact aX _)) rfl;apply ah rfl (aa rfl (eG (by exact rfl)) (by exact dg _ _)) rfl;apply ah rfl (aa rfl (bY (by exact rfl) (by assumption) (by assumption)) (by exact eV _ _ _)) rfl;apply ah rfl (aa rfl (cT (by exact rfl)) (by exact aX _)) rfl;apply ah rfl (aa rfl (gp (by exact rfl)) (by exact aX _)) rfl;apply ah rfl (aa rfl (bY (by exact rfl) (by assumption) (by exact rfl)) (by exact aX _)) rfl;apply ah rfl (aa rfl (bY (by exact rfl) (by assumption) (by exact rfl)) (by exact dg _ _)) rfl;exact bh) ?_;clear C1;skip;refine qC ?_;refine FW.gsD I1 (λv h' lg q=>q) ?_;clear I1;rintro _ hB lg xB hlg ⟨rfl,mmB,gmB,hmB⟩;have nB:=xB.next
 have oB:∀z,z<hA.next->z≠m->hB.get z=hA.get z:=λz hz hne=>xB.old z hz hne
 have WB:=xB.wf A7;have QB:QuH hB q m w (.slice (some ⟨b,o,none⟩) l.length cp) nv ov l os ns:=QA.keep A7 nB oB ⟨mmB,gmB,hmB⟩;have c2:=(oB b2 (by omega) n2m).trans a2;have c3:=(oB b3 (by omega) n3m).trans a3;have c7:=(oB nb (by omega) n7m).trans a7;have cq:=QB.gq;have nbm:b≠m:=λe=>by rw[e,am]at gb;cases gb
 have cb:=(oB b hbl nbm).trans gb;have hlB:∀z∈hB.log,z=m:=λz hz=>(xB.log z hz).elim (λq=>by rw[A6]at q;cases q) id;have C2:=mF F.op (h:={hB with log:=[]}) (.of WB) hf hp8 (a:=2);have I2:=IH 2 (.inr rfl) (h:={hB with log:=[]}) (.of WB) (QB.log []);refine⟨_,by apply ah rfl (aa rfl (eG (by exact rfl)) (by exact dg _ _)) rfl;apply ah rfl (aa rfl (dh (by exact rfl) (by assumption) (by assumption) (by assumption)) (by exact yc _)) rfl;apply ah rfl (aa rfl (bY (by exact rfl) (by assumption) (by exact rfl)) (by exact aX _)) rfl;apply aG rfl;apply ah rfl (aa rfl (bY (by exact rfl) (by assumption) (by assumption)) (by exact dg _ _)) rfl;apply ah rfl (aa rfl (cT (by exact rfl)) (by exact aX _)) rfl;apply ah rfl (aa rfl (iT (by exact rfl) (by exact rfl) (by omega)) (by exact aX _)) rfl;apply ah rfl (aa rfl (eG (by exact rfl)) (by exact dg _ _)) rfl;apply ah rfl (aa rfl (bY (by exact rfl) (by assumption) (by assumption)) (by exact eV _ _ _)) rfl;apply ah rfl (aa rfl (cT (by exact rfl)) (by exact aX _)) rfl;apply ah rfl (aa rfl (gp (by exact rfl)) (by exact aX _)) rfl;apply ah rfl (aa rfl (bY (by exact rfl) (by assumption) (by exact rfl)) (by exact aX _)) rfl;apply ah rfl (aa rfl (bY (by exact rfl) (by assumption) (by exact rfl)) (by exact dg _ _)) rfl;exact bh,?_⟩;clear a2 a3 a7 gqA gb;skip;refine qC ?_;refine FW.puD C2 (by(repeat apply aG rfl);apply ah rfl (aa rfl (bY (by exact rfl) (by assumption) (by exact rfl)) (by exact aX _)) rfl;apply ah rfl (aa rfl (bY (by exact rfl) (by assumption) (by assumption)) (by exact dg _ _)) rfl;apply ah rfl (aa rfl (cT (by exact rfl)) (by exact aX _)) rfl;apply ah rfl (aa rfl (iT (by exact rfl) (by exact rfl) (by omega)) (by exact aX _)) rfl;apply ah rfl (aa rfl (eG (by exact rfl)) (by exact dg _ _)) rfl;apply ah rfl (aa rfl (bY (by exact rfl) (by assumption) (by assumption)) (by exact eV _ _ _)) rfl;apply ah rfl (aa rfl (cT (by exact rfl)) (by exact aX _)) rfl;apply ah rfl (aa rfl (gp (by exact rfl)) (by exact aX _)) rfl;apply ah rfl (aa rfl (bY (by exact rfl) (by assumption) (by exact rfl)) (by exact aX _)) rfl;apply ah rfl (aa rfl (bY (by exact rfl) (by assumption) (by exact rfl)) (by exact dg _ _)) rfl;exact bh) ?_;clear C2;skip;refine qC ?_;refine FW.gsD I2 (λv h' lg q=>q) ?_;clear I2;rintro _ hC lg2 xC hlg2 ⟨rfl,mmC,gmC,hmC⟩;have nC:=xC.next
 have oC:∀z,z<hB.next->z≠m->hC.get z=hB.get z:=λz hz hne=>xC.old z hz hne
 have WC:=xC.wf WB;have d2:=(oC b2 (by omega) n2m).trans c2;have d3:=(oC b3 (by omega) n3m).trans c3;have d7:=(oC nb (by omega) n7m).trans c7;have dq:=(oC q (by omega) nqm).trans cq;have db:=(oC b (by omega) nbm).trans cb;have dl:=(oC lp (by omega) (Ne.symm nml)).trans ((oB lp (by omega) (Ne.symm nml)).trans A2);have hlC:∀z∈hC.log,z=m:=λz hz=>(xC.log z hz).elim (hlB z) id;refine⟨_,by apply aG rfl;apply ah rfl (aa rfl (bY (by exact rfl) (by assumption) (by assumption)) (by exact dg _ _)) rfl;apply ah rfl (aa rfl (cT (by exact rfl)) (by exact aX _)) rfl;apply ah rfl (aa rfl (iT (by exact rfl) (by exact rfl) (by omega)) (by exact aX _)) rfl;apply ah rfl (aa rfl (eG (by exact rfl)) (by exact dg _ _)) rfl;apply ah rfl (aa rfl (bY (by exact rfl) (by assumption) (by assumption)) (by exact eV _ _ _)) rfl;apply ah rfl (aa rfl (cT (by exact rfl)) (by exact aX _)) rfl;apply ah rfl (aa rfl (gp (by exact rfl)) (by exact aX _)) rfl;apply ah rfl (aa rfl (bY (by exact rfl) (by assumption) (by exact rfl)) (by exact aX _)) rfl;apply ah rfl (aa rfl (bY (by exact rfl) (by assumption) (by exact rfl)) (by exact dg _ _)) rfl;exact bh,?_⟩;clear c2 c3 c7 cq cb;refine Y3 ?_;refine gI rfl rfl rfl (by exact rfl) (by exact rfl) (by exact rfl) d7 (by exact rfl) (by exact rfl) (show nb<hC.next by omega) (by(repeat apply aG rfl);exact bh) ?_;refine Y3 ?_;refine⟨⟨_,(z5 (Ne.symm n7l)).trans dl,rfl⟩,λz hz=> ?_, .inl ⟨rfl,λh5 hn5 ha5 hl5=>⟨λz hz h1 h2=> ?_,by omega,?_,mmC,?_,hmC⟩⟩⟩
 ·rcases dw hz with rfl|hz
  ·exact .inr (.inl rfl)
  ·exact .inl (hlC z hz)
 ·by_cases hzl:z=lp
  ·subst hzl;exact hl5.trans gl.symm
  ·exact(ha5 z hz hzl).trans ((z5 h2).trans ((oC z (by omega) h1).trans ((oB z (by omega) h1).trans (A1 z hz hzl).symm)))
 ·rw[ha5 nb k7 n7l,hcost,←K9,←RX]
  (simp(disch:=first|omega|(simp only[z1,z2];omega))only[z3,z4,z5,z6,z7,z1,z2,gl,A2,am,gmB,gmC,d2,d3,d7,dq,db,dl,hl5];exact rfl)
 ·exact(ha5 m km nml).trans ((z5 (Ne.symm n7m)).trans gmC)
structure NL (N m nb:Nat) (w:List Nat×List Nat) (l:List Pb) (ns:List (List (List Nat))) (H0:Heap) (L:bG) (g:Nat->Int) (done:List Nat) (H:Heap):Prop where
 old:∀z,z<N->z≠m->z≠nb->H.get z=H0.get z
 n:H.get nb=some (.cells [.int .i64 (mnF g done 100000)] true 1)
 mem:∃mm,H.get m=some (.map (fP mm))/\lH w l ns mm
 loop:H.get N=some L
 nx:N<H.next
theorem lX(F:FE T){q m:Nat}{w:List Nat×List Nat}{pv nv ov:Value}{l:List Pb}{os:List (List Nat)}{ns:List (List (List Nat))}(hc:∀p∈l,1<=p.cost/\p.cost<=1000):∀(k:Nat) {h:Heap},Rdy h->QuH h q m w pv nv ov l os ns->∀{f:List Nat},f.length=8->(bD l.length f).length<=k→
 Gs T 16 [.pointer (some ⟨q,0,none⟩),fV f] h (λz=>z=m) (TA m w l ns f):=by
 intro k;induction k using Nat.strongRecOn with
 |ind k ih=>
 intro h hr Qh f hf hk;obtain⟨mm,gm,hmm⟩:=Qh.mem;have km:=hr.wf.bK gm;have kq:=hr.wf.bK Qh.gq;refine Gs.of F.op.qu.p F.f128 (λv h1 h2 _ hn ha ⟨e,mm,g,hm⟩=>⟨e,mm,(ha m km).trans g,hm⟩) ?_;have hfc:=gF f;have x0:Ext h ((h.push (.cells (cellsOf (.pointer (some ⟨q,0,none⟩))) true 1)).push (.cells (cellsOf (fV f)) true 1)):=((Ext.refl h).push _).push _;have g2:((h.push (.cells (cellsOf (.pointer (some ⟨q,0,none⟩))) true 1)).push (.cells (cellsOf (fV f)) true 1)).get h.next=some (.cells [.pointer (some ⟨q,0,none⟩)] true 1):=(z4 (Nat.lt_succ_self _)).trans (z3 h _)
 have g3:((h.push (.cells (cellsOf (.pointer (some ⟨q,0,none⟩))) true 1)).push (.cells (cellsOf (fV f)) true 1)).get (h.next+1)=some (.cells (fL f) true 1):=by rw[←hfc];exact z3 _ _
 have n0:((h.push (.cells (cellsOf (.pointer (some ⟨q,0,none⟩))) true 1)).push (.cells (cellsOf (fV f)) true 1)).next=h.next+2:=rfl
 refine Y5 ?_;generalize((h.push (.cells (cellsOf (.pointer (some ⟨q,0,none⟩))) true 1)).push (.cells (cellsOf (fV f)) true 1))=H at*;have hnx:(h.push (.cells (cellsOf (.pointer (some ⟨q,0,none⟩))) true 1)).next=h.next+1:=rfl
 rw[hnx];clear hnx;have W:=x0.wf hr.wf;have hL:=x0.log.trans hr.log;have QH:=Qh.ext hr.wf x0;have gqH:=QH.gq;have gmH:=(x0.old m km).trans gm;have hw:=Qh.hw;have kmv:=Vb hw pv nv ov (.map (some m));have kf8:=iq hf;have kf9:=fJ hf;have h8:∀x∈mm,x.1.length=8:=λx hx=>(hmm x hx).1;have hlog0:∀z∈H.log,z=m:=λz hz=>by rw[hL]at hz;cases hz
 cases hfi:kC f 0 mm with
 |some p=>
  obtain⟨j,v⟩:=p;have hv:v=bF w l ns f:=(hmm _ (zv hfi)).2;subst hv;refine Y8 ?_;refine bW rfl rfl rfl (by exact rfl) (by exact rfl) (by exact rfl) (FJ (mm:=mm) (f:=f) (by exact rfl) (by exact rfl) gmH hf h8 (u:= .tuple #[.int .i64 (bF w l ns f), .bool true]) (by rw[hfi])) ?_;refine qM ?_;refine qE ?_;refine qE ?_;refine Y15 ?_;exact gX hlog0 rfl ⟨rfl,mm,gmH,hmm⟩
 |none=>
 refine Y8 ?_;refine bW rfl rfl rfl (by exact rfl) (by exact rfl) (by exact rfl) (FJ (mm:=mm) (f:=f) (by exact rfl) (by exact rfl) gmH hf h8 (u:= .tuple #[.int .i64 0, .bool false]) (by rw[hfi])) ?_;refine qM ?_;refine qE ?_;refine qE ?_;refine Y11 ?_;refine cW (E0:=[(2, .pointer (some ⟨h.next,0,none⟩)),(3, .pointer (some ⟨h.next+1,0,none⟩)),(7, .pointer (some ⟨H.next,0,none⟩))]) (P:=λh'=>Ext H h'∧h'.next=H.next+1/\h'.get H.next=some (.cells [.int .i64 0] true 1)) ?_ ?_
 ·refine Y3 ?_;refine bL ?_;refine y1 ?_;exact⟨rfl,rfl,rfl,ff (by omega) _ _,rfl,fO _ _⟩
 rintro H3 ⟨x3,n3,g7⟩;have W3:=x3.wf W;have hL3:=x3.log.trans hL;have Q3:=QH.ext W x3;have gq3:=Q3.gq;have g23:=(x3.old _ (by omega)).trans g2;have g33:=(x3.old _ (by omega)).trans g3;have gm3:=(x3.old _ (by omega)).trans gmH;clear g2 g3 gqH gmH;have C1:=vf F.op (h:={H3 with log:=[]}) (.of W3) (Q3.log []) hf;have heq:=vq (w:=w) (l:=l) (ns:=ns) (f:=f) (by have:=Qh.hl;omega);generalize bsB w (l.zip f)=can at*;cases ho:fG w l ns f with
 |false=>
  rw[ho]at C1 heq;have hput:=hmm.put hf;rw[heq,if_neg (by simp)]at hput;refine Y5 ?_;refine FW.pu C1 ?_;clear C1;refine Y20 ?_;refine Ab (mm:=mm) (f:=f) (n:=0) rfl rfl rfl (by exact rfl) (by exact rfl) (by exact rfl) (by exact rfl) gm3 hf h8 (by omega) (by(repeat apply aG rfl);exact bh) ?_;refine Y8 ?_;exact gX (λz hz=>(dw hz).elim id λq=>by rw[hL3]at q;cases q) rfl ⟨by rw[heq];rfl,_,Heap.aI gm3,hput⟩
 |true=>
 rw[ho,if_pos rfl]at heq;rw[ho]at C1;refine Y5 ?_;refine FW.pu C1 ?_;clear C1;refine Y10 ?_;refine cW (E0:=[(2, .pointer (some ⟨h.next,0,none⟩)),(3, .pointer (some ⟨h.next+1,0,none⟩)),(7, .pointer (some ⟨H.next,0,none⟩))]) (P:=λh'=>h'.next=H.next+1/\h'.log=[]/\WF h'∧(∀z,z≠H.next->h'.get z=H3.get z)/\h'.get H.next=some (.cells [.int .i64 100000] true 1)) ?_ ?_
 ·refine Y2 ?_;refine bL ?_;refine y1 ?_;exact⟨rfl,rfl,rfl,n3,(Heap.aB (by omega)).trans hL3,W3.as (AS.wr h.next _ _ _),λz hz=>z5 hz,Heap.aI g7⟩
 rintro H4 ⟨n4,hL4,W4,o4,g74⟩;have xh3:=x0.trans x3;have oh4:∀z,z<h.next->H4.get z=h.get z:=λz hz=>(o4 z (by omega)).trans (xh3.old z hz)
 have g24:=(o4 h.next (by omega)).trans g23;have g34:=(o4 (h.next+1) (by omega)).trans g33;have gm4:=(o4 m (by omega)).trans gm3;have Q4:QuH H4 q m w pv nv ov l os ns:=Qh.keep hr.wf (by omega) (λz hz _=>oh4 z hz) ⟨mm,gm4,hmm⟩;have C2:=AN F.op (h:={H4 with log:=[]}) (.of W4) (.pointer (some ⟨q,0,none⟩)) f rfl;clear g23 g33 gm3 gq3 g7;refine Y4 ?_;refine FW.al C2 (λv h' m q=>q) ?_;clear C2;rintro _ H5 x5 ⟨rfl,n5,gb1,gb2⟩;have n5:H5.next=H4.next+2:=n5
 have gb1:H5.get H4.next=some (.cells [.pointer (some ⟨q,0,none⟩)] true 1):=gb1
 have gb2:H5.get (H4.next+1)=some (.cells (fL f) true 1):=gb2;have W5:=x5.wf W4;have hL5:=x5.log.trans hL4;have g25:=(x5.old _ (by omega)).trans g24;have g35:=(x5.old _ (by omega)).trans g34;have gm5:=(x5.old m (by omega)).trans gm4;have g75:=(x5.old H.next (by omega)).trans g74;have oh5:∀z,z<h.next->H5.get z=h.get z:=λz hz=>(x5.old z (by omega)).trans (oh4 z hz)
 clear g24 g34 gm4 g74;have hmN:m≠H.next:=by omega
 have hml:m<H5.next:=by omega
 have h7l:H.next<H5.next:=by omega
 generalize hL0:(.loop [(2, .pointer (some ⟨h.next,0,none⟩)),(3, .pointer (some ⟨h.next+1,0,none⟩)),(7, .pointer (some ⟨H.next,0,none⟩)),(31, .func (.func 45) #[] #[.pointer (some ⟨H4.next,0,none⟩), .pointer (some ⟨H4.next+1,0,none⟩)])] [32] GV GX 0 .normal:bG)=L0;have hstab:∀done Ha Hb,NL H5.next m H.next w l ns H5 L0 (λp=>dK l p+max (bF w l ns (f.set p 1)) (bF w l ns (f.set p 2))) done Ha->H5.next+1<=Hb.next->(∀x,x<H5.next+1->Hb.get x=Ha.get x)->NL H5.next m H.next w l ns H5 L0 (λp=>dK l p+max (bF w l ns (f.set p 1)) (bF w l ns (f.set p 2))) done Hb:=λdone Ha Hb p n e=>by
  obtain⟨mm',u1,u2⟩:=p.mem;exact⟨λz hz i1 i2=>(e z (by omega)).trans (p.old z hz i1 i2),(e _ (by omega)).trans p.n,⟨mm',(e m (by omega)).trans u1,u2⟩,(e _ (by omega)).trans p.loop,by omega⟩
 have Y:I6 .ret T (λz=>z=m∨z=H.next∨z=H5.next) (H5.next+1) H5.next (λp=>[.int .i64 ((p:Nat):Int)]) (bD l.length f) (NL H5.next m H.next w l ns H5 L0 (λp=>dK l p+max (bF w l ns (f.set p 1)) (bF w l ns (f.set p 2)))) (λ_=>False):=by
  refine⟨λdone p Hh hx hrH hN hP=> ?_,hstab,λ_ _ e=>e,λ_ e=>e.elim,λz hz=>by omega⟩;obtain⟨hpl,hp0⟩:=gG.1 hx;have hl8:=Qh.hl;have QHh:QuH Hh q m w pv nv ov l os ns:=Qh.keep hr.wf (by omega) (λz hz hm=>(hP.old z (by omega) hm (by omega)).trans (oh5 z hz)) hP.mem;have hlp:=hP.loop;rw[←hL0]at hlp;refine FW.mono' (IJ F hrH hc QHh hf hlp ((hP.old _ (by omega) (by omega) (by omega)).trans g25) ((hP.old _ (by omega) (by omega) (by omega)).trans g35) hP.n (by omega) (by omega) (by omega) hpl λa ha h' hr' Q'=>ih _ (Nat.lt_of_lt_of_le (mw (by omega) (by omega) hx) hk) hr' Q' (by rw[List.length_set];exact hf) (Nat.le_refl _)) ?_;rintro r' H' ⟨r1,r2⟩;refine⟨r1,r2.imp (λ⟨e1,e2,e3,e4,e5⟩=>⟨e1,⟨λz hz i1 i2=>(e2 z (by omega) i1 i2).trans (hP.old z hz i1 i2),?_,e5,(e2 _ hP.nx (by omega) (by omega)).trans hP.loop,Nat.lt_of_lt_of_le hP.nx e3⟩⟩) id⟩;rw[K7];exact e4
 refine Y2 ?_;refine Ad (px:= .ret) (W:=λz=>z=m∨z=H.next∨z=H5.next) (P:=NL H5.next m H.next w l ns H5 L0 (λp=>dK l p+max (bF w l ns (f.set p 1)) (bF w l ns (f.set p 2))) (bD l.length f)) (S:=λ_=>False) rfl (by rfl) (by rw[F.op.f228];rfl) (by omega) W5 ?_ (λHh p=>by
  have:=p.loop;rw[←hL0]at this;exact⟨_,_,_,_,this⟩) (λ_ p=>p.elim) ?_ (λ_ _ _ _ _ _ _ _ p=>p.elim)
 ·have hL0':(.loop [(2, .pointer (some ⟨h.next,0,none⟩)),(3, .pointer (some ⟨h.next+1,0,none⟩)),(7, .pointer (some ⟨H.next,0,none⟩)),(31, .func (.func 45) #[] #[.pointer (some ⟨H4.next,0,none⟩), .pointer (some ⟨H4.next+1,0,none⟩)])] [32] GV GX 0 .normal:bG)=L0:=hL0;unfold GV GX at hL0';rw[hL0'];have x6:Ext H5 {H5.push L0 with log:=[]}:=⟨Nat.le_succ _,by rw[hL5],λz hz=>z4 hz,λwf=>(wf.push L0).log _⟩;have Q5:QuH H5 q m w pv nv ov l os ns:=Qh.keep hr.wf (by omega) (λz hz _=>oh5 z hz) ⟨mm,gm5,hmm⟩;refine Gd F.op (h:={H5.push L0 with log:=[]}) (.of (W5.push L0)) (Q5.ext W5 x6) hf (b1:=H4.next) (b2:=H4.next+1) ((x6.old _ (by omega)).trans gb1) Y (Nat.le_refl _) (Nat.lt_succ_self _) (λd Hh p=>(p.old _ (by omega) (by omega) (by omega)).trans gb2) ⟨λz hz _ _=>x6.old z hz,(x6.old _ (by omega)).trans g75,⟨mm,(x6.old m (by omega)).trans gm5,hmm⟩,z3 _ _,Nat.lt_succ_self _⟩
 ·intro h4 h5 k1 k2 k3 k4 k5 k6 hP;obtain⟨mm',u1,u2⟩:=hP.mem;have D2:=(k5 h.next (by omega)).trans ((hP.old _ (by omega) (by omega) (by omega)).trans g25);have D3:=(k5 (h.next+1) (by omega)).trans ((hP.old _ (by omega) (by omega) (by omega)).trans g35);have D7:=(k5 H.next (by omega)).trans hP.n;have Dm:=(k5 m (by omega)).trans u1;have Dq:=(k5 q (by omega)).trans ((hP.old _ (by omega) (λe=>by have:=Qh.gq;rw[e,gm]at this;cases this) (by omega)).trans ((oh5 q kq).trans Qh.gq));have hlg:∀z∈h5.log,z=m:=λz hz=>by
   rcases k1 z hz with e|⟨e,e2⟩
   ·rw[hL5]at e;cases e
   ·omega
  have hput:=u2.put hf;rw[←heq]at D7;generalize hV:bF w l ns f=V at*;refine Y10 ?_;refine Ab (mm:=mm') (f:=f) (n:=V) rfl rfl rfl (by exact rfl) (by exact rfl) (by exact rfl) (by exact rfl) Dm hf (λx hx=>(u2 x hx).1) (by omega) (by(repeat apply aG rfl);exact bh) ?_;refine Y8 ?_;exact gX (λz hz=>(dw hz).elim id (hlg z)) rfl ⟨by rw[hV];rfl,_,Heap.aI Dm,hput⟩
def opE(w:List Nat×List Nat)(l:List Pb)(os:List (List Nat)):Int:=if mc w l os≠0 then mc w l os else if mB w=true then 82 else 0
theorem nu{w:List Nat×List Nat}{l:List Pb}{os:List (List Nat)}:opE w l os=0↔mc w l os=0/\mB w=false:=by
 unfold opE;by_cases h1:mc w l os=0
 ·rw[if_neg (by simpa using h1)];cases mB w<;>simp[h1]
 ·rw[if_pos h1];simp[h1]
theorem rQ(w:List Nat×List Nat)(l:List Pb)(os:List (List Nat)):j5 w l os=if opE w l os≠0 then(0,opE w l os)else if 100000<=bF w l (os.map (bQ w)) z8 then(0,81)else(bF w l (os.map (bQ w)) z8,0):=by
 unfold j5 opE;by_cases h1:mc w l os=0
 ·have e:¬ (mc w l os≠0):=λq=>q h1;simp only[if_neg e];cases mB w<;>simp
 ·simp only[if_pos h1]
def Tx(h:Heap)(w:List Nat×List Nat)(pv ov:Value)(l:List Pb)(os:List (List Nat))(v:Value)(h':Heap):Prop:=
 (opE w l os≠0/\v= .tuple #[.pointer none, .int .i64 (opE w l os)])∨(opE w l os=0/\∃q m nv,v= .tuple #[.pointer (some ⟨q,0,none⟩), .int .i64 0]/\h.next<=m/\m<q/\QuH h' q m w pv nv ov l os (os.map (bQ w))/\h'.get m=some (.map (fP [])))
structure B9 (T:Nat->Option an):Prop where
 va:FE T
 ak:IU T
 lk:I3 T
 f96:T 15=some f96
theorem sI(F:B9 T){h:Heap}(hr:Rdy h)(hg:Tab h)(h2:0<h.next){w:List Nat×List Nat}(hw:IsW w){pv:Value}{l:List Pb}(sp:PbS h pv l)(hl:l.length<1000000){ov:Value}{os:List (List Nat)}(so:SsQ h ov os)(hol:os.length<1000000):
 Al T 15 [wV w,pv,ov] h (Tx h w pv ov l os):=by
 have hp:=F.va.op.qu.p;refine .of hp F.f96 hr ?_ ?_
 ·rintro v h1 hv (q|⟨_,q,m,nv,rfl,_⟩)
  ·exact .inl q
  ·cases hv
 have hwc:cellsOf (wV w)=wL w:=by show(wL w).toArray.toList=_;simp
 obtain⟨a,c,rfl⟩:=sp.form;obtain⟨a3,c3,rfl⟩:=so.sl.form;have hov:∀b o m c,(.slice a3 os.length c3:Value)= .slice (some ⟨b,o,none⟩) m c->b<h.next:=λb o m c e=>by
  rcases aJ.inv so.sl with⟨_,hv,_⟩|⟨b',o',cap,hv,s1,_⟩
  ·rw[hv]at e;cases e
  ·rw[hv]at e;cases e;exact s1.lt
 have x0:Ext h (h.push (.cells (cellsOf (wV w)) true 1)):=(Ext.refl h).push _;have g0:(h.push (.cells (cellsOf (wV w)) true 1)).get h.next=some (.cells (wL w) true 1):=by rw[hwc];exact z3 h _
 have n0:(h.push (.cells (cellsOf (wV w)) true 1)).next=h.next+1:=rfl
 refine Y5 ?_;generalize(h.push (.cells (cellsOf (wV w)) true 1))=H at*;have W:=x0.wf hr.wf;have hL:=x0.log.trans hr.log;have wk:=lY hw;have wkl:=jh hw;have C1:=Cm F.ak (h:={H with log:=[]}) (.of W) hw ((sp.ext x0).log []) hl ((so.ext x0).log []) hol;unfold Tx opE;have hask:=jl (w:=w) (l:=l) (os:=os);generalize mc w l os=er at*;refine Y5 ?_;refine FW.al C1 (λv h' m q=>q) ?_;clear C1;rintro _ H1 x1 (⟨he,rfl⟩|⟨rfl,q,m,rfl,hq1,hq2,hq3,gq,gm⟩)
 ·simp only[if_pos he];have hL1:=x1.log.trans hL;have meq:aq .eql (.int .i64 er) (.int .i64 0)=some (.bool false):=pq he;have mn:aq .neq (.int .i64 er) (.int .i64 0)=some (.bool true):=jE he;refine Y31 ?_;exact cF hL1 rfl (.inl ⟨he,rfl⟩)
 simp only[if_neg (show¬ ((0:Int)≠0)from λq=>q rfl)];obtain⟨_,hol6,hone,hl8,_⟩:=hask.1 rfl;clear hask;have hq1:H.next<=m:=hq1
 have ey1:=x0.trans x1;have W1:=ey1.wf hr.wf;have hL1:=x1.log.trans hL;have n1:=x1.next
 have g01:=(x1.old _ (by omega)).trans g0;have C3:=KY F.ak.ne (h:={H1 with log:=[]}) (.of W1) hw;have meq:aq .eql (.int .i64 0) (.int .i64 0)=some (.bool true):=rfl;cases hm:mB w with
 |true=>
  rw[hm]at C3;have mn:aq .neq (.int .i64 82) (.int .i64 0)=some (.bool true):=rfl;refine Y15 ?_;refine FW.pu C3 ?_;refine Y19 ?_;exact cF hL1 rfl (.inl ⟨by decide,rfl⟩)
 |false=>
 rw[hm]at C3;have mn:aq .neq (.int .i64 0) (.int .i64 0)=some (.bool false):=rfl;have C5:=Gg F.lk (h:={H1 with log:=[]}) (.of W1) (show Tab H1 from hg.ext ey1 h2) (by show 0<H1.next;omega) (q:=q) (by omega) hw gq ((so.ext ey1).log []) hol (λb o m c e=>by have:=hov b o m c e;omega);refine Y15 ?_;refine FW.pu C3 ?_;clear C3;refine Y16 ?_;refine FW.gs0 C5 (λv h' m q=> ?_) (λz hz=>by omega) ?_
 ·obtain⟨o5,nv,q1,q2⟩:=q;exact⟨o5,nv,q1,q2.log m⟩
 rintro _ H4 n4 l4 _ w4 ⟨o4,nv,gq4,sn⟩;clear C5;have o4:∀z,z<H1.next->z≠q->H4.get z=H1.get z:=o4
 have W4:=w4 W1;have hL4:=l4.trans hL1;have hkeep:∀{sz n:Nat} {v:Value} {cs:List Value},aJ h sz v n cs->aJ H4 sz v n cs:=λs=>aJ.se s (by omega) λz hz=>(o4 z (by omega) (by omega)).trans (ey1.old z hz);have gm4:H4.get m=some (.map (fP [])):=(o4 m (by omega) (by omega)).trans gm;refine Y7 ?_;refine cF hL4 rfl (.inr ⟨rfl,q,m,nv,rfl,by omega,hq2,⟨hw,gq4,⟨hkeep sp.sl,sp.ok⟩,hl8,⟨hkeep so.sl,so.ok⟩,hol,sn,by rw[List.length_map],λr hr=> ?_,[],gm4,λx hx=>by cases hx⟩,gm4⟩);obtain⟨o,_,rfl⟩:=List.mem_map.1 hr;exact Nat.lt_of_le_of_lt (zG w o) (by decide)
structure Qx (T:Nat->Option an):Prop where
 od:B9 T
 f39:T 5=some f39
theorem Ru(F:Qx T){h:Heap}(hr:Rdy h)(hg:Tab h)(h2:0<h.next){w:List Nat×List Nat}(hw:IsW w){pv:Value}{l:List Pb}(sp:PbS h pv l)(hl:l.length<1000000){ov:Value}{os:List (List Nat)}(so:SsQ h ov os)(hol:os.length<1000000):
 Pu T 5 [wV w,pv,ov] h (.tuple #[.int .i64 (j5 w l os).1, .int .i64 (j5 w l os).2]):=by
 have hp:=F.od.va.op.qu.p;refine .of hp F.f39 hr rfl ?_;have hwc:cellsOf (wV w)=wL w:=by show(wL w).toArray.toList=_;simp
 obtain⟨a,c,rfl⟩:=sp.form;obtain⟨a3,c3,rfl⟩:=so.sl.form;have x0:Ext h (h.push (.cells (cellsOf (wV w)) true 1)):=(Ext.refl h).push _;have g0:(h.push (.cells (cellsOf (wV w)) true 1)).get h.next=some (.cells (wL w) true 1):=by rw[hwc];exact z3 h _
 have n0:(h.push (.cells (cellsOf (wV w)) true 1)).next=h.next+1:=rfl
 refine Y5 ?_;generalize(h.push (.cells (cellsOf (wV w)) true 1))=H at*;have W:=x0.wf hr.wf;have hL:=x0.log.trans hr.log;have wk:=lY hw;have wkl:=jh hw;have C1:=sI F.od (h:={H with log:=[]}) (.of W) (show Tab H from hg.ext x0 h2) (by show 0<H.next;omega) hw ((sp.ext x0).log []) hl ((so.ext x0).log []) hol;rw[rQ];refine Y5 ?_;refine FW.al C1 (λv h' m q=> ?_) ?_
 ·rcases q with q|⟨e,q,m',nv,e1,e2,e3,e4,e5⟩
  ·exact .inl q
  ·exact .inr ⟨e,q,m',nv,e1,e2,e3,e4.log m,e5⟩
 clear C1;rintro _ H1 x1 (⟨he,rfl⟩|⟨he,q,m,nv,rfl,hq1,hq2,Q1,gm⟩)
 ·rw[if_pos he];generalize opE w l os=er at*;have hL1:=x1.log.trans hL;have mn:aq .neq (.int .i64 er) (.int .i64 0)=some (.bool true):=jE he;refine Y19 ?_;exact aA hL1 rfl rfl
 rw[if_neg (λq=>q he)];have hq1:H.next<=m:=hq1
 have W1:=x1.wf W;have hL1:=x1.log.trans hL;have mn:aq .neq (.int .i64 0) (.int .i64 0)=some (.bool false):=rfl;have hpc:=sL (jl.1 (nu.1 he).1).2.2.2.2;have C2:=lX F.od.va hpc _ (h:={H1 with log:=[]}) (.of W1) (Q1.log []) (f:=z8) rfl (Nat.le_refl _);generalize hV:bF w l (os.map (bQ w)) z8=V at*;have mge:aq .geq (.int .i64 V) (.int .i64 100000)=some (.bool (decide (100000<=V))):=sq;refine Y18 ?_;refine FW.gs0 C2 (λv h' m q=>q) (λz hz=>by omega) ?_;clear C2;rintro _ H2 n2 l2 _ w2 ⟨rfl,_⟩;have hL2:=l2.trans hL1;rw[hV];by_cases hge:100000<=V
 ·rw[decide_eq_true hge]at mge;rw[if_pos hge];refine Y14 ?_;exact aA hL2 rfl rfl
 ·rw[decide_eq_false hge]at mge;rw[if_neg hge];refine Y16 ?_;exact aA hL2 rfl rfl
theorem pT{f:Nat}{a c:Array Value}(h1:jN a.toList a.toList=true)(h2:jN c.toList c.toList=true):iy (.func (.func f) a c) (.func (.func f) a c)=true:=by
 simp only[iy,h1,h2];simp
def cmZ(a b:Int):Int:=if a<b then -1 else if b<a then 1 else 0
structure yJ (T:Nat->Option an):Prop where
 va:FE T
 f148:T 19=some f148
 f150:T 21=some f150
 f151:T 22=some f151
 f152:T 23=some f152
 f229:T 46=some f229
theorem Lq(F:yJ T){h:Heap}(hr:Rdy h)(k:Int):Pu T 46 [.int .i64 k] h (.bool false):=by
 refine .of F.va.op.qu.p F.f229 hr rfl ?_;have m:aq .neq (.int .i64 k) (.int .i64 k)=some (.bool false):=tK rfl;refine Y10 ?_;exact aA hr.log rfl rfl
theorem N5(F:yJ T){h:Heap}(hr:Rdy h)(a b:Int):Pu T 23 [.int .i64 a, .int .i64 b] h (.int .i64 (cmZ a b)):=by
 refine .of F.va.op.qu.p F.f152 hr rfl ?_;have C1:=Lq F (h:={h with log:=[]}) (.of hr.wf) a;have C2:=Lq F (h:={h with log:=[]}) (.of hr.wf) b;unfold cmZ;by_cases h1:a<b
 ·have m1:aq .lss (.int .i64 a) (.int .i64 b)=some (.bool true):=ei h1;rw[if_pos h1];refine Y6 ?_;refine FW.pu C1 ?_;refine Y5 ?_;refine FW.pu C2 ?_;refine Y28 ?_;exact aA hr.log rfl rfl
 ·have m1:aq .lss (.int .i64 a) (.int .i64 b)=some (.bool false):=eH (by omega);rw[if_neg h1];by_cases h2:b<a
  ·have m2:aq .gtr (.int .i64 a) (.int .i64 b)=some (.bool true):=jD h2;rw[if_pos h2];refine Y6 ?_;refine FW.pu C1 ?_;refine Y5 ?_;refine FW.pu C2 ?_;refine Y37 ?_;exact aA hr.log rfl rfl
  ·have m2:aq .gtr (.int .i64 a) (.int .i64 b)=some (.bool false):=ji (by omega);rw[if_neg h2];refine Y6 ?_;refine FW.pu C1 ?_;refine Y5 ?_;refine FW.pu C2 ?_;refine Y38 ?_;exact aA hr.log rfl rfl
def vfV(q:Nat):Value:= .func (.func 16) #[.pointer (some ⟨q,0,none⟩)] #[]
def Ra(m:Nat)(w:List Nat×List Nat)(l:List Pb)(ns:List (List (List Nat)))(u:Value)(v:Value)(h':Heap):Prop:=v=u/\∃mm,h'.get m=some (.map (fP mm))/\lH w l ns mm
theorem D6(F:yJ T){h:Heap}(hr:Rdy h){q m:Nat}{w:List Nat×List Nat}{pv nv ov:Value}{l:List Pb}{os:List (List Nat)}{ns:List (List (List Nat))}(hc:∀p∈l,1<=p.cost/\p.cost<=1000)(Qh:QuH h q m w pv nv ov l os ns){f:List Nat}(hf:f.length=8){b1 b2 b3 p:Nat}
 (g1:h.get b1=some (.cells [.pointer (some ⟨q,0,none⟩)] true 1))(g2:h.get b2=some (.cells [vfV q] true 1))(g3:h.get b3=some (.cells (fL f) true 1))(hpl:p<l.length):
 Gs T 19 [.int .i64 (p:Nat), .pointer (some ⟨b1,0,none⟩), .pointer (some ⟨b2,0,none⟩), .pointer (some ⟨b3,0,none⟩)] h (λz=>z=m) (Ra m w l ns (.int .i64 (dO w l ns f p))):=by
 obtain⟨mm0,gm0,hmm0⟩:=Qh.mem;have km:=hr.wf.bK gm0;refine Gs.of F.va.op.qu.p F.f148 (λv h1 h2 _ hn ha ⟨e,mm,g,hm⟩=>⟨e,mm,(ha m km).trans g,hm⟩) ?_;have k1:=hr.wf.bK g1;have k2:=hr.wf.bK g2;have k3:=hr.wf.bK g3;have kq:=hr.wf.bK Qh.gq;have n1m:b1≠m:=λe=>by rw[e,gm0]at g1;cases g1
 have n2m:b2≠m:=λe=>by rw[e,gm0]at g2;cases g2
 have n3m:b3≠m:=λe=>by rw[e,gm0]at g3;cases g3
 obtain⟨x,hx⟩:∃x,l[p]? =some x:=⟨l[p],List.getElem?_eq_getElem hpl⟩;have hl8:=Qh.hl;have hp8:p<8:=by omega
 obtain⟨b,o,cp,vs,own,tt,hpv,gb,hbl,gat⟩:=Qh.sp.elem hx;subst hpv;have hcost:=tA hx;have hcx:=hc x (List.mem_of_getElem? hx);have kc:=gat.cost;have hw:=Qh.hw;have gq:=Qh.gq;have kp:=qA hw (.slice (some ⟨b,o,none⟩) l.length cp) nv ov (.map (some m));have kf8:=iq hf;have kf9:=fJ hf;have v1:=jg (w:=w) (ns:=ns) (hc0 hc) (f.set p 1);have v2:=jg (w:=w) (ns:=ns) (hc0 hc) (f.set p 2);have hwr:dO w l ns f p=x.cost+mx (bF w l ns (f.set p 1)) (bF w l ns (f.set p 2)):=by unfold dO;rw[hcost,K9]
 have madd:aq .add (.int .i64 x.cost) (.int .i64 (mx (bF w l ns (f.set p 1)) (bF w l ns (f.set p 2))))=some (.int .i64 (x.cost+mx (bF w l ns (f.set p 1)) (bF w l ns (f.set p 2)))):=by
  have:mx (bF w l ns (f.set p 1)) (bF w l ns (f.set p 2))<=100000/\0<=mx (bF w l ns (f.set p 1)) (bF w l ns (f.set p 2)):=by unfold mx;split<;>omega
  exact kK (ct (by omega) (by omega))
 have C1:=mF F.va.op (h:={h with log:=[]}) (.of hr.wf) hf hp8 (a:=1);have I1:=lX F.va hc _ (h:={h with log:=[]}) (.of hr.wf) (Qh.log []) (f:=f.set p 1) (by rw[List.length_set];exact hf) (Nat.le_refl _);unfold vfV at g2;rw[hwr];refine Y20 ?_;refine FW.puD C1 (by apply ah rfl (aa rfl (eG (by exact rfl)) (by exact dg _ _)) rfl;apply ah rfl (aa rfl (dh (by exact rfl) (by assumption) (by assumption) (by assumption)) (by exact yc _)) rfl;apply ah rfl (aa rfl (bY (by exact rfl) (by assumption) (by exact rfl)) (by refine pT ?_ ?_;refine di (iw _) ?_;exact iI;exact iI)) rfl;(repeat apply aG rfl);apply ah rfl (aa rfl (bY (by exact rfl) (by assumption) (by exact rfl)) (by refine pT ?_ ?_;refine di (iw _) ?_;exact iI;exact iI)) rfl;apply ah rfl (aa rfl (bY (by exact rfl) (by assumption) (by assumption)) (by exact dg _ _)) rfl;apply ah rfl (aa rfl (cT (by exact rfl)) (by exact aX _)) rfl;apply ah rfl (aa rfl (iT (by exact rfl) (by exact rfl) (by omega)) (by exact aX _)) rfl;apply ah rfl (aa rfl (eG (by exact rfl)) (by exact dg _ _)) rfl;apply ah rfl (aa rfl (bY (by exact rfl) (by assumption) (by assumption)) (by exact eV _ _ _)) rfl;apply ah rfl (aa rfl (cT (by exact rfl)) (by exact aX _)) rfl;apply ah rfl (aa rfl (gp (by exact rfl)) (by exact aX _)) rfl;apply ah rfl (aa rfl (bY (by exact rfl) (by assumption) (by exact rfl)) (by exact aX _)) rfl;exact bh) ?_;clear C1;skip;refine qC ?_;refine FW.gsD I1 (λv h' lg q=>q) ?_;clear I1;rintro _ hB lg xB hlg ⟨rfl,mmB,gmB,hmB⟩;have nB:=xB.next
 have oB:∀z,z<h.next->z≠m->hB.get z=h.get z:=λz hz hne=>xB.old z hz hne
 have WB:=xB.wf hr.wf;have QB:QuH hB q m w (.slice (some ⟨b,o,none⟩) l.length cp) nv ov l os ns:=Qh.keep hr.wf nB oB ⟨mmB,gmB,hmB⟩;have c1:=(oB b1 k1 n1m).trans g1;have c2:=(oB b2 k2 n2m).trans g2;have c3:=(oB b3 k3 n3m).trans g3;have cq:=QB.gq;have nbm:b≠m:=λe=>by rw[e,gm0]at gb;cases gb
 have cb:=(oB b hbl nbm).trans gb;have hlB:∀z∈hB.log,z=m:=λz hz=>(xB.log z hz).elim (λq=>by rw[hr.log]at q;cases q) id;have C2:=mF F.va.op (h:={hB with log:=[]}) (.of WB) hf hp8 (a:=2);have I2:=lX F.va hc _ (h:={hB with log:=[]}) (.of WB) (QB.log []) (f:=f.set p 2) (by rw[List.length_set];exact hf) (Nat.le_refl _);refine⟨_,by apply ah rfl (aa rfl (eG (by exact rfl)) (by exact dg _ _)) rfl;apply ah rfl (aa rfl (dh (by exact rfl) (by assumption) (by assumption) (by assumption)) (by exact yc _)) rfl;apply ah rfl (aa rfl (bY (by exact rfl) (by assumption) (by exact rfl)) (by refine pT ?_ ?_;refine di (iw _) ?_;exact iI;exact iI)) rfl;apply aG rfl;apply ah rfl (aa rfl (bY (by exact rfl) (by assumption) (by assumption)) (by exact dg _ _)) rfl;apply ah rfl (aa rfl (cT (by exact rfl)) (by exact aX _)) rfl;apply ah rfl (aa rfl (iT (by exact rfl) (by exact rfl) (by omega)) (by exact aX _)) rfl;apply ah rfl (aa rfl (eG (by exact rfl)) (by exact dg _ _)) rfl;apply ah rfl (aa rfl (bY (by exact rfl) (by assumption) (by assumption)) (by exact eV _ _ _)) rfl;apply ah rfl (aa rfl (cT (by exact rfl)) (by exact aX _)) rfl;apply ah rfl (aa rfl (gp (by exact rfl)) (by exact aX _)) rfl;apply ah rfl (aa rfl (bY (by exact rfl) (by assumption) (by exact rfl)) (by exact aX _)) rfl;exact bh,?_⟩;clear g1 g2 g3 gq gb;skip;refine qC ?_;refine FW.puD C2 (by(repeat apply aG rfl);apply ah rfl (aa rfl (bY (by exact rfl) (by assumption) (by exact rfl)) (by refine pT ?_ ?_;refine di (iw _) ?_;exact iI;exact iI)) rfl;apply ah rfl (aa rfl (bY (by exact rfl) (by assumption) (by assumption)) (by exact dg _ _)) rfl;apply ah rfl (aa rfl (cT (by exact rfl)) (by exact aX _)) rfl;apply ah rfl (aa rfl (iT (by exact rfl) (by exact rfl) (by omega)) (by exact aX _)) rfl;apply ah rfl (aa rfl (eG (by exact rfl)) (by exact dg _ _)) rfl;apply ah rfl (aa rfl (bY (by exact rfl) (by assumption) (by assumption)) (by exact eV _ _ _)) rfl;apply ah rfl (aa rfl (cT (by exact rfl)) (by exact aX _)) rfl;apply ah rfl (aa rfl (gp (by exact rfl)) (by exact aX _)) rfl;apply ah rfl (aa rfl (bY (by exact rfl) (by assumption) (by exact rfl)) (by exact aX _)) rfl;exact bh) ?_;clear C2;skip;refine qC ?_;refine FW.gsD I2 (λv h' lg q=>q) ?_;clear I2;rintro _ hC lg2 xC hlg2 ⟨rfl,mmC,gmC,hmC⟩;have oC:∀z,z<hB.next->z≠m->hC.get z=hB.get z:=λz hz hne=>xC.old z hz hne
 have d1:=(oC b1 (by omega) n1m).trans c1;have d2:=(oC b2 (by omega) n2m).trans c2;have d3:=(oC b3 (by omega) n3m).trans c3;have dq:=(oC q (by omega) (λe=>by rw[e,gmB]at cq;cases cq)).trans cq;have db:=(oC b (by omega) nbm).trans cb;have hlC:∀z∈hC.log,z=m:=λz hz=>(xC.log z hz).elim (hlB z) id;refine⟨_,by apply aG rfl;apply ah rfl (aa rfl (bY (by exact rfl) (by assumption) (by assumption)) (by exact dg _ _)) rfl;apply ah rfl (aa rfl (cT (by exact rfl)) (by exact aX _)) rfl;apply ah rfl (aa rfl (iT (by exact rfl) (by exact rfl) (by omega)) (by exact aX _)) rfl;apply ah rfl (aa rfl (eG (by exact rfl)) (by exact dg _ _)) rfl;apply ah rfl (aa rfl (bY (by exact rfl) (by assumption) (by assumption)) (by exact eV _ _ _)) rfl;apply ah rfl (aa rfl (cT (by exact rfl)) (by exact aX _)) rfl;apply ah rfl (aa rfl (gp (by exact rfl)) (by exact aX _)) rfl;apply ah rfl (aa rfl (bY (by exact rfl) (by assumption) (by exact rfl)) (by exact aX _)) rfl;exact bh,?_⟩;clear c1 c2 c3 cq cb;refine Y7 ?_;exact gX hlC rfl ⟨rfl,mmC,gmC,hmC⟩
def woV(b1 b2 b3:Nat):Value:= .func (.func 19) #[] #[.pointer (some ⟨b1,0,none⟩), .pointer (some ⟨b2,0,none⟩), .pointer (some ⟨b3,0,none⟩)]
theorem N4(F:yJ T){h:Heap}(hr:Rdy h){q m:Nat}{w:List Nat×List Nat}{pv nv ov:Value}{l:List Pb}{os:List (List Nat)}{ns:List (List (List Nat))}(hc:∀p∈l,1<=p.cost/\p.cost<=1000)(Qh:QuH h q m w pv nv ov l os ns){f:List Nat}(hf:f.length=8){b1 b2 b3 b9:Nat}
 (g1:h.get b1=some (.cells [.pointer (some ⟨q,0,none⟩)] true 1))(g2:h.get b2=some (.cells [vfV q] true 1))(g3:h.get b3=some (.cells (fL f) true 1))(g9:h.get b9=some (.cells [woV b1 b2 b3] true 1)){x y:Nat}(hx:x<l.length)(hy:y<l.length):
 Gs T 22 [.int .i64 (x:Nat), .int .i64 (y:Nat), .pointer (some ⟨b9,0,none⟩)] h (λz=>z=m) (Ra m w l ns (.int .i64 (cmZ (dO w l ns f x) (dO w l ns f y)))):=by
 obtain⟨mm0,gm0,hmm0⟩:=Qh.mem;have km:=hr.wf.bK gm0;refine Gs.of F.va.op.qu.p F.f151 (λv h1 h2 _ hn ha ⟨e,mm,g,hm⟩=>⟨e,mm,(ha m km).trans g,hm⟩) ?_;have k1:=hr.wf.bK g1;have k2:=hr.wf.bK g2;have k3:=hr.wf.bK g3;have k9:=hr.wf.bK g9;have n1m:b1≠m:=λe=>by rw[e,gm0]at g1;cases g1
 have n2m:b2≠m:=λe=>by rw[e,gm0]at g2;cases g2
 have n3m:b3≠m:=λe=>by rw[e,gm0]at g3;cases g3
 have n9m:b9≠m:=λe=>by rw[e,gm0]at g9;cases g9
 have I1:=D6 F (h:={h with log:=[]}) (.of hr.wf) hc (Qh.log []) hf g1 g2 g3 hx;unfold woV at g9;generalize dO w l ns f x=u1 at*;refine Y10 ?_;refine FW.gsD I1 (λv h' lg q=>q) ?_;clear I1;rintro _ hB lg xB hlg ⟨rfl,mmB,gmB,hmB⟩;have nB:=xB.next
 have oB:∀z,z<h.next->z≠m->hB.get z=h.get z:=λz hz hne=>xB.old z hz hne
 have WB:=xB.wf hr.wf;have QB:QuH hB q m w pv nv ov l os ns:=Qh.keep hr.wf nB oB ⟨mmB,gmB,hmB⟩;have c9:=(oB b9 k9 n9m).trans g9;have hlB:∀z∈hB.log,z=m:=λz hz=>(xB.log z hz).elim (λq=>by rw[hr.log]at q;cases q) id;have I2:=D6 F (h:={hB with log:=[]}) (.of WB) hc (QB.log []) hf ((oB b1 k1 n1m).trans g1) ((oB b2 k2 n2m).trans g2) ((oB b3 k3 n3m).trans g3) hy;generalize dO w l ns f y=u2 at*;refine⟨_,by apply ah rfl (aa rfl (eG (by exact rfl)) (by exact dg _ _)) rfl;apply ah rfl (aa rfl (bY (by exact rfl) (by assumption) (by exact rfl)) (by refine pT ?_ ?_;exact iI;refine di (iw _) ?_;refine di (iw _) ?_;refine di (iw _) ?_;exact iI)) rfl;(repeat apply aG rfl);exact bh,?_⟩;clear g9;skip;refine qC ?_;refine FW.gsD I2 (λv h' lg q=>q) ?_;clear I2;rintro _ hC lg2 xC hlg2 ⟨rfl,mmC,gmC,hmC⟩;have WC:=xC.wf WB;have hlC:∀z∈hC.log,z=m:=λz hz=>(xC.log z hz).elim (hlB z) id;have C:=N5 F (h:={hC with log:=[]}) (.of WC) u1 u2;refine⟨_,by(repeat apply aG rfl);exact bh,?_⟩;skip;refine qC ?_;refine FW.puD C (by exact bh) ?_;refine Y5 ?_;exact gX hlC rfl ⟨rfl,mmC,gmC,hmC⟩
theorem KL{g:Nat->Int}{L:List Nat}{x:Nat}(h:L≠[]):fq g (L++[x])=if g x<g (fq g L)then x else fq g L:=by
 cases L with
 |nil=>exact absurd rfl h
 |cons y L=>
  show(L++[x]).foldl _ y=_;rw[List.foldl_append];rfl
theorem N2(a b:Int):cmZ a b<0↔a<b:=by
 unfold cmZ;split
 ·simp;omega
 ·split<;>simp<;>omega
theorem KC(F:yJ T){h:Heap}(hr:Rdy h){q m:Nat}{w:List Nat×List Nat}{pv nv ov:Value}{l:List Pb}{os:List (List Nat)}{ns:List (List (List Nat))}(hc:∀p∈l,1<=p.cost/\p.cost<=1000)(Qh:QuH h q m w pv nv ov l os ns){f:List Nat}(hf:f.length=8){b1 b2 b3 b9:Nat}
 (g1:h.get b1=some (.cells [.pointer (some ⟨q,0,none⟩)] true 1))(g2:h.get b2=some (.cells [vfV q] true 1))(g3:h.get b3=some (.cells (fL f) true 1))(g9:h.get b9=some (.cells [woV b1 b2 b3] true 1)){v:Value}{L:List Nat}(s:aJ h 1 v L.length (ints (L.map Int.ofNat)))(hL:∀p∈L,p<l.length)(hn:L.length<1000000):
 Gs T 21 [v, .func (.func 22) #[] #[.pointer (some ⟨b9,0,none⟩)]] h (λz=>z=m) (Ra m w l ns (.tuple #[.int .i64 (fq (dO w l ns f) L:Nat), .bool (decide (0<L.length))])):=by
 obtain⟨mm0,gm0,hmm0⟩:=Qh.mem;have km:=hr.wf.bK gm0;refine Gs.of F.va.op.qu.p F.f150 (λv h1 h2 _ hn ha ⟨e,mm,g,hm⟩=>⟨e,mm,(ha m km).trans g,hm⟩) ?_;have k1:=hr.wf.bK g1;have k2:=hr.wf.bK g2;have k3:=hr.wf.bK g3;have k9:=hr.wf.bK g9;have n1m:b1≠m:=λe=>by rw[e,gm0]at g1;cases g1
 have n2m:b2≠m:=λe=>by rw[e,gm0]at g2;cases g2
 have n3m:b3≠m:=λe=>by rw[e,gm0]at g3;cases g3
 have n9m:b9≠m:=λe=>by rw[e,gm0]at g9;cases g9
 obtain⟨a,c,rfl⟩:=s.form;refine Y14 ?_
 refine cM (λk e ds h'=>∃i:Nat,i<=L.length/\L.length-i=k/\e=[(0, .slice a L.length c),(1, .func (.func 22) #[] #[.pointer (some ⟨b9,0,none⟩)]),(6, .int .i64 (fq (dO w l ns f) (L.take i):Nat)),(9, .slice a L.length c),(10, .int .i64 (L.length:Nat)),(11, .int .i64 (i:Nat))]/\ds=[]/\Ws (λz=>z=m) h h'∧∃mm,h'.get m=some (.map (fP mm))/\lH w l ns mm)
  ⟨0,Nat.zero_le _,rfl,rfl,rfl,(Ext.refl h).ws,mm0,gm0,hmm0⟩ ?_
 rintro k e ds G ⟨i,hi,rfl,rfl,rfl,xG,mm,gm,hmm⟩;have WG:=xG.wf hr.wf;have nG:=xG.next
 have oG:∀z,z<h.next->z≠m->G.get z=h.get z:=λz hz hne=>xG.old z hz hne
 have hlG:∀z∈G.log,z=m:=λz hz=>(xG.log z hz).elim (λq=>by rw[hr.log]at q;cases q) id;by_cases hlt:i<L.length
 ·obtain⟨x,hx⟩:∃x,L[i]? =some x:=⟨L[i],List.getElem?_eq_getElem hlt⟩;have hxl:=hL x (List.mem_of_getElem? hx);obtain⟨b,o,c3,vs,own,tt,hv,gl,hbl,el⟩:=Gz s (x:= .int .i64 (x:Nat)) (by unfold ints;rw[List.getElem?_map,List.getElem?_map,hx];rfl);cases hv;have glG:=(oG b hbl (λe=>by rw[e,gm0]at gl;cases gl)).trans gl;have mlt:aq .lss (.int .i64 (i:Nat)) (.int .i64 (L.length:Nat))=some (.bool true):=ei (by omega);have hst:=fQ hx;rcases Nat.eq_zero_or_pos i with rfl|hpos
  ·have meq:aq .eql (.int .i64 ((0:Nat):Int)) (.int .i64 0)=some (.bool true):=rfl;have e1:fq (dO w l ns f) (L.take (0+1))=x:=by rw[hst];rfl
   refine Y31 ?_;refine bL ?_;refine Y7 ?_;exact⟨L.length-(0+1),by omega,0+1,by omega,rfl,by rw[e1],rfl,xG,mm,gm,hmm⟩
  ·have meq:aq .eql (.int .i64 (i:Nat)) (.int .i64 0)=some (.bool false):=pq (by omega);have hne:L.take i≠[]:=λe=>by
    have hz:(L.take i).length=0:=by rw[e];rfl
    rw[List.length_take]at hz;omega
   have e1:fq (dO w l ns f) (L.take (i+1))=if dO w l ns f x<dO w l ns f (fq (dO w l ns f) (L.take i))then x else fq (dO w l ns f) (L.take i):=by rw[hst];exact KL hne
   have hbm:fq (dO w l ns f) (L.take i)<l.length:=hL _ (List.mem_of_mem_take (Gh hne));have QG:QuH G q m w pv nv ov l os ns:=Qh.keep hr.wf nG oG ⟨mm,gm,hmm⟩;have C:=N4 F (h:={G with log:=[]}) (.of WG) hc (QG.log []) hf ((oG b1 k1 n1m).trans g1) ((oG b2 k2 n2m).trans g2) ((oG b3 k3 n3m).trans g3) ((oG b9 k9 n9m).trans g9) hxl hbm;generalize hbb:fq (dO w l ns f) (L.take i)=bst at*;have hcm:=N2 (dO w l ns f x) (dO w l ns f bst);generalize cmZ (dO w l ns f x) (dO w l ns f bst)=cc at*;by_cases hlt2:dO w l ns f x<dO w l ns f bst
   ·have mcl:aq .lss (.int .i64 cc) (.int .i64 0)=some (.bool true):=ei (hcm.2 hlt2);rw[if_pos hlt2]at e1;refine Y28 ?_;refine FW.gs C (λv h' m q=>q) ?_;rintro _ h5 x5 ⟨rfl,mm5,gm5,hm5⟩;refine Y8 ?_;refine bL ?_;refine Y7 ?_;exact⟨L.length-(i+1),by omega,i+1,by omega,rfl,by rw[e1],rfl,xG.trans x5,mm5,gm5,hm5⟩
   ·have mcl:aq .lss (.int .i64 cc) (.int .i64 0)=some (.bool false):=eH (by omega);rw[if_neg hlt2]at e1;refine Y28 ?_;refine FW.gs C (λv h' m q=>q) ?_;rintro _ h5 x5 ⟨rfl,mm5,gm5,hm5⟩;refine Y12 ?_;exact⟨L.length-(i+1),by omega,i+1,by omega,rfl,by rw[e1],rfl,xG.trans x5,mm5,gm5,hm5⟩
 ·obtain rfl:i=L.length:=by omega
  have mlt:aq .lss (.int .i64 (L.length:Nat)) (.int .i64 (L.length:Nat))=some (.bool false):=eH (by omega);rw[List.take_length];have mgt:aq .gtr (.int .i64 (L.length:Nat)) (.int .i64 0)=some (.bool (decide (0<L.length))):=by
   rw[Gi];congr 2;exact decide_eq_decide.2 (by omega)
  refine Y19 ?_;exact gX hlG rfl ⟨rfl,mm,gm,hmm⟩
end Go.A.Pk
end
section
namespace Go.A.Pk
variable {T:Nat->Option an}
theorem Dc(f:List Nat){n:Nat}:∀m,∃r,bD (n+m) f=bD n f++r
 |0=>⟨[],by simp⟩
 |m+1=>by
  obtain⟨r,e⟩:=Dc f (n:=n) m;exact⟨r++(if f.getD (n+m) 0=0 then [n+m]else []),by rw[←Nat.add_assoc,tH,e,List.append_assoc]⟩
theorem KE(F:uf T){h:Heap}(hr:Rdy h){q m:Nat}{w:List Nat×List Nat}{pv nv ov:Value}{l:List Pb}{os:List (List Nat)}{ns:List (List (List Nat))}(Qh:QuH h q m w pv nv ov l os ns){f:List Nat}(hf:f.length=8){b1 b2:Nat}(g1:h.get b1=some (.cells [.pointer (some ⟨q,0,none⟩)] true 1))
 {lo N lp qb:Nat}{P:List Nat->Heap->Prop}(Y:Cb T lo N lp qb (λp=> .int .i64 ((p:Nat):Int)) (bD l.length f) P)(hN:N<=h.next)(hlo:lo<=h.next)(hb2:∀d H,P d H->H.get b2=some (.cells (fL f) true 1))(hP0:P [] h):
 Gr T 45 [.func (.yield lp) #[] #[], .pointer (some ⟨b1,0,none⟩), .pointer (some ⟨b2,0,none⟩)] h lo λv h'=>v= .tuple #[]/\P (bD l.length f) h':=by
 have hqn:qb<h.next:=Nat.lt_of_lt_of_le Y.hq hN
 refine Gr.ofK F.qu.p F.f228 hlo (λv h1 hA p=>Gc Y hqn hA hr.log p) ?_;obtain⟨a,c,rfl⟩:=Qh.sp.form;have gq:=Qh.gq;have kp:=qA Qh.hw (.slice a l.length c) nv ov (.map (some m));have hl8:=Qh.hl;refine Y9 ?_
 refine cM (λk e ds h'=>∃i:Nat,i<=l.length/\k=l.length-i/\e=[(0, .func (.yield lp) #[] #[]),(2, .pointer (some ⟨b2,0,none⟩)),(9, .int .i64 (l.length:Nat)),(10, .int .i64 (i:Nat))]/\ds=[]/\Lk lo h h'∧P (bD i f) h'∧(h'=h∨qb∈h'.log/\iB h' qb))
  ⟨0,Nat.zero_le _,rfl,rfl,rfl, .refl _ _,hP0, .inl rfl⟩ ?_
 rintro k e ds G ⟨i,hi,rfl,rfl,rfl,xG,hP,hm⟩;have WG:=xG.wf hr.wf;have gb2:=hb2 _ _ hP;by_cases hlt:i<l.length
 ·obtain⟨y,hy⟩:∃y,f[i]? =some y:=⟨f[i]'(by omega),List.getElem?_eq_getElem _⟩;have kf:=Ay hy;have hgd:f.getD i 0=y:=by rw[List.getD_eq_getElem?_getD,hy];rfl
  have mlt:aq .lss (.int .i64 (i:Nat)) (.int .i64 (l.length:Nat))=some (.bool true):=ei (by omega);have mk:aq .eql (.int .u8 (y:Nat)) (.int .u8 0)=some (.bool (decide (y=0))):=wJ (c:=0) rfl;have hst:=tH i f;rw[hgd]at hst;by_cases hy0:y=0
  ·rw[decide_eq_true hy0]at mk;rw[if_pos hy0]at hst;obtain⟨rest,hrest⟩:=Dc f (n:=i+1) (l.length-(i+1));rw[show i+1+(l.length-(i+1))=l.length by omega,hst,List.append_assoc]at hrest;refine Y24 ?_;refine kZ (fn:= .yield lp) (args:=[.int .i64 (i:Nat)]) (by exact rfl) ?_;refine Y.call F.qu.p (x:=i) hrest WG (by have:=xG.next;omega) (by have:=xG.next;omega) hqn hP ?_;intro G2 x2 hm2 hP2;rw[←hst]at hP2;refine Y12 ?_;exact⟨l.length-(i+1),by omega,i+1,by omega,rfl,rfl,rfl,xG.trans x2,hP2, .inr hm2⟩
  ·rw[decide_eq_false hy0]at mk;rw[if_neg hy0,List.append_nil]at hst;rw[←hst]at hP;refine Y33 ?_;exact⟨l.length-(i+1),by omega,i+1,by omega,rfl,rfl,rfl,xG,hP,hm⟩
 ·obtain rfl:i=l.length:=by omega
  have mlt:aq .lss (.int .i64 (l.length:Nat)) (.int .i64 (l.length:Nat))=some (.bool false):=eH (by omega);refine Y9 ?_;exact vY (xG.log (by rw[hr.log];exact eF.nil _)) rfl ⟨rfl,hP,hm⟩
section
open I
def GU:aR:=(I.R [M 8 22] [7,8])
def GW:aR:=(.block 1 (I.R [L 23 7,M 24 8,g 25 (.dz [O] 1 [(0,1,(t 24))]),g 26 (.append 1 8 (t 23) (t 25)),S 1 7 26] []))
end
def bE(v1 v2 v3 v4 v5:Value)(q:Nat)(fv:Value):Env:=[(1,v1),(2,v2),(3,v3),(4,v4),(5,v5),(7, .pointer (some ⟨q,0,none⟩)),(21,fv)]
def qv(ds:List Nat):List Value:=ints (ds.map Int.ofNat)
theorem Ex(ds:List Nat)(p:Nat):qv (ds++[p])=qv ds++[.int .i64 ((p:Nat):Int)]:=by simp[qv,ints]
theorem GR(hp:aF T){H:Heap}(hr:Rdy H){q l lo lo2 p:Nat}{v1 v2 v3 v4 v5 fv v:Value}{ds:List Nat}(hm:ds.length<1000000)(hlo:lo<=q)
 (gl:H.get l=some (.loop (bE v1 v2 v3 v4 v5 q fv) [22] GU GW 0 .normal))
 (go:H.get q=some (.cells [v] true 1))(own:Own lo2 H 1 v ds.length (qv ds))(hlo2:lo<=lo2)(hq2:q<lo2)(hl2:l<lo2)(h2n:lo2<=H.next):
 FW T (.yield l) [.int .i64 (p:Nat)] H λr H'=>r= .ret (.bool true)/\(∀z∈H'.log,lo<=z)/\q∈H'.log/\∃v',H'.get q=some (.cells [v'] true 1)/\cV [v']=false/\Own lo2 H' 1 v' (ds++[p]).length (qv (ds++[p]))/\(∀z,z<lo2->z≠q->H'.get z=H.get z)/\WF H'∧H.next<=H'.next:=by
 have no:q≠l:=λe=>by subst e;rw[go]at gl;cases gl
 have ko:=hr.wf.bK go;have kl:=hr.wf.bK gl;refine FW.FA hp (q:=q) (R:=λH'=>∃v',H'.get q=some (.cells [v'] true 1)/\cV [v']=false/\Own lo2 H' 1 v' (ds++[p]).length (qv (ds++[p]))/\(∀z,z<lo2->z≠q->H'.get z=H.get z)/\WF H'∧H.next<=H'.next) gl rfl kl ko no ?_;unfold GU bE;refine Y2 ?_;refine bL ?_;refine y1 ?_;refine⟨rfl,gl,?_⟩;unfold GW;refine kG ?_;refine WE.uM ?_;intro hA hAe;have A1:∀z,z<H.next->z≠l->H.get z=hA.get z:=λz hz hne=>by rw[hAe];exact(z5 hne).symm
 have A2:hA.get l=some (.loop (bE v1 v2 v3 v4 v5 q fv) [22] GU GW 1 .normal):=by rw[hAe];exact Heap.aI gl
 have A5:hA.next=H.next:=by rw[hAe];rfl
 have A6:hA.log=[]:=by rw[hAe,Heap.aB (by omega)];exact hr.log
 have A7:WF hA:=by rw[hAe];exact hr.wf.as (AS.wr _ _ _ _)
 clear hAe;have Bo:=(A1 q ko no).symm.trans go;have ownA:Own lo2 hA 1 v ds.length (qv ds):=own.keep (by omega) λz hz hz2=>(A1 z hz2 (by omega)).symm;clear go;refine Y4 ?_;refine D4 (lo:=lo2) (c1:=[.int .i64 (p:Nat)]) (ownA.ext ((Ext.refl hA).push _)) hm (by omega) (by omega) (by exact rfl) (by exact rfl) (iN (cs:=[.int .i64 (p:Nat)]) YG rfl rfl) rfl rfl ?_;intro h3 own3 n3 l3 w3 o3;have own3:Own (H.next+1) h3 1 (.slice (some ⟨H.next+1,0,none⟩) (ds.length+1) UNK) (ds.length+1) (qv ds++[.int .i64 (p:Nat)]):=by
  have e:(hA.push (.cells [.int .i64 (p:Nat)] true 1)).next=H.next+1:=by show hA.next+1=_;omega
  rw[←e];exact own3
 have n3:h3.next=H.next+2:=by rw[n3];show hA.next+1+1=_;omega
 have l3:∀z∈h3.log,lo2<=z:=λz hz=>(l3 z hz).elim id λe=>by
  have e:z∈hA.log:=e;rw[A6]at e;cases e
 have o3:∀z,z<lo2->h3.get z=hA.get z:=λz hz=>(o3 z (by show z<hA.next+1;omega) hz).trans (z4 (by omega));have W3:WF h3:=w3 (A7.push _);have e5:∀o,(hA.push o).next=H.next+1:=λo=>by show hA.next+1=_;omega
 rw[e5];have Co:=(o3 q (by omega)).trans Bo;have Cl:=(o3 l (by omega)).trans A2;have hce:=Ex ds p;have hcl:(ds++[p]).length=ds.length+1:=by simp
 clear Bo A2;refine yS ?_;refine bL ?_;refine Y2 ?_;refine⟨rfl,⟨_,(z5 (Ne.symm no)).trans Cl,rfl⟩,λz hz=> ?_,lZ (by omega),⟨_,_,_,Heap.aI Co,rfl⟩, .slice (some ⟨H.next+1,0,none⟩) (ds.length+1) UNK,(z5 no).trans (Heap.aI Co),rfl,?_,λz hz h1=> ?_,?_,?_⟩
 ·rcases dw hz with rfl|hz
  ·exact hlo
  ·exact Nat.le_trans hlo2 (l3 z hz)
 ·rw[hce,hcl];exact Own.low (lo:=H.next+1) (Own.keep own3 (Nat.le_refl _) λz hz _=>(z5 (by omega)).trans (z5 (by omega))) (by omega)
 ·by_cases hl:z=l
  ·subst hl;rw[gl];exact Heap.aI ((z5 (Ne.symm no)).trans Cl)
  ·exact(z5 hl).trans ((z5 h1).trans ((o3 z hz).trans (A1 z (by omega) hl).symm))
 ·exact(W3.as (AS.wr _ _ _ _)).as (AS.wr _ _ _ _)
 ·show H.next<=h3.next
  omega
structure PAl (N q:Nat) (H0:Heap) (L:bG) (done:List Nat) (H:Heap):Prop where
 old:∀z,z<N->z≠q->H.get z=H0.get z
 loop:H.get N=some L
 ow:∃v,H.get q=some (.cells [v] true 1)/\Own (N+1) H 1 v done.length (qv done)
 nx:N<H.next
theorem O9(hp:aF T){N q:Nat}{H0:Heap}{v1 v2 v3 v4 v5 fv:Value}{all:List Nat}(hq:q<N)(hall:all.length<1000000):Cb T q (N+1) N q (λp=> .int .i64 ((p:Nat):Int)) all (PAl N q H0 (.loop (bE v1 v2 v3 v4 v5 q fv) [22] GU GW 0 .normal)):=by
 refine⟨by omega,λdone x rest H hx hr hN P=> ?_,λdone H H' P hn ha=> ?_⟩
 ·obtain⟨v,g,ow⟩:=P.ow;have hdl:done.length<1000000:=by rw[hx,List.length_append]at hall;omega
  refine FW.mono' (GR hp hr (p:=x) (lo2:=N+1) hdl (Nat.le_refl q) P.loop g ow (by omega) (by omega) (by omega) (by omega)) ?_;rintro r H' ⟨e1,e2,e3,v',g',e4,o',a',w',n'⟩;exact⟨e1,e2,e3,⟨_,_,_,g',e4⟩,⟨λz hz hne=>(a' z (by omega) hne).trans (P.old z hz hne),(a' N (by omega) (by omega)).trans P.loop,⟨v',g',o'⟩,by have:=P.nx;omega⟩⟩
 ·obtain⟨v,g,ow⟩:=P.ow;have hn1:=P.nx;exact⟨λz hz hne=>(ha z (by omega)).trans (P.old z hz hne),(ha N hn1).trans P.loop,⟨v,(ha q (by omega)).trans g,ow.keep hn λz _ hz=>ha z hz⟩,by omega⟩
def fkL(x:Fk):List Value:=[.int .i64 x.probe, .int .i64 x.yes, .int .i64 x.no]
def jt(s:List Fk):List Value:=s.flatMap fkL
theorem j8:∀(s:List Fk),(jt s).length=s.length*3
 |[]=>rfl
 |x::s=>by
  have e:jt (x::s)=fkL x++jt s:=rfl;rw[e,List.length_append,j8 s,List.length_cons];show 3+_=_;omega
theorem JZ:∀{s:List Fk} {i:Nat} {x:Fk},s[i]? =some x->((jt s).drop (i*3)).take 3=fkL x
 |[],i,x,h=>by simp at h
 |y::s,0,x,h=>by
  simp at h;subst h;rfl
 |y::s,i+1,x,h=>by
  have e:jt (y::s)=fkL y++jt s:=rfl;have e2:(fkL y++jt s).drop 3=jt s:=rfl;rw[e,show(i+1)*3=3+i*3 by omega,←List.drop_drop,e2];exact JZ (by simpa using h)
def FkS(h:Heap)(v:Value)(s:List Fk):Prop:=aJ h 3 v s.length (jt s)
theorem FkS.elem{h:Heap}{v:Value}{s:List Fk}(S:FkS h v s){i:Nat}{x:Fk}(hi:s[i]? =some x):
 ∃b o c vs own t,v= .slice (some ⟨b,o,none⟩) s.length c/\h.get b=some (.cells vs own t)/\b<h.next/\bH vs (o+i*3+0)=some (.int .i64 x.probe)/\bH vs (o+i*3+1)=some (.int .i64 x.yes)/\bH vs (o+i*3+2)=some (.int .i64 x.no)/\cw 3 (bU (o+i*3) vs)=fkL x:=by
 have hlt:=(List.getElem?_eq_some_iff.1 hi).1;rcases aJ.inv S with⟨_,_,h0,_⟩|⟨b,o,cap,hv,s1,hc⟩
 ·omega
 ·obtain⟨vs,own,t,g1,g2⟩:=s1.obj;have hk:(vs.drop (o+i*3)).take 3=fkL x:=by
   rw[←JZ hi,←g2];simp only[bI,aT,List.drop_take,List.take_take,List.drop_drop];congr 1;omega
  have at':∀j,j<3->bH vs (o+i*3+j)=(fkL x)[j]? :=λj hj=>by
   rw[cD,←hk,List.getElem?_take_of_lt hj,List.getElem?_drop]
  exact⟨b,o,cap,vs,own,t,hv,g1,s1.lt,at' 0 (by omega),at' 1 (by omega),at' 2 (by omega),by rw[bI,aT];exact hk⟩
def Xj(bq bs bn bc bv:Nat):Value:= .func (.func 203) #[] #[.pointer (some ⟨bq,0,none⟩), .pointer (some ⟨bs,0,none⟩), .pointer (some ⟨bn,0,none⟩), .pointer (some ⟨bc,0,none⟩), .pointer (some ⟨bv,0,none⟩)]
structure VsH (h0 h:Heap) (q:Nat) (sv:Value) (cost:Int) (n0:Int) (bq bs bn bc bv:Nat):Prop where
 wf:WF h
 nx:h0.next<=h.next
 old:∀z,z<h0.next->h.get z=h0.get z
 gq:h.get bq=some (.cells [.pointer (some ⟨q,0,none⟩)] true 1)
 gs:h.get bs=some (.cells [sv] true 1)
 gn:h.get bn=some (.cells [.int .i64 n0] true 1)
 gc:h.get bc=some (.cells [.int .i64 cost] true 1)
 gv:h.get bv=some (.cells [Xj bq bs bn bc bv] true 1)
def cdF:an->aR
 | .code c _=>c
 |_=> .skip
def tlC:aR->aR
 | .seq _ b=>b
 |c=>c
theorem WO.Hl{base:Nat}{rnd:Option Nat}{Q:XQ}{ops:List aV}{e:Env}{ds:Dfs}{h:Heap}(hK:∀hA,hA=h->WO T base rnd Q ops e ds hA):WO T base rnd Q ops e ds h:=hK h rfl
theorem CH(a b:List Fk):jt (a++b)=jt a++jt b:=by unfold jt;rw[List.flatMap_append]
theorem Oj{a c:List Fk}{p y z y' z':Int}:((jt (a++⟨p,y,z⟩::c)).set (0+a.length*3+1) (.int .i64 y')).set (0+a.length*3+2) (.int .i64 z')=jt (a++⟨p,y',z'⟩::c):=by
 have e:∀y z,jt (a++⟨p,y,z⟩::c)=jt a++(.int .i64 p:: .int .i64 y:: .int .i64 z::jt c):=λy z=>by rw[CH];rfl
 rw[e,e,List.set_append_right _ _ (by rw[j8];omega),List.set_append_right _ _ (by rw[j8];omega),j8];rw[show 0+a.length*3+1-a.length*3=1 by omega,show 0+a.length*3+2-a.length*3=2 by omega];rfl
theorem GF{w:List Nat×List Nat}{l:List Pb}{ns:List (List (List Nat))}:∀{k:Nat} {f:List Nat} {a:Nat},(dL w l ns k f a).2.length<2 ^ k:=by
 intro k;induction k with
 |zero=>intro f a;exact Nat.zero_lt_one
 |succ k ih=>
  intro f a;rw[Nat.pow_succ];unfold dL;split
  ·exact Nat.mul_pos (Nat.pow_pos (by omega)) (by omega)
  ·have h1:=ih (f:=f.set (fq (dO w l ns f) (bD l.length f)) 1) (a:=a+1);have h2:=ih (f:=f.set (fq (dO w l ns f) (bD l.length f)) 2) (a:=a+1+(dL w l ns k (f.set (fq (dO w l ns f) (bD l.length f)) 1) (a+1)).2.length);rw[List.length_cons,List.length_append];omega
structure IW (T:Nat->Option an):Prop where
 bu:yJ T
 f146:T 17=some f146
structure BdN (h0:Heap) (lo b8 b10 b11 b12 m:Nat):Prop where
 l8:h0.next<=b8/\b8<lo
 l10:h0.next<=b10/\b10<lo
 l11:h0.next<=b11/\b11<lo
 l12:h0.next<=b12/\b12<lo
 d8:b8≠b11
 d10:b10≠b11
 d12:b12≠b11
 lm:m<h0.next
def buV(b8 b10 b11 b12:Nat):Value:= .func (.func 17) #[] #[.pointer (some ⟨b10,0,none⟩), .pointer (some ⟨b8,0,none⟩), .pointer (some ⟨b11,0,none⟩), .pointer (some ⟨b12,0,none⟩)]
structure BdH (h0 h:Heap) (q m b8 b10 b11 b12 lo:Nat) (w:List Nat×List Nat) (l:List Pb) (ns:List (List (List Nat))):Prop where
 wf:WF h
 nx:lo<=h.next
 old:∀z,z<h0.next->z≠m->h.get z=h0.get z
 mem:∃mm,h.get m=some (.map (fP mm))/\lH w l ns mm
 g8:h.get b8=some (.cells [.pointer (some ⟨q,0,none⟩)] true 1)
 g10:h.get b10=some (.cells [vfV q] true 1)
 g12:h.get b12=some (.cells [buV b8 b10 b11 b12] true 1)
theorem BdH.step{h0 h h':Heap}{q m b8 b10 b11 b12 lo:Nat}{w:List Nat×List Nat}{l:List Pb}{ns:List (List (List Nat))}(B:BdH h0 h q m b8 b10 b11 b12 lo w l ns)(N:BdN h0 lo b8 b10 b11 b12 m)(hw:WF h')(hn:h.next<=h'.next)(ha:∀z,z<lo->z≠m->z≠b11->h'.get z=h.get z)(hm:∃mm,h'.get m=some (.map (fP mm))/\lH w l ns mm):BdH h0 h' q m b8 b10 b11 b12 lo w l ns:=by
 obtain⟨⟨a1,a2⟩,⟨a3,a4⟩,⟨a5,a6⟩,⟨a7,a8⟩,d1,d2,d3,lm⟩:=N;exact⟨hw,Nat.le_trans B.nx hn,λz hz hne=>(ha z (by omega) hne (by omega)).trans (B.old z hz hne),hm,(ha b8 a2 (by omega) d1).trans B.g8,(ha b10 a4 (by omega) d2).trans B.g10,(ha b12 a8 (by omega) d3).trans B.g12⟩
theorem BdH.qu{h0 h:Heap}{q m b8 b10 b11 b12 lo:Nat}{w:List Nat×List Nat}{pv nv ov:Value}{l:List Pb}{os:List (List Nat)}{ns:List (List (List Nat))}(B:BdH h0 h q m b8 b10 b11 b12 lo w l ns)(N:BdN h0 lo b8 b10 b11 b12 m)(hw0:WF h0)(Q0:QuH h0 q m w pv nv ov l os ns):QuH h q m w pv nv ov l os ns:=
 Q0.keep hw0 (by have:=N.l8;have:=B.nx;omega) B.old B.mem
def SB(m b11:Nat)(v0:Value)(z:Nat):Prop:=z=m∨z=b11∨vB v0 z
def BuQ(m b11 lo nx:Nat)(w:List Nat×List Nat)(l:List Pb)(ns:List (List (List Nat)))(out:List Fk)(v0:Value)(r:Int×List Fk)(v:Value)(h':Heap):Prop:=
 v= .int .i64 r.1/\(∃mm,h'.get m=some (.map (fP mm))/\lH w l ns mm)/\∃v1,h'.get b11=some (.cells [v1] true 1)/\Own lo h' 3 v1 (out.length+r.2.length) (jt (out++r.2))/\∀z,vB v1 z->vB v0 z∨nx<=z
theorem BdH.log{h0 h:Heap}{q m b8 b10 b11 b12 lo:Nat}{w:List Nat×List Nat}{l:List Pb}{ns:List (List (List Nat))}(B:BdH h0 h q m b8 b10 b11 b12 lo w l ns)(k:List Nat):BdH h0 {h with log:=k} q m b8 b10 b11 b12 lo w l ns:=⟨B.wf.log k,B.nx,B.old,B.mem,B.g8,B.g10,B.g12⟩
theorem jF{lo sz n z:Nat}{h:Heap}{v:Value}{cs:List Value}(s:Own lo h sz v n cs)(hz:vB v z):lo<=z/\z<h.next:=by
 obtain⟨a,c,rfl⟩:=hz;cases s with
 |full h1 h2=>exact⟨h1,h2⟩
theorem tP{lo sz n:Nat}{h h':Heap}{v:Value}{cs:List Value}(s:Own lo h sz v n cs)(hn:h.next<=h'.next)(ha:∀z,vB v z->h'.get z=h.get z):Own lo h' sz v n cs:=by
 cases s with
 |nil=>exact .nil
 |full h1 h2 h3 h4 h5=>exact .full h1 (by omega) ((ha _ ⟨_,_,rfl⟩).trans h3) h4 h5
theorem Jw(F:IW T){h0:Heap}(hw0:WF h0){q m lo b8 b10 b11 b12:Nat}{w:List Nat×List Nat}{pv nv ov:Value}{l:List Pb}{os:List (List Nat)}{ns:List (List (List Nat))}(Q0:QuH h0 q m w pv nv ov l os ns)(hc:∀p∈l,1<=p.cost/\p.cost<=1000)(N:BdN h0 lo b8 b10 b11 b12 m):
 ∀(k:Nat) {f:List Nat} {h:Heap} {out:List Fk} {v0:Value},f.length=8->(bD l.length f).length<k->bF w l ns f<100000->Rdy h->BdH h0 h q m b8 b10 b11 b12 lo w l ns->h.get b11=some (.cells [v0] true 1)->Own lo h 3 v0 out.length (jt out)->out.length+2 ^ k<=1000000→
 Gs T 17 [fV f, .pointer (some ⟨b10,0,none⟩), .pointer (some ⟨b8,0,none⟩), .pointer (some ⟨b11,0,none⟩), .pointer (some ⟨b12,0,none⟩)] h (SB m b11 v0) (BuQ m b11 lo h.next w l ns out v0 (dL w l ns k f out.length)):=by
 intro k;induction k with
 |zero=>intro f h out v0 _ hk;omega
 |succ k ih=>
  intro f h out v0 hf hk hval hr B g11 ow hsz;have hp:=F.bu.va.op.qu.p;have hN:=N;obtain⟨⟨a1,a2⟩,⟨a3,a4⟩,⟨a5,a6⟩,⟨a7,a8⟩,d1,d2,d3,lm⟩:=hN;have hnx:=B.nx;rw[Nat.pow_succ]at hsz;have hp2:1<=2 ^ k:=Nat.pow_pos (by omega);have hl8:=Q0.hl;refine Gs.ofM hp F.f146 ?_;have hfc:=gF f;refine cW (E0:=[(1, .pointer (some ⟨b10,0,none⟩)),(2, .pointer (some ⟨b8,0,none⟩)),(3, .pointer (some ⟨b11,0,none⟩)),(4, .pointer (some ⟨b12,0,none⟩)),(5, .pointer (some ⟨h.next,0,none⟩))]) (P:=λh'=>Ext h h'∧h'.next=h.next+1/\h'.get h.next=some (.cells (fL f) true 1)) ?_ ?_
  ·refine Y3 ?_;refine bL ?_;refine y1 ?_;rw[hfc];exact⟨rfl,rfl,rfl,(Ext.refl h).push _,rfl,z3 _ _⟩
  rintro H ⟨x0,n0,g5⟩;have W:=x0.wf hr.wf;have hL:=x0.log.trans hr.log;have BH:BdH h0 H q m b8 b10 b11 b12 lo w l ns:=B.step N W x0.next (λz hz _ _=>x0.old z (by omega)) (by
   obtain⟨mm,u1,u2⟩:=B.mem;exact⟨mm,(x0.old m (by omega)).trans u1,u2⟩)
  have g11H:=(x0.old b11 (by omega)).trans g11;have owH:=ow.ext x0;have QH:=BH.qu N hw0 Q0;have g10H:=BH.g10;have kf8:=iq hf;have kf9:=fJ hf;have C1:=lX F.bu.va hc _ (h:={H with log:=[]}) (.of W) (QH.log []) hf (Nat.le_refl _);unfold vfV at g10H;by_cases hv:bF w l ns f=0
  ·have meq:aq .eql (.int .i64 (bF w l ns f)) (.int .i64 0)=some (.bool true):=wK hv;refine Y5 ?_;refine FW.gsL C1 (λv h' m q=>q) ?_;rintro _ H1 x1 ⟨rfl,mm1,gm1,hm1⟩;have n1:=x1.next
   have hlg:∀z∈H1.log,SB m b11 v0 z:=λz hz=>(x1.log z hz).elim (λq=>by rw[hL]at q;cases q) λq=> .inl q;have e1:dL w l ns (k+1) f out.length=(-1,[]):=by rw[dL,if_pos hv]
   rw[e1];have o1:∀z,z<H.next->z≠m->H1.get z=H.get z:=λz hz hne=>x1.old z hz hne
   have key:∀h2:Heap,h.next<=h2.next->(∀x,x<h.next->h2.get x=H1.get x)->BuQ m b11 lo h.next w l ns out v0 (-1,[]) (.int .i64 (-1)) h2:=λh2 hn2 ha=>by
    refine⟨rfl,⟨mm1,(ha m (by omega)).trans gm1,hm1⟩,v0,(ha b11 (by omega)).trans ((o1 b11 (by omega) (by omega)).trans g11H),?_,λz hz=> .inl hz⟩;have:=tP ow hn2 λz hz=>by
     have hz2:=jF ow hz;exact(ha z hz2.2).trans ((o1 z (by omega) (by omega)).trans (x0.old z hz2.2))
    simpa using this
   refine Y8 ?_;exact qf hlg rfl (key H1 (by omega) λ_ _=>rfl) (.inr key)
  have meq:aq .eql (.int .i64 (bF w l ns f)) (.int .i64 0)=some (.bool false):=pq hv;obtain⟨hbm,hbv⟩:=sW hc (by omega) hv hval;obtain⟨hbl,hb0⟩:=gG.1 hbm
  have e1:dL w l ns (k+1) f out.length=((out.length:Int),⟨(fq (dO w l ns f) (bD l.length f):Nat),(dL w l ns k (f.set (fq (dO w l ns f) (bD l.length f)) 1) (out.length+1)).1,(dL w l ns k (f.set (fq (dO w l ns f) (bD l.length f)) 2) (out.length+1+(dL w l ns k (f.set (fq (dO w l ns f) (bD l.length f)) 1) (out.length+1)).2.length)).1⟩::
   ((dL w l ns k (f.set (fq (dO w l ns f) (bD l.length f)) 1) (out.length+1)).2++(dL w l ns k (f.set (fq (dO w l ns f) (bD l.length f)) 2) (out.length+1+(dL w l ns k (f.set (fq (dO w l ns f) (bD l.length f)) 1) (out.length+1)).2.length)).2)):=by rw[dL,if_neg hv]
  refine Y5 ?_;refine FW.gsL C1 (λv h' m q=>q) ?_;clear C1;rintro _ H1 x1 ⟨rfl,mm1,gm1,hm1⟩;have n1:=x1.next
  have o1:∀z,z<H.next->z≠m->H1.get z=H.get z:=λz hz hne=>x1.old z hz hne
  have W1:=x1.wf W;have l1:∀z∈H1.log,SB m b11 v0 z:=λz hz=>(x1.log z hz).elim (λq=>by rw[hL]at q;cases q) λq=> .inl q;have B1:BdH h0 H1 q m b8 b10 b11 b12 lo w l ns:=BH.step N W1 n1 (λz hz hne _=>o1 z (by omega) hne) ⟨mm1,gm1,hm1⟩;have g51:=(o1 h.next (by omega) (by omega)).trans g5;have g111:=(o1 b11 (by omega) (by omega)).trans g11H;have ow1:Own lo H1 3 v0 out.length (jt out):=tP owH n1 λz hz=>by
   have hz2:=jF owH hz;exact o1 z hz2.2 (by omega)
  clear g10H meq x1;refine Y5 ?_;refine cW (E0:=[(1, .pointer (some ⟨b10,0,none⟩)),(2, .pointer (some ⟨b8,0,none⟩)),(3, .pointer (some ⟨b11,0,none⟩)),(4, .pointer (some ⟨b12,0,none⟩)),(5, .pointer (some ⟨h.next,0,none⟩)),(7, .pointer (some ⟨H1.next,0,none⟩))]) (P:=λh'=>Ext H1 h'∧h'.next=H1.next+1/\h'.get H1.next=some (.cells [.slice none 0 0] true 1)) ?_ ?_
  ·refine Y2 ?_;refine bL ?_;refine y1 ?_;exact⟨rfl,rfl,rfl,(Ext.refl H1).push _,rfl,z3 _ _⟩
  rintro H2 ⟨x2,n2,g72⟩;have W2:=x2.wf W1;have B2:BdH h0 H2 q m b8 b10 b11 b12 lo w l ns:=B1.step N W2 x2.next (λz hz _ _=>x2.old z (by omega)) ⟨mm1,(x2.old m (by omega)).trans gm1,hm1⟩
  have g52:=(x2.old _ (by omega)).trans g51;have g82:=B2.g8;have C2:=AN F.bu.va.op (h:={H2 with log:=[]}) (.of W2) (.pointer (some ⟨q,0,none⟩)) f rfl;refine Y5 ?_;refine FW.al C2 (λv h' m q=>q) ?_;clear C2;rintro _ H3 x3 ⟨rfl,n3,gb1,gb2⟩;have n3:H3.next=H2.next+2:=n3
  have gb1:H3.get H2.next=some (.cells [.pointer (some ⟨q,0,none⟩)] true 1):=gb1
  have gb2:H3.get (H2.next+1)=some (.cells (fL f) true 1):=gb2;have x23:=x2.trans x3;have W3:=x3.wf W2;have B3:BdH h0 H3 q m b8 b10 b11 b12 lo w l ns:=B1.step N W3 x23.next (λz hz _ _=>x23.old z (by omega)) ⟨mm1,(x23.old m (by omega)).trans gm1,hm1⟩
  have g73:=(x3.old _ (by omega)).trans g72;have Q3:=B3.qu N hw0 Q0;generalize hfn:(.func (.func 45) #[] #[.pointer (some ⟨H2.next,0,none⟩), .pointer (some ⟨H2.next+1,0,none⟩)]:Value)=fn;generalize hL0:(.loop (bE (.pointer (some ⟨b10,0,none⟩)) (.pointer (some ⟨b8,0,none⟩)) (.pointer (some ⟨b11,0,none⟩)) (.pointer (some ⟨b12,0,none⟩)) (.pointer (some ⟨h.next,0,none⟩)) H1.next fn) [22] GU GW 0 .normal:bG)=L0;have Y:Cb T H1.next (H3.next+1) H3.next H1.next (λp=> .int .i64 ((p:Nat):Int)) (bD l.length f) (PAl H3.next H1.next H3 L0):=by
   rw[←hL0];exact O9 hp (by omega) (Nat.lt_of_le_of_lt (kr _ _) (by omega))
  rw[←hfn];refine Y2 ?_;refine Fu (lo:=H1.next) (P:=PAl H3.next H1.next H3 L0 (bD l.length f)) rfl (by rfl) (by rw[F.bu.va.op.f228];rfl) (by omega) (by omega) W3 ?_ (λHh p=>by
   have:=p.loop;rw[←hL0]at this;exact⟨_,_,_,_,this⟩) ?_
  ·have hL0':=hL0;rw[←hfn]at hL0';unfold bE GU GW at hL0';rw[hL0'];have o6:∀z,z<H3.next->(H3.push L0).get z=H3.get z:=λz hz=>z4 hz
   have Q6:QuH {H3.push L0 with log:=[]} q m w pv nv ov l os ns:=Q3.keep W3 (Nat.le_succ _) (λz hz _=>o6 z hz) ⟨mm1,(o6 m (by omega)).trans ((x23.old m (by omega)).trans gm1),hm1⟩;refine KE F.bu.va.op (h:={H3.push L0 with log:=[]}) (.of (W3.push L0)) Q6 hf (b1:=H2.next) (b2:=H2.next+1) ((o6 _ (by omega)).trans gb1) Y (Nat.le_refl _) (by show H1.next<=H3.next+1;omega) (λd Hh p=>(p.old _ (by omega) (by omega)).trans gb2) ⟨λz hz _=>o6 z hz,z3 _ _,⟨_,(o6 _ (by omega)).trans g73, .nil⟩,Nat.lt_succ_self _⟩
  intro h4 H4 k1 W4 k3 k4 k5 k6 hP;clear Y;refine Y2 ?_;obtain⟨vl,gl,owl⟩:=hP.ow;have g74:=(k5 H1.next (by omega)).trans gl;have ow4:Own (H3.next+1) H4 1 vl (bD l.length f).length (qv (bD l.length f)):=owl.keep (by omega) λz q1 q2=>k5 z (by omega);have old4:∀z,z<H1.next->H4.get z=H1.get z:=λz hz=>(k6 z hz).trans (x23.old z hz)
  have B4:BdH h0 H4 q m b8 b10 b11 b12 lo w l ns:=B1.step N W4 (by omega) (λz hz _ _=>old4 z (by omega)) ⟨mm1,(old4 m (by omega)).trans gm1,hm1⟩;have g54:=(old4 _ (by omega)).trans g51;have hL4:∀z∈H4.log,SB m b11 v0 z:=λz hz=>by
   rw[k1,x23.log]at hz;exact l1 z hz
  clear hP k5 k6 gl owl g73 B3 B2 Q3 gb1 gb2 g82 g52 g72 W2;refine cW (E0:=[(3, .pointer (some ⟨b11,0,none⟩)),(4, .pointer (some ⟨b12,0,none⟩)),(5, .pointer (some ⟨h.next,0,none⟩)),(7, .pointer (some ⟨H1.next,0,none⟩)),(9, .pointer (some ⟨H4.next,0,none⟩))]) (P:=λh'=>Ext H4 h'∧h'.next=H4.next+1/\h'.get H4.next=some (.cells [woV b8 b10 h.next] true 1)) ?_ ?_
  ·refine Y4 ?_;refine bL ?_;refine y1 ?_;exact⟨rfl,rfl,rfl,((Ext.refl H4).push _).wr (Nat.le_refl _) (by omega),rfl,Heap.aI (z3 _ _)⟩
  rintro H5 ⟨x5,n5,g95⟩;have W5:=x5.wf W4;have B5:BdH h0 H5 q m b8 b10 b11 b12 lo w l ns:=B4.step N W5 x5.next (λz hz _ _=>x5.old z (by omega)) ⟨mm1,(x5.old m (by omega)).trans ((old4 m (by omega)).trans gm1),hm1⟩
  have g55:=(x5.old _ (by omega)).trans g54;have g75:=(x5.old _ (by omega)).trans g74;have ow5:=ow4.ext x5;have Q5:=B5.qu N hw0 Q0;have hll:=kr l.length f;have hlpos:0<(bD l.length f).length:=List.length_pos_of_mem hbm;have C3:=KC F.bu (h:={H5 with log:=[]}) (.of W5) hc (Q5.log []) hf (b1:=b8) (b2:=b10) (b3:=h.next) (b9:=H4.next) B5.g8 B5.g10 g55 g95 (L:=bD l.length f) ((ow5.slice (by omega)).log []) (λp hp=>(gG.1 hp).1) (by omega);refine Y4 ?_;refine FW.gsL C3 (λv h' lg q=>q) ?_;clear C3;rintro _ H6 x6 ⟨rfl,mm6,gm6,hm6⟩;have n6:=x6.next
  have o6:∀z,z<H5.next->z≠m->H6.get z=H5.get z:=λz hz hne=>x6.old z hz hne
  have W6:=x6.wf W5;have B6:BdH h0 H6 q m b8 b10 b11 b12 lo w l ns:=B5.step N W6 n6 (λz hz hne _=>o6 z (by omega) hne) ⟨mm6,gm6,hm6⟩;have g56:=(o6 _ (by omega) (by omega)).trans g55;have old6:∀z,z<H1.next->z≠m->H6.get z=H1.get z:=λz hz hne=>(o6 z (by omega) hne).trans ((x5.old z (by omega)).trans (old4 z hz))
  have g116:=(old6 b11 (by omega) (by omega)).trans g111;have ow6:Own lo H6 3 v0 out.length (jt out):=tP ow1 (by omega) λz hz=>by
   have hz2:=jF ow hz;exact old6 z (by omega) (by omega)
  have hL6:∀z∈H6.log,SB m b11 v0 z:=λz hz=>(x6.log z hz).elim (λq=>by rw[x5.log]at q;exact hL4 z q) λq=> .inl q;clear x5 x6 o6 B5 B4 B1 g95 g75 g55 g54 g74 ow5 ow4 gm1 ow1 Q5;generalize fq (dO w l ns f) (bD l.length f)=b at*;have hol:out.length<1000000:=by omega
  obtain⟨va,vc,hv0⟩:=(ow6.slice (by omega)).form;subst hv0;refine Y6 ?_;refine cW (E0:=[(3, .pointer (some ⟨b11,0,none⟩)),(4, .pointer (some ⟨b12,0,none⟩)),(5, .pointer (some ⟨h.next,0,none⟩)),(10, .int .i64 (b:Nat)),(12, .int .i64 (out.length:Nat))]) (P:=λh'=>H6=h') ?_ ?_
  ·refine Y4 ?_;refine bL ?_;refine y1 ?_;exact⟨rfl,rfl,rfl,rfl⟩
  rintro _ rfl;refine cW (E0:=[(3, .pointer (some ⟨b11,0,none⟩)),(4, .pointer (some ⟨b12,0,none⟩)),(5, .pointer (some ⟨h.next,0,none⟩)),(10, .int .i64 (b:Nat)),(12, .int .i64 (out.length:Nat))]) (P:=λh'=>∃v2,(∀z,vB v2 z->H6.next<=z)/\Own lo h' 3 v2 (out++[⟨b,0,0⟩]:List Fk).length (jt (out++[⟨b,0,0⟩]))/\h'.get b11=some (.cells [v2] true 1)/\b11∈h'.log/\(∀z∈h'.log,SB m b11 (.slice va out.length vc) z)/\(∀z,z<H6.next->z≠b11->¬vB (.slice va out.length vc) z->h'.get z=H6.get z)/\WF h'∧H6.next<=h'.next) ?_ ?_
  ·refine Y5 ?_;refine WO.Hl ?_;intro hA hAe;have xA:Ext H6 hA:=by rw[hAe];exact(Ext.refl H6).push _
   have nA:hA.next=H6.next+1:=by rw[hAe];rfl
   have gA:hA.get H6.next=some (.cells [.int .i64 (b:Nat), .int .i64 0, .int .i64 0] true 3):=by rw[hAe];exact z3 _ _
   clear hAe;refine D0 (c1:=[.int .i64 (b:Nat), .int .i64 0, .int .i64 0]) (ow6.ext xA) hol (by omega) (by omega) (by exact rfl) (by exact rfl) (iN gA rfl rfl) rfl rfl ?_;intro H7 ow7 n7 lg7 w7 o7;have g117:H7.get b11=some (.cells [.slice va out.length vc] true 1):=(o7 b11 (by omega) (λq a c e e2=>by
    have:=jF ow6 ⟨a,c,e⟩;omega)).trans ((xA.old b11 (by omega)).trans g116)
   refine yS ?_;refine bL ?_;refine y1 ?_;exact⟨rfl,rfl,rfl,_,(λz ⟨a,c,e⟩=>by cases e;omega),((by rw[List.length_append,CH];exact ow7:Own hA.next H7 3 _ (out++[⟨b,0,0⟩]:List Fk).length (jt (out++[⟨b,0,0⟩]))).low (by omega)).keep (Nat.le_refl _) (λz hz _=>z5 (by omega)),Heap.aI g117,BS (by omega),(λz hz=>by
    rcases dw hz with rfl|hz
    ·exact .inr (.inl rfl)
    ·rcases lg7 z hz with hz|hz
     ·exact hL6 z (xA.log▸hz)
     ·exact .inr (.inr hz)),(λz hz hne hv=>(z5 hne).trans ((o7 z (by omega) λq a c e e2=>hv ⟨a,c,e2▸e⟩).trans (xA.old z hz))),(w7 (xA.wf W6)).as (AS.wr _ _ _ _),(by show H6.next<=H7.next;omega)⟩
  rintro H7 ⟨v2,hv2,ow7,g117,hm7,hL7,o7,W7,n7⟩;have hnv:∀z,z<lo->¬vB (.slice va out.length vc) z:=λz hz hv=>by
   have:=jF ow hv;omega
  have B7:BdH h0 H7 q m b8 b10 b11 b12 lo w l ns:=B6.step N W7 n7 (λz hz hne hne2=>o7 z (by omega) hne2 (hnv z hz)) ⟨mm6,(o7 m (by omega) (by omega) (hnv m (by omega))).trans gm6,hm6⟩;have g57:=(o7 h.next (by omega) (by omega) (λhv=>by
   have:=jF ow hv;omega)).trans g56
  have g127:=B7.g12;clear o7 B6 g56 g116 gm6 ow6 old4 old6 hL6 hL4 l1 g51 g5 o1 g111 W6 g11H owH W BH QH;have hbf:b<f.length:=by omega
  have hlt1:=mw (n:=l.length) (f:=f) (a:=1) hbf (by omega) hbm;have hlt2:=mw (n:=l.length) (f:=f) (a:=2) hbf (by omega) hbm;have hf1:(f.set b 1).length=8:=by rw[List.length_set];exact hf
  have hf2:(f.set b 2).length=8:=by rw[List.length_set];exact hf
  have hv12:bF w l ns (f.set b 1)<100000/\bF w l ns (f.set b 2)<100000:=by
   have h1:=(mW hc hbl).1;unfold dO at hbv;omega
  have hs1:=GF (w:=w) (l:=l) (ns:=ns) (k:=k) (f:=f.set b 1) (a:=out.length+1);have C4:=mF F.bu.va.op (h:={H7 with log:=[]}) (.of W7) hf (p:=b) (a:=1) (by omega);have I1:=ih (f:=f.set b 1) (h:={H7 with log:=[]}) (out:=out++[⟨b,0,0⟩]) (v0:=v2) hf1 (by omega) hv12.1 (.of W7) (B7.log []) g117 (ow7.log []) (by rw[List.length_append,List.length_singleton];omega);rw[show(out++[⟨b,0,0⟩]:List Fk).length=out.length+1 from by rw[List.length_append,List.length_singleton]]at I1;unfold buV at g127;generalize hR1:dL w l ns k (f.set b 1) (out.length+1)=R1 at*;refine Y6 ?_;refine FW.puD C4 (by(repeat apply aG rfl);apply ah rfl (aa rfl (bY (by exact rfl) (by assumption) (by exact rfl)) (by refine pT ?_ ?_;exact iI;refine di (iw _) ?_;refine di (iw _) ?_;refine di (iw _) ?_;refine di (iw _) ?_;exact iI)) rfl;exact bh) ?_;clear C4;skip;refine qC ?_;refine FW.RF I1 (λv h' lg ⟨q1,q2,v1,q3,q4,q5⟩=>⟨q1,q2,v1,q3,q4.log lg,q5⟩) ?_;clear I1;rintro _ H8 lg8 x8 hlg8 ⟨rfl,⟨mm8,gm8,hm8⟩,v3,g118,ow8,hv3⟩;have n8:=x8.next
  have W8:=x8.wf W7;have o8:∀z,z<lo->z≠m->z≠b11->H8.get z=H7.get z:=λz hz h1 h2=>x8.old z (by omega) λhS=>by
   rcases hS with e|e|e
   ·exact h1 e
   ·exact h2 e
   ·have:=hv2 z e;omega
  have B8:BdH h0 H8 q m b8 b10 b11 b12 lo w l ns:=B7.step N W8 n8 o8 ⟨mm8,gm8,hm8⟩;have g58:=(x8.old h.next (by omega) λhS=>by
   rcases hS with e|e|e
   ·omega
   ·omega
   ·have:=hv2 _ e;omega).trans g57
  have g128:=B8.g12;have hm8':=x8.RO _ hm7;have hL8:∀z∈H8.log,SB m b11 (.slice va out.length vc) z:=λz hz=>(x8.OB z hz).elim (hL7 z) λ⟨q,hb⟩=>by
   rcases q with e|e|e
   ·exact .inl e
   ·exact .inr (.inl e)
   ·have:=hv2 z e;omega
  have hv3':∀z,vB v3 z->H6.next<=z:=λz hz=>(hv3 z hz).elim (hv2 z) λe=>by
   have:H7.next<=z:=e
   omega
  refine⟨_,by apply aG rfl;exact bh,?_⟩;clear B7 g57 g127 ow7 g117 W7 hL7 hm7;have hs2:=GF (w:=w) (l:=l) (ns:=ns) (k:=k) (f:=f.set b 2) (a:=out.length+1+R1.2.length);have C5:=mF F.bu.va.op (h:={H8 with log:=[]}) (.of W8) hf (p:=b) (a:=2) (by omega);rw[←List.length_append]at ow8;have I2:=ih (f:=f.set b 2) (h:={H8 with log:=[]}) (out:=(out++[⟨b,0,0⟩])++R1.2) (v0:=v3) hf2 (by omega) hv12.2 (.of W8) (B8.log []) g118 (ow8.log []) (by rw[List.length_append,List.length_append,List.length_singleton];omega);rw[show((out++[⟨b,0,0⟩])++R1.2:List Fk).length=out.length+1+R1.2.length from by rw[List.length_append,List.length_append,List.length_singleton]]at I2;unfold buV at g128;generalize hR2:dL w l ns k (f.set b 2) (out.length+1+R1.2.length)=R2 at*;refine Y10 ?_;refine FW.puD C5 (by(repeat apply aG rfl);apply ah rfl (aa rfl (bY (by exact rfl) (by assumption) (by exact rfl)) (by refine pT ?_ ?_;exact iI;refine di (iw _) ?_;refine di (iw _) ?_;refine di (iw _) ?_;refine di (iw _) ?_;exact iI)) rfl;exact bh) ?_;clear C5;skip;refine qC ?_;refine FW.RF I2 (λv h' lg ⟨q1,q2,v1,q3,q4,q5⟩=>⟨q1,q2,v1,q3,q4.log lg,q5⟩) ?_;clear I2;rintro _ H9 lg9 x9 hlg9 ⟨rfl,⟨mm9,gm9,hm9⟩,v4,g119,ow9,hv4⟩;have n9:=x9.next
  have W9:=x9.wf W8;have hm9':=x9.RO _ hm8';have hL9:∀z∈H9.log,SB m b11 (.slice va out.length vc) z:=λz hz=>(x9.OB z hz).elim (hL8 z) λ⟨q,hb⟩=>by
   rcases q with e|e|e
   ·exact .inl e
   ·exact .inr (.inl e)
   ·have:=hv3' z e;omega
  have hv4':∀z,vB v4 z->H6.next<=z:=λz hz=>(hv4 z hz).elim (hv3' z) λe=>by
   have:H8.next<=z:=e
   omega
  refine⟨_,by apply aG rfl;exact bh,?_⟩;clear B8 g58 g128 ow8 g118 W8 hL8 x9 x8;rw[show((out++[⟨b,0,0⟩])++R1.2++R2.2:List Fk)=out++⟨b,0,0⟩::(R1.2++R2.2)from by simp]at ow9;obtain⟨nn,hnn⟩:∃nn,nn=((out++[⟨b,0,0⟩])++R1.2:List Fk).length+R2.2.length:=⟨_,rfl⟩;rw[←hnn]at ow9;rw[List.length_append,List.length_append,List.length_singleton]at hnn;generalize hcs:jt (out++⟨b,0,0⟩::(R1.2++R2.2))=cs at ow9;cases ow9 with
  |nil=>omega
  | @full q4 _ _ q1 q2 q3 q5 q6=>
  have hq4:=hv4' q4 ⟨_,_,rfl⟩;refine Y14 ?_;refine nF rfl rfl rfl (by exact rfl) (by exact rfl) (by exact rfl) (by assumption) (by exact rfl) (by exact rfl) (by omega) (by omega) (by omega) (by(repeat apply aG rfl);apply ah rfl (aa rfl (eG (by exact rfl)) (by exact dg _ _)) rfl;apply aG rfl;apply ah rfl (aa rfl (eG (by exact rfl)) (by exact dg _ _)) rfl;apply ah rfl (aa rfl (bY (by exact rfl) YG (by exact rfl)) (by exact eV _ _ _)) rfl;(repeat apply aG rfl);exact bh) ?_;refine Y2 ?_;refine nF rfl rfl rfl (by exact rfl) (by exact rfl) (by exact rfl) YG (by exact rfl) (by exact rfl) (by(simp only[aH,List.length_set];omega)) (by(simp only[z1,z2];omega)) (by omega) (by(repeat apply aG rfl);exact bh) ?_;refine Y8 ?_;have hfin:=Oj (a:=out) (c:=R1.2++R2.2) (p:=b) (y:=0) (z:=0) (y':=R1.1) (z':=R2.1);rw[hcs]at hfin;rw[hfin,e1];have hlw:((H9.wr h.next q4 (.cells (cs.set (0+out.length*3+1) (.int .i64 R1.1)) true 3)).wr h.next q4 (.cells (jt (out++⟨b,R1.1,R2.1⟩::(R1.2++R2.2))) true 3)).log=H9.log:=by rw[Heap.aB (by omega),Heap.aB (by omega)]
  have old:∀z,z≠q4->((H9.wr h.next q4 (.cells (cs.set (0+out.length*3+1) (.int .i64 R1.1)) true 3)).wr h.next q4 (.cells (jt (out++⟨b,R1.1,R2.1⟩::(R1.2++R2.2))) true 3)).get z=H9.get z:=λz hz=>(z5 hz).trans (z5 hz);have g11e:=(old b11 (by omega)).trans g119;refine qf (λz hz=>hL9 z (hlw▸hz)) rfl ⟨rfl,⟨mm9,(old m (by omega)).trans gm9,hm9⟩,_,g11e,?_,λz ⟨a,c,e⟩=> .inr (by cases e;omega)⟩ (.inl ⟨b11,by omega,by rw[hlw];exact hm9',_,_,_,g11e,rfl⟩);have:=Own.full (lo:=lo) (sz:=3) (n:=nn) q1 (h:=(H9.wr h.next q4 (.cells (cs.set (0+out.length*3+1) (.int .i64 R1.1)) true 3)).wr h.next q4 (.cells (jt (out++⟨b,R1.1,R2.1⟩::(R1.2++R2.2))) true 3)) q2 (Heap.aI (Heap.aI q3)) (by rw[j8];simp only[List.length_append,List.length_cons];omega) q6;rw[show out.length+(⟨b,R1.1,R2.1⟩::(R1.2++R2.2):List Fk).length=nn from by simp only[List.length_append,List.length_cons];omega];exact this
end Go.A.Pk
end
section
namespace Go.A.Pk
structure Sta where
 found:List Nat
 cost:Int
def lkS(s:List Sta)(g:List Nat):Int:=match s.find? (λx=>decide (cO x.found=g))with|some x=>x.cost|none=>0
def j9(f:List Nat):Nat:=f.foldl (λn k=>3*n+k) 0
theorem wC:∀(f:List Nat) (a:Nat),f.foldl (λn k=>3*n+k) a=3 ^ f.length*a+j9 f
 |[],a=>by simp[j9]
 |k::f,a=>by
  have e:j9 (k::f)=f.foldl (λn k=>3*n+k) (3*0+k):=rfl;rw[List.foldl_cons,wC f,e,wC f (3*0+k),List.length_cons,Nat.pow_succ,Nat.mul_add,←Nat.mul_assoc];rw[Nat.mul_add (3 ^ f.length) (3*0) k];omega
theorem wB(k:Nat)(f:List Nat):j9 (k::f)=3 ^ f.length*k+j9 f:=by
 have e:j9 (k::f)=f.foldl (λn k=>3*n+k) (3*0+k):=rfl;rw[e,wC];simp
theorem Ew:∀{f:List Nat},(∀k∈f,k<=2)->j9 f<3 ^ f.length
 |[],_=>by decide
 |k::f,h=>by
  have h1:=Ew (f:=f) λx hx=>h x (List.mem_cons_of_mem _ hx);have h2:=h k List.mem_cons_self;rw[wB,List.length_cons,Nat.pow_succ];have:3 ^ f.length*k<=3 ^ f.length*2:=Nat.mul_le_mul_left _ h2;omega
def AO:List Nat->List Nat->Bool
 |[],[]=>false
 |[],_::_=>true
 |_::_,[]=>false
 |a::f,b::g=>if a<b then true else if b<a then false else AO f g
theorem AP:∀{f g:List Nat},f.length=g.length->(∀k∈f,k<=2)->(∀k∈g,k<=2)->(AO f g=true↔j9 f<j9 g)
 |[],[],_,_,_=>by simp[AO,j9]
 |[],_::_,h,_,_=>by simp at h
 |_::_,[],h,_,_=>by simp at h
 |a::f,b::g,h,h1,h2=>by
  have hl:f.length=g.length:=by simpa using h
  have ih:=AP hl (λx hx=>h1 x (List.mem_cons_of_mem _ hx)) (λx hx=>h2 x (List.mem_cons_of_mem _ hx));have b1:=Ew (f:=f) λx hx=>h1 x (List.mem_cons_of_mem _ hx);have b2:=Ew (f:=g) λx hx=>h2 x (List.mem_cons_of_mem _ hx);rw[wB,wB,←hl];rw[←hl]at b2;unfold AO;by_cases q1:a<b
  ·rw[if_pos q1];have:3 ^ f.length*(a+1)<=3 ^ f.length*b:=Nat.mul_le_mul_left _ q1;rw[Nat.mul_succ]at this;simp only[true_iff];omega
  ·rw[if_neg q1];by_cases q2:b<a
   ·rw[if_pos q2];have:3 ^ f.length*(b+1)<=3 ^ f.length*a:=Nat.mul_le_mul_left _ q2;rw[Nat.mul_succ]at this;simp only[Bool.false_eq_true,false_iff];omega
   ·rw[if_neg q2];obtain rfl:a=b:=by omega
    rw[ih];omega
section
variable (w:List Nat×List Nat) (l:List Pb) (ns:List (List (List Nat)))
def F5(s:List Sta):Prop:=(∀x∈s,x.found.length=l.length/\(∀k∈x.found,k<=2)/\1<=x.cost/\x.cost<=100000)/\∀(i:Nat) x y,s[i]? =some x->s[i+1]? =some y->j9 x.found<j9 y.found
def th(lk:List Nat->Int)(f:List Nat)(c:Int)(p a:Nat):Bool:=bsB w (l.zip (f.set p a))&&(decide (c<=dK l p)||decide (c-dK l p<=lk (f.set p a)))
def qq(lk:List Nat->Int)(f:List Nat)(c:Int):Bool:=(bD l.length f).all λp=>th w l lk f c p 1||th w l lk f c p 2
def NN(s:List Sta)(cost:Int):Prop:=F5 l s/\(∀x∈s,fG w l ns (cO x.found)=true/\qq w l (lkS s) (cO x.found) x.cost=true)/\(cost<=0∨cost<=lkS s z8)
end
section
variable {w:List Nat×List Nat} {l:List Pb} {ns:List (List (List Nat))}
def iE(w:List Nat×List Nat)(l:List Pb)(ns:List (List (List Nat))):Nat->Nat->List Nat->List (List Nat)
 |0,_,f=>if fG w l ns f then [f]else []
 |k+1,i,f=>iE w l ns k (i+1) (f.set i 0)++(iE w l ns k (i+1) (f.set i 1)++iE w l ns k (i+1) (f.set i 2))
def An(w:List Nat×List Nat)(l:List Pb)(ns:List (List (List Nat))):List Sta:=(iE w l ns l.length 0 z8).map λf=>⟨f.take l.length,bF w l ns f⟩
theorem uY:∀{k i:Nat} {f g:List Nat},i+k<=f.length->(g∈iE w l ns k i f↔fG w l ns g=true/\g.length=f.length/\(∀j,j<i->g.getD j 0=f.getD j 0)/\(∀j,i<=j->j<i+k->g.getD j 0<=2)/\∀j,i+k<=j->g.getD j 0=f.getD j 0):=by
 intro k;induction k with
 |zero=>
  intro i f g _;unfold iE;by_cases ho:fG w l ns f=true
  ·rw[if_pos ho,List.mem_singleton];constructor
   ·rintro rfl;exact⟨ho,rfl,λ_ _=>rfl,λj h1 h2=>by omega,λ_ _=>rfl⟩
   ·rintro⟨h1,h2,h3,_,h5⟩;refine List.ext_getElem h2 λj hj1 hj2=> ?_;have:g.getD j 0=f.getD j 0:=by
     rcases Nat.lt_or_ge j i with q|q
     ·exact h3 j q
     ·exact h5 j q
    rw[List.getD_eq_getElem?_getD,List.getD_eq_getElem?_getD,List.getElem?_eq_getElem hj1,List.getElem?_eq_getElem hj2]at this;exact this
  ·rw[if_neg ho];constructor
   ·intro q;cases q
   ·rintro⟨h1,h2,h3,_,h5⟩;exfalso;apply ho;have e:g=f:=by
     refine List.ext_getElem h2 λj hj1 hj2=> ?_;have:g.getD j 0=f.getD j 0:=by
      rcases Nat.lt_or_ge j i with q|q
      ·exact h3 j q
      ·exact h5 j q
     rw[List.getD_eq_getElem?_getD,List.getD_eq_getElem?_getD,List.getElem?_eq_getElem hj1,List.getElem?_eq_getElem hj2]at this;exact this
    rw[←e];exact h1
 |succ k ih=>
  intro i f g hik;have hlen:∀a,(f.set i a).length=f.length:=λa=>List.length_set;have hget:∀a j,(f.set i a).getD j 0=if j=i then a else f.getD j 0:=λa j=>rZ (by omega)
  have hone:∀a,g∈iE w l ns k (i+1) (f.set i a)↔fG w l ns g=true/\g.length=f.length/\(∀j,j<i->g.getD j 0=f.getD j 0)/\g.getD i 0=a/\(∀j,i+1<=j->j<i+1+k->g.getD j 0<=2)/\∀j,i+1+k<=j->g.getD j 0=f.getD j 0:=λa=>by
   rw[ih (by rw[hlen];omega),hlen];constructor
   ·rintro⟨h1,h2,h3,h4,h5⟩;refine⟨h1,h2,λj hj=> ?_,?_,h4,λj hj=> ?_⟩
    ·rw[h3 j (by omega),hget,if_neg (by omega)]
    ·rw[h3 i (by omega),hget,if_pos rfl]
    ·rw[h5 j hj,hget,if_neg (by omega)]
   ·rintro⟨h1,h2,h3,h4,h5,h6⟩;refine⟨h1,h2,λj hj=> ?_,h5,λj hj=> ?_⟩
    ·rw[hget];by_cases q:j=i
     ·rw[if_pos q,q,h4]
     ·rw[if_neg q,h3 j (by omega)]
    ·rw[hget,if_neg (by omega),h6 j hj]
  unfold iE;rw[List.mem_append,List.mem_append,hone,hone,hone];constructor
  ·rintro(⟨h1,h2,h3,h4,h5,h6⟩|⟨h1,h2,h3,h4,h5,h6⟩|⟨h1,h2,h3,h4,h5,h6⟩)<;>
   ·refine⟨h1,h2,h3,λj hj1 hj2=> ?_,λj hj=>h6 j (by omega)⟩;by_cases q:j=i
    ·subst q;omega
    ·exact h5 j (by omega) (by omega)
  ·rintro⟨h1,h2,h3,h4,h5⟩;have h6:=h4 i (Nat.le_refl _) (by omega);have r1:∀j,i+1<=j->j<i+1+k->g.getD j 0<=2:=λj a b=>h4 j (by omega) (by omega);have r2:∀j,i+1+k<=j->g.getD j 0=f.getD j 0:=λj a=>h5 j (by omega);have:g.getD i 0=0∨g.getD i 0=1∨g.getD i 0=2:=by omega
   rcases this with q|q|q
   ·exact .inl ⟨h1,h2,h3,q,r1,r2⟩
   ·exact .inr (.inl ⟨h1,h2,h3,q,r1,r2⟩)
   ·exact .inr (.inr ⟨h1,h2,h3,q,r1,r2⟩)
theorem Ot:∀{k i:Nat} {f:List Nat},i+k<=f.length->(∀g∈iE w l ns k i f,3 ^ k*j9 (f.take i)<=j9 (g.take (i+k))/\j9 (g.take (i+k))<3 ^ k*(j9 (f.take i)+1))/\(iE w l ns k i f).Pairwise λa b=>j9 (a.take (i+k))<j9 (b.take (i+k)):=by
 intro k;induction k with
 |zero=>
  intro i f _;unfold iE;split
  ·refine⟨λg hg=> ?_,List.pairwise_singleton _ _⟩;rw[List.mem_singleton]at hg;subst hg;rw[Nat.add_zero,Nat.pow_zero];omega
  ·exact⟨λg hg=>(by cases hg),List.Pairwise.nil⟩
 |succ k ih=>
  intro i f hik;have hi:i<f.length:=by omega
  have ht:∀a,(f.set i a).take (i+1)=f.take i++[a]:=λa=>by
   rw[List.take_succ_eq_append_getElem (by rw[List.length_set];exact hi),List.getElem_set_self,List.take_set_of_le (Nat.le_refl _)]
  have hx:∀a,j9 ((f.set i a).take (i+1))=3*j9 (f.take i)+a:=λa=>by
   rw[ht];unfold j9;rw[List.foldl_append];rfl
  have one:=λa=>ih (i:=i+1) (f:=f.set i a) (by rw[List.length_set];omega);simp only[hx,show i+1+k=i+(k+1)by omega]at one;obtain⟨p0,q0⟩:=one 0;obtain⟨p1,q1⟩:=one 1;obtain⟨p2,q2⟩:=one 2;generalize j9 (f.take i)=X at*;have e0:3 ^ (k+1)*X=3 ^ k*(3*X+0):=by rw[Nat.pow_succ,Nat.mul_assoc];rfl
  have e1:3 ^ k*(3*X+0+1)=3 ^ k*(3*X+1):=rfl;have e2:3 ^ k*(3*X+1+1)=3 ^ k*(3*X+2):=rfl;have e3:3 ^ (k+1)*(X+1)=3 ^ k*(3*X+2+1):=by rw[Nat.pow_succ,Nat.mul_assoc];rfl
  have m1:3 ^ k*(3*X+0)<=3 ^ k*(3*X+1):=Nat.mul_le_mul_left _ (by omega);have m2:3 ^ k*(3*X+1)<=3 ^ k*(3*X+2):=Nat.mul_le_mul_left _ (by omega);have m3:3 ^ k*(3*X+2)<=3 ^ k*(3*X+2+1):=Nat.mul_le_mul_left _ (by omega);rw[e1]at p0;rw[e2]at p1;rw[e0,e3];unfold iE;refine⟨λg hg=> ?_,?_⟩
  ·rcases List.mem_append.1 hg with hg|hg
   ·have:=p0 g hg;omega
   ·rcases List.mem_append.1 hg with hg|hg
    ·have:=p1 g hg;omega
    ·have:=p2 g hg;omega
  ·refine List.pairwise_append.2 ⟨q0,List.pairwise_append.2 ⟨q1,q2,λa ha b hb=> ?_⟩,λa ha b hb=> ?_⟩
   ·have:=p1 a ha;have:=p2 b hb;omega
   ·have:=p0 a ha;rcases List.mem_append.1 hb with hb|hb
    ·have:=p1 b hb;omega
    ·have:=p2 b hb;omega
theorem NU(hw:IsW w)(hl:∀p∈l,IsS p.cells){f:List Nat}(hf:l.length<=f.length)(hcan:bsB w (l.zip f)=true){p:Nat}(hp:p∈bD l.length f):bsB w (l.zip (f.set p 1))=true∨bsB w (l.zip (f.set p 2))=true:=by
 obtain⟨hpl,hp0⟩:=gG.1 hp;have hzf:=pX (f:=f) hl;have hb:=nO hw.a hzf;unfold bsB at hcan;rw[Bool.and_eq_true]at hcan;have hsub:Sub (bsS w.1 (l.zip f)) w.2:=(dP hb hw.b).1 hcan.1;have hal:=uS.1 hcan.2;have hat:∀(i:Nat) (a:Nat) x,(l.zip (f.set p a))[i]? =some x->(i=p/\l[p]? =some x.1/\x.2=a)∨(i≠p/\(l.zip f)[i]? =some x):=λi a x h=>by
  obtain⟨q1,q2⟩:=List.getElem?_zip_eq_some.1 h;rw[List.getElem?_set]at q2;by_cases e:p=i
  ·subst e;rw[if_pos rfl,if_pos (by omega)]at q2;exact .inl ⟨rfl,q1,(Option.some.inj q2).symm⟩
  ·rw[if_neg e]at q2;exact .inr ⟨λq=>e q.symm,List.getElem?_zip_eq_some.2 ⟨q1,q2⟩⟩
 have hmem:∀(a:Nat) x,x∈l.zip (f.set p a)->(l[p]? =some x.1/\x.2=a)∨x∈l.zip f:=λa x hx=>by
  obtain⟨i,hi⟩:=List.mem_iff_getElem?.1 hx;rcases hat i a x hi with q|q
  ·exact .inl q.2
  ·exact .inr (List.mem_of_getElem? q.2)
 obtain⟨y,hy⟩:∃y,l[p]? =some y:=⟨l[p],List.getElem?_eq_getElem hpl⟩;have hys:=hl y (List.mem_of_getElem? hy);cases hin:sIn y.cells (bsS w.1 (l.zip f))with
 |true=>
  left;have hz1:=pX (f:=f.set p 1) hl;have hb1:=nO hw.a hz1;have hle:Sub (bsS w.1 (l.zip (f.set p 1))) (bsS w.1 (l.zip f)):=mU hw.a hz1 (rN hw.a hzf) λx hx hk=>by
   rcases hmem 1 x hx with⟨q,_⟩|q
   ·rw[hy]at q;cases q;exact(dP hys hb).1 hin
   ·exact uU hw.a hzf x q hk
  unfold bsB;rw[(dP hb1 hw.b).2 (hle.trans hsub),Bool.true_and,uS];intro x hx hk;rcases hmem 1 x hx with⟨_,q⟩|q
  ·omega
  ·have h1:=hal x q hk;cases h2:sIn x.1.cells (bsS w.1 (l.zip (f.set p 1)))with
   |false=>rfl
   |true=>
    have h3:=(dP (hz1 x hx) hb1).1 h2;rw[(dP (hz1 x hx) hb).2 (h3.trans hle)]at h1;cases h1
 |false=>
  right;have hz1:=pX (f:=f.set p 2) hl;have hb1:=nO hw.a hz1;have hle:Sub (bsS w.1 (l.zip (f.set p 2))) (bsS w.1 (l.zip f)):=mU hw.a hz1 (rN hw.a hzf) λx hx hk=>by
   rcases hmem 2 x hx with⟨_,q⟩|q
   ·omega
   ·exact uU hw.a hzf x q hk
  unfold bsB;rw[(dP hb1 hw.b).2 (hle.trans hsub),Bool.true_and,uS];intro x hx hk;cases h2:sIn x.1.cells (bsS w.1 (l.zip (f.set p 2)))with
  |false=>rfl
  |true=>
   have h3:=(dP (hz1 x hx) hb1).1 h2;have h4:=(dP (hz1 x hx) hb).2 (h3.trans hle);rcases hmem 2 x hx with⟨q,_⟩|q
   ·rw[hy]at q;have e:=Option.some.inj q;rw[e,h4]at hin;cases hin
   ·rw[hal x q hk]at h4;cases h4
theorem Dr{f:List Nat}(h:fG w l ns f=true):bsB w (l.zip f)=true:=by
 unfold fG at h;rw[Bool.and_eq_true]at h;exact h.1
theorem xk{n:Nat}(hn:n<=8){g:List Nat}(hg:g.length=8)(h0:∀j,n<=j->g.getD j 0=0):cO (g.take n)=g:=by
 refine List.ext_getElem (by rw[iG (by rw[List.length_take];omega),hg]) λj hj1 hj2=> ?_;have e1:(cO (g.take n))[j]? =g[j]? :=by
  unfold cO;rcases Nat.lt_or_ge j n with q|q
  ·rw[List.getElem?_append_left (by rw[List.length_take];omega),List.getElem?_take_of_lt q]
  ·rw[List.getElem?_append_right (by rw[List.length_take];omega),List.getElem?_replicate,List.length_take,if_pos (by omega)];have:=h0 j q;rw[List.getD_eq_getElem?_getD,List.getElem?_eq_getElem hj2]at this;rw[List.getElem?_eq_getElem hj2];exact congrArg some this.symm
 rw[List.getElem?_eq_getElem hj1,List.getElem?_eq_getElem hj2]at e1;exact Option.some.inj e1
theorem s9(j:Nat):z8.getD j 0=0:=by
 rcases Nat.lt_or_ge j 8 with q|q
 ·rw[List.getD_eq_getElem?_getD,VG q];rfl
 ·rw[List.getD_eq_getElem?_getD,List.getElem?_eq_none (by exact q)];rfl
theorem Jc(hl:l.length<=8){g:List Nat}(hg:g.length=8)(hd:∀j,j<l.length->g.getD j 0<=2)(hz:∀j,l.length<=j->g.getD j 0=0)(ho:fG w l ns g=true):lkS (An w l ns) g=bF w l ns g:=by
 have hm:g∈iE w l ns l.length 0 z8:=(uY (by rw[Nat.zero_add];exact hl)).2 ⟨ho,hg,λj hj=>by omega,λj _ hj=>hd j (by omega),λj hj=>by rw[hz j (by omega),s9]⟩;unfold lkS;cases hq:(An w l ns).find? (λx=>decide (cO x.found=g))with
 |none=>
  exfalso;rw[List.find?_eq_none]at hq;have:=hq ⟨g.take l.length,bF w l ns g⟩ (List.mem_map.2 ⟨g,hm,rfl⟩);rw[xk hl hg hz]at this;simp at this
 |some x=>
  have h1:=List.mem_of_find?_eq_some hq;have h2:cO x.found=g:=by simpa using List.find?_some hq
  obtain⟨g',hg',rfl⟩:=List.mem_map.1 h1;obtain⟨_,r2,_,_,r5⟩:=(uY (by rw[Nat.zero_add];exact hl)).1 hg';have:g'=g:=by
   rw[←h2];exact(xk hl r2 λj hj=>by rw[r5 j (by omega),s9]).symm
  rw[this]
theorem NO(hw:IsW w)(hps:∀p∈l,IsS p.cells)(hc:∀p∈l,1<=p.cost/\p.cost<=1000)(hl:l.length<=8){cost:Int}(hcost:cost<=bF w l ns z8):NN w l ns (An w l ns) cost:=by
 have hgen:∀g∈iE w l ns l.length 0 z8,fG w l ns g=true/\g.length=8/\(∀j,j<l.length->g.getD j 0<=2)/\∀j,l.length<=j->g.getD j 0=0:=λg hg=>by
  obtain⟨r1,r2,_,r4,r5⟩:=(uY (by rw[Nat.zero_add];exact hl)).1 hg;exact⟨r1,r2,λj hj=>r4 j (Nat.zero_le _) (by omega),λj hj=>by rw[r5 j (by omega),s9]⟩
 have hv:∀g∈iE w l ns l.length 0 z8,1<=bF w l ns g/\bF w l ns g<=100000:=λg hg=>by
  obtain⟨r1,r2,_,_⟩:=hgen g hg;exact⟨(jr hc (by omega)).1.1 r1,(jg (w:=w) (ns:=ns) (hc0 hc) g).2⟩
 refine⟨⟨λx hx=> ?_,λi x y hx hy=> ?_⟩,λx hx=> ?_,?_⟩
 ·obtain⟨g,hg,rfl⟩:=List.mem_map.1 hx;obtain⟨r1,r2,r3,r4⟩:=hgen g hg;refine⟨by dsimp only;rw[List.length_take];omega,λk hk=> ?_,hv g hg⟩;obtain⟨j,hj⟩:=List.mem_iff_getElem?.1 hk;have hjl:=(List.getElem?_eq_some_iff.1 hj).1;rw[List.length_take]at hjl;rw[List.getElem?_take_of_lt (by omega)]at hj;have:=r3 j (by omega);rw[List.getD_eq_getElem?_getD,hj]at this;exact this
 ·unfold An at hx hy;rw[List.getElem?_map]at hx hy;obtain⟨a,ha,rfl⟩:=Option.map_eq_some_iff.1 hx;obtain⟨b,hb,rfl⟩:=Option.map_eq_some_iff.1 hy;have hp:=(Ot (w:=w) (l:=l) (ns:=ns) (k:=l.length) (i:=0) (f:=z8) (by rw[Nat.zero_add];exact hl)).2;obtain⟨h1,e1⟩:=List.getElem?_eq_some_iff.1 ha;obtain⟨h2,e2⟩:=List.getElem?_eq_some_iff.1 hb;have:=List.pairwise_iff_getElem.1 hp i (i+1) h1 h2 (by omega);rw[e1,e2,Nat.zero_add]at this;exact this
 ·obtain⟨g,hg,rfl⟩:=List.mem_map.1 hx;obtain⟨r1,r2,r3,r4⟩:=hgen g hg;dsimp only;rw[xk hl r2 r4];refine⟨r1,List.all_eq_true.2 λp hp=> ?_⟩;have hpl:=(gG.1 hp).1;have e:=vq (w:=w) (l:=l) (ns:=ns) (f:=g) (by omega);rw[r1,if_pos rfl]at e;have e2:=EG (λp=>dK l p+max (bF w l ns (g.set p 1)) (bF w l ns (g.set p 2))) (c:=100000) hp;rw[←e]at e2;have hbd:=λa=>(jg (w:=w) (ns:=ns) (hc0 hc) (g.set p a)).1;have hset:∀a,(g.set p a).length=8:=λa=>by rw[List.length_set];exact r2
  have key:∀a,a<=2->bsB w (l.zip (g.set p a))=true->bF w l ns g<=dK l p+bF w l ns (g.set p a)->th w l (lkS (An w l ns)) g (bF w l ns g) p a=true:=λa ha hcan hle=>by
   unfold th;rw[hcan,Bool.true_and,Bool.or_eq_true,decide_eq_true_eq,decide_eq_true_eq];by_cases hz:bF w l ns (g.set p a)=0
   ·left;omega
   ·right;rw[Jc hl (hset a) (λj hj=> ?_) (λj hj=> ?_) ((jr hc (by rw[hset];exact hl)).1.2 (by have:=hbd a;omega))]
    ·omega
    ·rw[rZ (by omega)];split
     ·exact ha
     ·exact r3 j hj
    ·rw[rZ (by omega),if_neg (by omega)];exact r4 j hj
  have hopen:∀a,1<=bF w l ns (g.set p a)->bsB w (l.zip (g.set p a))=true:=λa h=>Dr ((jr hc (by rw[hset];exact hl)).1.2 h);have hb1:=hbd 1;have hb2:=hbd 2;rw[Bool.or_eq_true];by_cases q1:1<=bF w l ns (g.set p 1)/\bF w l ns (g.set p 2)<=bF w l ns (g.set p 1)
  ·exact .inl (key 1 (by omega) (hopen 1 q1.1) (by omega))
  ·by_cases q2:1<=bF w l ns (g.set p 2)
   ·exact .inr (key 2 (by omega) (hopen 2 q2) (by omega))
   ·rcases NU hw hps (by omega) (Dr r1) hp with q|q
    ·exact .inl (key 1 (by omega) q (by omega))
    ·exact .inr (key 2 (by omega) q (by omega))
 ·by_cases hz:bF w l ns z8=0
  ·left;omega
  ·right;have h0:=(jg (w:=w) (ns:=ns) (hc0 hc) z8).1;rw[Jc hl rfl (λj _=>by rw[s9];omega) (λj _=>s9 j) ((jr (w:=w) (ns:=ns) (f:=z8) hc hl).1.2 (by omega))];exact hcost
end
end Go.A.Pk
end
section
namespace Go.A
variable {T:Nat->Option an} {base:Nat} {rnd:Option Nat} {Q:XQ} {e:Env} {ds:Dfs} {h:Heap}
theorem FW.WQ{f:Nat}{args:List Value}{S:Nat->Prop}{Q':Value->Heap->Prop}{K:List Rec->Env->Heap->Prop}{mask:Nat}{rs:List Rec}{dst:Option Nat}(H:Gs T f args {h with log:=[]} S Q')
 (hK:∀v h' lg,WsL base S h h'→(∀z∈lg,S z)->(∀z∈lg,z<base->z∈h'.log)->Q' v {h' with log:=lg}->∃rs',bC h' base lg mask rs=some rs'∧K rs' (cC e dst v) h'):FW T (.func f) args {h with log:=[]} (KD K base mask rs dst e h.log):=by
 refine .func (CW.mono H ?_);rintro r h2 ⟨hx,v,rfl,hq⟩;obtain⟨rs',q1,q2⟩:=hK v {h2 with log:=aC base h.log h2.log} h2.log hx.JA (λz hz=>(hx.log z hz).elim (λq=>by cases q) id) (λz hz hb=>mem_merge hb hz) hq;refine⟨?_⟩;show kD K base mask rs dst e h.log (.ret v) h2;unfold kD;simp only[q1];exact q2
end Go.A
namespace Go.A.Pk
variable {T:Nat->Option an}
def fsL(L:List (List Nat)):List Value:=L.flatMap fL
theorem Om(a b:List (List Nat)):fsL (a++b)=fsL a++fsL b:=by unfold fsL;rw[List.flatMap_append]
theorem On(f:List Nat):fsL [f]=fL f:=by unfold fsL;simp
def Bc(w:List Nat×List Nat)(l:List Pb)(ns:List (List (List Nat)))(k i:Nat)(f:List Nat)(j:Nat):List (List Nat):=(List.range j).flatMap λa=>iE w l ns k (i+1) (f.set i a)
theorem ny{w:List Nat×List Nat}{l:List Pb}{ns:List (List (List Nat))}{k i:Nat}{f:List Nat}{j:Nat}:Bc w l ns k i f (j+1)=Bc w l ns k i f j++iE w l ns k (i+1) (f.set i j):=by
 unfold Bc;rw[List.range_succ,List.flatMap_append];simp
theorem Ma{w:List Nat×List Nat}{l:List Pb}{ns:List (List (List Nat))}{k i:Nat}{f:List Nat}:Bc w l ns k i f 3=iE w l ns (k+1) i f:=by
 rw[ny,ny,ny];show([]++_++_)++_=_;rw[iE,List.nil_append,List.append_assoc]
theorem AG{w:List Nat×List Nat}{l:List Pb}{ns:List (List (List Nat))}:∀{k i:Nat} {f:List Nat},(iE w l ns k i f).length<=3 ^ k:=by
 intro k;induction k with
 |zero=>intro i f;unfold iE;split<;>simp
 |succ k ih=>
  intro i f;have h1:=ih (i:=i+1) (f:=f.set i 0);have h2:=ih (i:=i+1) (f:=f.set i 1);have h3:=ih (i:=i+1) (f:=f.set i 2);rw[iE,List.length_append,List.length_append,Nat.pow_succ];omega
theorem DD{w:List Nat×List Nat}{l:List Pb}{ns:List (List (List Nat))}{k i:Nat}{f:List Nat}:∀j,(Bc w l ns k i f j).length<=j*3 ^ k
 |0=>by simp[Bc]
 |j+1=>by
  have h1:=DD (w:=w) (l:=l) (ns:=ns) (k:=k) (i:=i) (f:=f) j;have h2:=AG (w:=w) (l:=l) (ns:=ns) (k:=k) (i:=i+1) (f:=f.set i j);rw[ny,List.length_append,Nat.add_mul];omega
theorem JX{h:Heap}{e:Env}{z cs:List Value}{k:Nat}{x:Operand}(hc:cs.length=k)(hz:z.length=k)(hx:ev h e x=some (.agg cs.toArray)):iW h e z [(0,k,x)]=some cs:=by
 have e1:cellsOf (.agg cs.toArray)=cs:=by show cs.toArray.toList=_;simp
 have e2:cU z 0 cs=cs:=by rw[eY (by omega),hc,List.take_zero,List.drop_eq_nil_of_le (by omega)];simp
 simp only[iW,hx,e1,e2,bS,hc,hz,beq_eq,ble_eq,Nat.zero_add];simp
theorem Du{lo sz n:Nat}{h h':Heap}{v:Value}{cs:List Value}(s:Own lo h sz v n cs)(ha:∀z,vB v z->z<h'.next/\h'.get z=h.get z):Own lo h' sz v n cs:=by
 cases s with
 |nil=>exact .nil
 |full h1 h2 h3 h4 h5=>exact .full h1 (ha _ ⟨_,_,rfl⟩).1 ((ha _ ⟨_,_,rfl⟩).2.trans h3) h4 h5
structure I5 (T:Nat->Option an):Prop where
 op:uf T
 f153:T 31=some f153
 f230:T 60=some f230
structure GnN (h0:Heap) (lo b1 b3 b4:Nat):Prop where
 l1:h0.next<=b1/\b1<lo
 l3:h0.next<=b3/\b3<lo
 l4:h0.next<=b4/\b4<lo
 d1:b1≠b3
 d4:b4≠b3
def gnV(b1 b3 b4:Nat):Value:= .func (.func 60) #[] #[.pointer (some ⟨b1,0,none⟩), .pointer (some ⟨b3,0,none⟩), .pointer (some ⟨b4,0,none⟩)]
structure GnH (h0 h:Heap) (q b1 b3 b4 lo:Nat):Prop where
 wf:WF h
 nx:lo<=h.next
 old:∀z,z<h0.next->h.get z=h0.get z
 g1:h.get b1=some (.cells [.pointer (some ⟨q,0,none⟩)] true 1)
 g4:h.get b4=some (.cells [gnV b1 b3 b4] true 1)
theorem GnH.log{h0 h:Heap}{q b1 b3 b4 lo:Nat}(G:GnH h0 h q b1 b3 b4 lo)(k:List Nat):GnH h0 {h with log:=k} q b1 b3 b4 lo:=⟨G.wf.log k,G.nx,G.old,G.g1,G.g4⟩
theorem GnH.step{h0 h h':Heap}{q b1 b3 b4 lo:Nat}(G:GnH h0 h q b1 b3 b4 lo)(N:GnN h0 lo b1 b3 b4)(hw:WF h')(hn:h.next<=h'.next)(ha:∀z,z<lo->z≠b3->h'.get z=h.get z):GnH h0 h' q b1 b3 b4 lo:=by
 obtain⟨⟨a1,a2⟩,⟨a3,a4⟩,⟨a5,a6⟩,d1,d2⟩:=N;exact⟨hw,Nat.le_trans G.nx hn,λz hz=>(ha z (by omega) (by omega)).trans (G.old z hz),(ha b1 a2 d1).trans G.g1,(ha b4 a6 d2).trans G.g4⟩
theorem GnH.qu{h0 h:Heap}{q m b1 b3 b4 lo:Nat}{w:List Nat×List Nat}{pv nv ov:Value}{l:List Pb}{os:List (List Nat)}{ns:List (List (List Nat))}(G:GnH h0 h q b1 b3 b4 lo)(N:GnN h0 lo b1 b3 b4)(hw0:WF h0)(Q0:QuH h0 q m w pv nv ov l os ns):QuH h q m w pv nv ov l os ns:=by
 obtain⟨mm,g,hm⟩:=Q0.mem;exact Q0.keep hw0 (by have:=N.l1;have:=G.nx;omega) (λz hz _=>G.old z hz) ⟨mm,(G.old m (hw0.bK g)).trans g,hm⟩
def SG(b3:Nat)(v0:Value)(z:Nat):Prop:=z=b3∨vB v0 z
def GnQ(b3 lo nx:Nat)(out:List (List Nat))(v0:Value)(r:List (List Nat))(v:Value)(h':Heap):Prop:=
 v= .tuple #[]/\∃v1,h'.get b3=some (.cells [v1] true 1)/\Own lo h' 8 v1 (out++r).length (fsL (out++r))/\(∀z,vB v1 z->vB v0 z∨nx<=z)/\((b3∈h'.log/\cV [v1]=false)∨v1=v0)
theorem RD(F:I5 T){h0:Heap}(hw0:WF h0){q m lo b1 b3 b4:Nat}{w:List Nat×List Nat}{pv nv ov:Value}{l:List Pb}{os:List (List Nat)}{ns:List (List (List Nat))}(Q0:QuH h0 q m w pv nv ov l os ns)(N:GnN h0 lo b1 b3 b4):
 ∀(k i:Nat) {f:List Nat} {h:Heap} {out:List (List Nat)} {v0:Value},f.length=8->i+k=l.length->Rdy h->GnH h0 h q b1 b3 b4 lo->h.get b3=some (.cells [v0] true 1)->Own lo h 8 v0 out.length (fsL out)->out.length+3 ^ k<=1000000→
 Gs T 60 [fV f, .int .i64 (i:Nat), .pointer (some ⟨b1,0,none⟩), .pointer (some ⟨b3,0,none⟩), .pointer (some ⟨b4,0,none⟩)] h (SG b3 v0) (GnQ b3 lo h.next out v0 (iE w l ns k i f)):=by
 have hp:=F.op.qu.p;have hN:=N;obtain⟨⟨a1,a2⟩,⟨a3,a4⟩,⟨a5,a6⟩,d1,d2⟩:=hN;have hl8:=Q0.hl;obtain⟨pa,pc,hpv⟩:=Q0.sp.form;subst hpv;intro k;induction k with
 |zero=>
  intro i f h out v0 hf hi hr G g3 ow hsz;have hnx:=G.nx;refine Gs.ofM hp F.f230 ?_;have hfc:=gF f;refine cW (E0:=[(1, .int .i64 (i:Nat)),(2, .pointer (some ⟨b1,0,none⟩)),(3, .pointer (some ⟨b3,0,none⟩)),(4, .pointer (some ⟨b4,0,none⟩)),(5, .pointer (some ⟨h.next,0,none⟩))]) (P:=λh'=>Ext h h'∧h'.next=h.next+1/\h'.get h.next=some (.cells (fL f) true 1)) ?_ ?_
  ·refine Y2 ?_;refine bL ?_;refine y1 ?_;rw[hfc];exact⟨rfl,rfl,rfl,(Ext.refl h).push _,rfl,z3 _ _⟩
  rintro H ⟨x0,n0,g5⟩;have W:=x0.wf hr.wf;have hL:=x0.log.trans hr.log;have GH:GnH h0 H q b1 b3 b4 lo:=G.step N W x0.next (λz hz _=>x0.old z (by omega))
  have QH:=GH.qu N hw0 Q0;have g1H:=GH.g1;have g3H:=(x0.old b3 (by omega)).trans g3;have owH:=ow.ext x0;have gqH:=QH.gq;have kp:=qA QH.hw (.slice pa l.length pc) nv ov (.map (some m));have kf8:=iq hf;have kf9:=fJ hf;have m1:aq .eql (.int .i64 (i:Nat)) (.int .i64 (l.length:Nat))=some (.bool true):=wK (by omega);have C1:=vf F.op (h:={H with log:=[]}) (.of W) (QH.log []) hf;refine Y16 ?_;refine FW.pu C1 ?_;clear C1;by_cases ho:fG w l ns f=true
  ·have e1:iE w l ns 0 i f=[f]:=by rw[iE,if_pos ho]
   rw[ho,e1];refine Y13 ?_;refine aD (mT (JX (by rw[dx,hf]) rfl (by exact rfl)) rfl) ?_;refine WO.Hl ?_;intro hA hAe;have xA:Ext H hA:=by rw[hAe];exact(Ext.refl H).push _
   have nA:hA.next=H.next+1:=by rw[hAe];rfl
   have gA:hA.get H.next=some (.cells (fL f) true 8):=by rw[hAe];exact z3 _ _
   clear hAe;refine D0 (c1:=fL f) (owH.ext xA) (by omega) (by omega) (by omega) (by exact rfl) (by exact rfl) (iN gA kf8 (by rw[dx,hf])) (by rw[dx,hf]) (kN f) ?_;intro H7 ow7 n7 lg7 w7 o7;have g37:H7.get b3=some (.cells [v0] true 1):=(o7 b3 (by omega) (λq a c e e2=>by
    have:=jF ow ⟨a,c,e⟩;omega)).trans ((xA.old b3 (by omega)).trans g3H)
   refine Y4 ?_;refine qf (λz hz=> ?_) rfl ⟨rfl,_,Heap.aI g37,?_,λz ⟨a,c,e⟩=> .inr (by cases e;omega), .inl ⟨BS (by omega),rfl⟩⟩ (.inl ⟨b3,by omega,BS (by omega),_,_,_,Heap.aI g37,rfl⟩)
   ·rcases dw hz with rfl|hz
    ·exact .inl rfl
    ·rcases lg7 z hz with hz|hz
     ·rw[xA.log,hL]at hz;cases hz
     ·exact .inr hz
   ·have e2:fsL (out++[f])=fsL out++fL f:=by rw[Om,On]
    rw[e2,List.length_append];exact(ow7.low (by omega)).keep (Nat.le_refl _) (λz hz _=>z5 (by omega))
  ·have ho:fG w l ns f=false:=by simpa using ho
   have e1:iE w l ns 0 i f=[]:=by rw[iE,ho];rfl
   rw[ho,e1];have key:∀h2:Heap,h.next<=h2.next->(∀x,x<h.next->h2.get x=H.get x)->GnQ b3 lo h.next out v0 [] (.tuple #[]) h2:=λh2 hn2 ha=>by
    refine⟨rfl,v0,(ha b3 (by omega)).trans g3H,?_,λz hz=> .inl hz, .inr rfl⟩;rw[List.append_nil];exact Du owH λz hz=>by
     have:=jF ow hz;exact⟨by omega,ha z this.2⟩
   refine Y14 ?_;exact qf (λz hz=>by rw[hL]at hz;cases hz) rfl (key H (by omega) λ_ _=>rfl) (.inr key)
 |succ k ih=>
  intro i f h out v0 hf hi hr G g3 ow hsz;have hnx:=G.nx;refine Gs.ofM hp F.f230 ?_;have hfc:=gF f;refine cW (E0:=[(1, .int .i64 (i:Nat)),(2, .pointer (some ⟨b1,0,none⟩)),(3, .pointer (some ⟨b3,0,none⟩)),(4, .pointer (some ⟨b4,0,none⟩)),(5, .pointer (some ⟨h.next,0,none⟩))]) (P:=λh'=>Ext h h'∧h'.next=h.next+1/\h'.get h.next=some (.cells (fL f) true 1)) ?_ ?_
  ·refine Y2 ?_;refine bL ?_;refine y1 ?_;rw[hfc];exact⟨rfl,rfl,rfl,(Ext.refl h).push _,rfl,z3 _ _⟩
  rintro H ⟨x0,n0,g5⟩;have W:=x0.wf hr.wf;have hL:=x0.log.trans hr.log;have GH:GnH h0 H q b1 b3 b4 lo:=G.step N W x0.next (λz hz _=>x0.old z (by omega))
  have QH:=GH.qu N hw0 Q0;have g1H:=GH.g1;have g3H:=(x0.old b3 (by omega)).trans g3;have owH:=ow.ext x0;have gqH:=QH.gq;have kp:=qA QH.hw (.slice pa l.length pc) nv ov (.map (some m));have kf8:=iq hf;have kf9:=fJ hf;have m1:aq .eql (.int .i64 (i:Nat)) (.int .i64 (l.length:Nat))=some (.bool false):=pq (by omega);have hi8:i<8:=by omega
  rw[Nat.pow_succ]at hsz;have hp3:1<=3 ^ k:=Nat.pow_pos (by omega);rw[←Ma];refine Y18 ?_;refine cM (λk' e ds h'=>∃(j:Nat) (vj:Value),j<=3/\3-j=k'∧e=[(1, .int .i64 (i:Nat)),(4, .pointer (some ⟨b4,0,none⟩)),(5, .pointer (some ⟨h.next,0,none⟩)),(29, .agg ([.int .u8 0, .int .u8 1, .int .u8 2]:List Value).toArray),(30, .int .i64 (j:Nat))]/\ds=[]/\WF h'∧H.next<=h'.next/\(∀z∈h'.log,SG b3 v0 z)/\(∀z,z<H.next->¬SG b3 v0 z->h'.get z=H.get z)/\h'.get b3=some (.cells [vj] true 1)/\Own lo h' 8 vj (out++Bc w l ns k i f j).length (fsL (out++Bc w l ns k i f j))/\(∀z,vB vj z->vB v0 z∨H.next<=z)/\((b3∈h'.log/\cV [vj]=false)∨vj=v0)) ⟨0,v0,by omega,rfl,rfl,rfl,W,Nat.le_refl _,(λz hz=>by rw[hL]at hz;cases hz),λ_ _ _=>rfl,g3H,(by show Own lo H 8 v0 (out++[]).length (fsL (out++[]));rw[List.append_nil];exact owH),λz hz=> .inl hz, .inr rfl⟩ ?_;rintro k' e ds hj ⟨j,vj,hj3,hk',rfl,rfl,Wj,nj,lj,oj,gj,owj,hvj,kpj⟩;by_cases hlt:j<3
  ·have mlt:aq .lss (.int .i64 (j:Nat)) (.int .i64 3)=some (.bool true):=ei (by omega);have ki:bH (([.int .u8 0, .int .u8 1, .int .u8 2]:List Value).toArray).toList (j*1)=some (.int .u8 (j:Nat)):=by
    rcases(by omega:j=0∨j=1∨j=2)with rfl|rfl|rfl<;>rfl
   have olo:∀z,z<lo->z≠b3->hj.get z=H.get z:=λz hz hne=>oj z (by omega) λhS=>by
    rcases hS with e|e
    ·exact hne e
    ·have:=jF ow e;omega
   have Gj:GnH h0 hj q b1 b3 b4 lo:=GH.step N Wj nj olo;have g4j:=Gj.g4;have g5j:=(oj h.next (by omega) λhS=>by
    rcases hS with e|e
    ·omega
    ·have:=jF ow e;omega).trans g5
   unfold gnV at g4j;have madd:aq .add (.int .i64 (i:Nat)) (.int .i64 1)=some (.int .i64 ((i+1:Nat):Int)):=by
    have:=kK (a:=(i:Nat)) (b:=1) (ct (by omega) (by omega));exact this
   have madj:aq .add (.int .i64 (j:Nat)) (.int .i64 1)=some (.int .i64 ((j+1:Nat):Int)):=by
    have:=kK (a:=(j:Nat)) (b:=1) (ct (by omega) (by omega));exact this
   have C4:=mF F.op (h:={hj with log:=[]}) (.of Wj) hf (p:=i) (a:=j) hi8;have hpl:=DD (w:=w) (l:=l) (ns:=ns) (k:=k) (i:=i) (f:=f) j;have hpj:j*3 ^ k<=2*3 ^ k:=Nat.mul_le_mul_right _ (by omega);have I1:=ih (i+1) (f:=f.set i j) (h:={hj with log:=[]}) (out:=out++Bc w l ns k i f j) (v0:=vj) (by rw[List.length_set];exact hf) (by omega) (.of Wj) (Gj.log []) gj (owj.log []) (by rw[List.length_append];omega);refine Y10 ?_;refine aD (vG (by exact rfl) (by exact rfl) (by omega) (by assumption)) ?_;refine Y10 ?_;refine FW.puD C4 (by apply ah rfl (aa rfl (vI (by exact rfl) (by exact rfl) (by with_reducible assumption)) (by exact dg _ _)) rfl;apply ah rfl (aa rfl (eG (by exact rfl)) (by exact dg _ _)) rfl;(repeat apply aG rfl);apply ah rfl (aa rfl (bY (by exact rfl) (by assumption) (by exact rfl)) (by refine pT ?_ ?_;exact iI;refine di (iw _) ?_;refine di (iw _) ?_;refine di (iw _) ?_;exact iI)) rfl;exact bh) ?_;clear C4;skip;refine qC ?_;refine FW.WQ I1 ?_;clear I1;rintro _ h8 lg8 x8 hlg8 hin8 ⟨rfl,v8,g8,ow8,hv8,kp8⟩;have n8:=x8.next
   refine⟨_,by(repeat apply aG rfl);exact bh,?_⟩;refine Y8 ?_;refine⟨3-(j+1),by omega,j+1,v8,by omega,rfl,rfl,rfl,x8.wf Wj,by omega,λz hz=> ?_,λz hz hS=>(x8.old z (by omega) λhS2=> ?_).trans (oj z hz hS),g8,?_,λz hz=>(hv8 z hz).elim (hvj z) λe=> .inr (by have:hj.next<=z:=e;omega),?_⟩
   ·rcases x8.OB z hz with e|⟨e,hb⟩
    ·exact lj z e
    ·rcases e with e|e
     ·exact .inl e
     ·rcases hvj z e with e|e
      ·exact .inr e
      ·omega
   ·rcases hS2 with e|e
    ·exact hS (.inl e)
    ·rcases hvj z e with e|e
     ·exact hS (.inr e)
     ·omega
   ·rw[ny,←List.append_assoc];exact ow8.log _
   ·rcases kp8 with⟨e1,e2⟩|e
    ·exact .inl ⟨hin8 _ e1 (by omega),e2⟩
    ·rw[e];rcases kpj with⟨e1,e2⟩|e
     ·exact .inl ⟨x8.RO _ e1,e2⟩
     ·exact .inr e
  ·obtain rfl:j=3:=by omega
   have mlt:aq .lss (.int .i64 ((3:Nat):Int)) (.int .i64 3)=some (.bool false):=rfl;refine Y9 ?_;refine Hf lj rfl ⟨rfl,vj,gj,owj,λz hz=>(hvj z hz).imp id λe=>by omega,kpj⟩ ?_;rcases kpj with⟨e1,e2⟩|rfl
   ·exact .inl ⟨b3,by omega,e1,_,_,_,gj,e2⟩
   ·refine .inr λh2 hn2 ha=>⟨rfl,vj,(ha b3 (by omega)).trans gj,Du owj λz hz=> ?_,λz hz=> .inl hz, .inr rfl⟩;have:=jF ow hz;exact⟨by omega,ha z this.2⟩
theorem Iv(F:I5 T){h:Heap}(hr:Rdy h){q m:Nat}{w:List Nat×List Nat}{pv nv ov:Value}{l:List Pb}{os:List (List Nat)}{ns:List (List (List Nat))}(Qh:QuH h q m w pv nv ov l os ns):
 Al T 31 [.pointer (some ⟨q,0,none⟩)] h (λv h'=>Own h.next h' 8 v (iE w l ns l.length 0 z8).length (fsL (iE w l ns l.length 0 z8))):=by
 have hp:=F.op.qu.p;refine .of hp F.f153 hr (λv h1 hv o=>Own.UC hv o) ?_;have kq:=hr.wf.bK Qh.gq;refine cW (E0:=[(1, .pointer (some ⟨h.next,0,none⟩))]) (P:=λh'=>Ext h h'∧h'.next=h.next+1/\h'.get h.next=some (.cells [.pointer (some ⟨q,0,none⟩)] true 1)) ?_ ?_
 ·refine Y3 ?_;refine bL ?_;refine y1 ?_;exact⟨rfl,rfl,rfl,(Ext.refl h).push _,rfl,z3 _ _⟩
 rintro H1 ⟨x1,n1,g1⟩;refine cW (E0:=[(1, .pointer (some ⟨h.next,0,none⟩)),(3, .pointer (some ⟨H1.next,0,none⟩))]) (P:=λh'=>Ext H1 h'∧h'.next=H1.next+1/\h'.get H1.next=some (.cells [.slice none 0 0] true 1)) ?_ ?_
 ·refine Y2 ?_;refine bL ?_;refine y1 ?_;exact⟨rfl,rfl,rfl,(Ext.refl H1).push _,rfl,z3 _ _⟩
 rintro H2 ⟨x2,n2,g3⟩;refine cW (E0:=[(1, .pointer (some ⟨h.next,0,none⟩)),(3, .pointer (some ⟨H1.next,0,none⟩)),(4, .pointer (some ⟨H2.next,0,none⟩))]) (P:=λh'=>Ext H2 h'∧h'.next=H2.next+1/\h'.get H2.next=some (.cells [.nilFunc] true 1)) ?_ ?_
 ·refine Y2 ?_;refine bL ?_;refine y1 ?_;exact⟨rfl,rfl,rfl,(Ext.refl H2).push _,rfl,z3 _ _⟩
 rintro H3 ⟨x3,n3,g4⟩;refine cW (E0:=[(3, .pointer (some ⟨H1.next,0,none⟩)),(4, .pointer (some ⟨H2.next,0,none⟩))]) (P:=λh'=>Ext h h'∧h'.next=H3.next/\(∀z,z<H2.next->h'.get z=H3.get z)/\h'.get H2.next=some (.cells [gnV h.next H1.next H2.next] true 1)) ?_ ?_
 ·refine Y3 ?_;refine bL ?_;refine y1 ?_;exact⟨rfl,rfl,rfl,(x1.trans (x2.trans x3)).wr (by omega) (by omega),rfl,λz hz=>z5 (by omega),Heap.aI g4⟩
 rintro H4 ⟨x4,n4,o4,g44⟩;have W4:=x4.wf hr.wf;have hL4:=x4.log.trans hr.log;have g14:=(o4 _ (by omega)).trans ((x3.old _ (by omega)).trans ((x2.old _ (by omega)).trans g1));have g34:=(o4 _ (by omega)).trans ((x3.old _ (by omega)).trans g3);have N:GnN h H4.next h.next H1.next H2.next:=⟨⟨by omega,by omega⟩,⟨by omega,by omega⟩,⟨by omega,by omega⟩,by omega,by omega⟩
 have G4:GnH h {H4 with log:=[]} q h.next H1.next H2.next H4.next:=⟨W4.log [],Nat.le_refl _,λz hz=>x4.old z hz,g14,g44⟩
 have hl8:=Qh.hl;have C1:=RD F hr.wf Qh N l.length 0 (f:=z8) (h:={H4 with log:=[]}) (out:=[]) (v0:= .slice none 0 0) rfl (Nat.zero_add _) (.of W4) G4 g34 .nil (by
  have:3 ^ l.length<=3 ^ 8:=Nat.pow_le_pow_right (by omega) hl8;show 0+3 ^ l.length<=1000000;have:(3:Nat) ^ 8=6561:=by decide
  omega)
 have C2:Gs T 60 [fV z8, .int .i64 ((0:Nat):Int), .pointer (some ⟨h.next,0,none⟩), .pointer (some ⟨H1.next,0,none⟩), .pointer (some ⟨H2.next,0,none⟩)] {H4 with log:=[]} (SG H1.next (.slice none 0 0)) (λv h'=>v= .tuple #[]/\∃v1,h'.get H1.next=some (.cells [v1] true 1)/\Own H4.next h' 8 v1 (iE w l ns l.length 0 z8).length (fsL (iE w l ns l.length 0 z8))):=CW.mono C1 (by
  rintro r h2 ⟨x,v,rfl,q1,v1,q2,q3,q4,q5⟩;exact⟨x,v,rfl,q1,v1,q2,q3⟩)
 clear C1;have g44':=g44;unfold gnV at g44';refine Y4 ?_;refine FW.gs0 C2 (λv h' lg ⟨q1,v1,q2,q3⟩=>⟨q1,v1,q2,q3.log lg⟩) (λz hz=> ?_) ?_
 ·rcases hz with e|⟨a,c,e⟩
  ·omega
  ·cases e
 clear C2 g44';rintro _ H5 n5 l5 o5 w5 ⟨rfl,v1,g5,ow5⟩;have hL5:=l5.trans hL4;refine Y6 ?_;exact cF hL5 rfl (ow5.low (by omega))
end Go.A.Pk
end
section
namespace Go.A.Pk
variable {T:Nat->Option an}
def uP(w:List Nat×List Nat)(l:List Pb)(os:List (List Nat)):List Fk:=if(j5 w l os).2=0 then kW w l (os.map (bQ w))else []
def Re(lo:Nat)(w:List Nat×List Nat)(l:List Pb)(os:List (List Nat))(v:Value)(h':Heap):Prop:=
 ∃v1,v= .tuple #[v1, .int .i64 (j5 w l os).2]/\Own lo h' 3 v1 (uP w l os).length (jt (uP w l os))
structure QC (T:Nat->Option an):Prop where
 bd:IW T
 od:B9 T
 f58:T 6=some f58
theorem Fs(F:QC T){h:Heap}(hr:Rdy h)(hg:Tab h)(h2:0<h.next){w:List Nat×List Nat}(hw:IsW w){pv:Value}{l:List Pb}(sp:PbS h pv l)(hl:l.length<1000000){ov:Value}{os:List (List Nat)}(so:SsQ h ov os)(hol:os.length<1000000):
 Al T 6 [wV w,pv,ov] h (Re h.next w l os):=by
 have hp:=F.od.va.op.qu.p;refine .of hp F.f58 hr (λv h1 hv ⟨v1,e,o⟩=>⟨v1,e,?_⟩) ?_
 ·subst e;exact Own.J1 hv o
 have hwc:cellsOf (wV w)=wL w:=by show(wL w).toArray.toList=_;simp
 obtain⟨a,c,rfl⟩:=sp.form;obtain⟨a3,c3,rfl⟩:=so.sl.form;have x0:Ext h (h.push (.cells (cellsOf (wV w)) true 1)):=(Ext.refl h).push _;have g0:(h.push (.cells (cellsOf (wV w)) true 1)).get h.next=some (.cells (wL w) true 1):=by rw[hwc];exact z3 h _
 have n0:(h.push (.cells (cellsOf (wV w)) true 1)).next=h.next+1:=rfl
 refine Y5 ?_;generalize(h.push (.cells (cellsOf (wV w)) true 1))=H at*;have W:=x0.wf hr.wf;have hL:=x0.log.trans hr.log;have wk:=lY hw;have wkl:=jh hw;have C1:=sI F.od (h:={H with log:=[]}) (.of W) (show Tab H from hg.ext x0 h2) (by show 0<H.next;omega) hw ((sp.ext x0).log []) hl ((so.ext x0).log []) hol;refine Y5 ?_;refine FW.al C1 (λv h' m q=> ?_) ?_
 ·rcases q with q|⟨e,q,m',nv,e1,e2,e3,e4,e5⟩
  ·exact .inl q
  ·exact .inr ⟨e,q,m',nv,e1,e2,e3,e4.log m,e5⟩
 clear C1;rintro _ H1 x1 (⟨he,rfl⟩|⟨he,q,m,nv,rfl,hq1,hq2,Q1,gm⟩)
 ·have e2:(j5 w l os).2=opE w l os:=by rw[rQ,if_pos he]
  unfold Re uP;rw[e2,if_neg he];generalize opE w l os=er at*;have hL1:=x1.log.trans hL;have mn:aq .neq (.int .i64 er) (.int .i64 0)=some (.bool true):=jE he;refine Y20 ?_;have n1:H.next<=H1.next:=x1.next
  exact cF (by rw[Heap.aB (by omega)];exact hL1) rfl ⟨_,rfl, .nil⟩
 have hq1:H.next<=m:=hq1
 have n1:H.next<=H1.next:=x1.next
 have W1:=x1.wf W;have hL1:=x1.log.trans hL;have kq:=W1.bK Q1.gq;have mn:aq .neq (.int .i64 0) (.int .i64 0)=some (.bool false):=rfl;have hpc:=sL (jl.1 (nu.1 he).1).2.2.2.2;have hE:(j5 w l os).2=if 100000<=bF w l (os.map (bQ w)) z8 then 81 else 0:=by
  rw[rQ,if_neg (λq=>q he)];split<;>rfl
 generalize hns:os.map (bQ w)=ns at*;refine Y7 ?_;refine WE.uM ?_;intro H2 hA;have x2:Ext H1 H2:=by rw[hA];exact((Ext.refl H1).push _).wr (Nat.le_refl _) (by omega)
 have n2:H2.next=H1.next+1:=by rw[hA];rfl
 have g82:H2.get H1.next=some (.cells [.pointer (some ⟨q,0,none⟩)] true 1):=by rw[hA];exact Heap.aI (z3 _ _)
 clear hA;refine Y8 ?_;refine cW (E0:=[(8, .pointer (some ⟨H1.next,0,none⟩)),(10, .pointer (some ⟨H2.next,0,none⟩))]) (P:=λh'=>Ext H2 h'∧h'.next=H2.next+1/\h'.get H2.next=some (.cells [vfV q] true 1)) ?_ ?_
 ·refine Y5 ?_;refine bL ?_;refine y1 ?_;exact⟨rfl,rfl,rfl,((Ext.refl H2).push _).wr (Nat.le_refl _) (by omega),rfl,Heap.aI (z3 _ _)⟩
 rintro H3 ⟨x3,n3,g103⟩;have g83:=(x3.old _ (by omega)).trans g82;have x13:=x2.trans x3;have W3:=x13.wf W1;have hL3:=x13.log.trans hL1;have Q3:QuH H3 q m w _ nv _ l os ns:=Q1.keep W1 x13.next (λz hz _=>x13.old z hz) ⟨[],(x13.old m (by omega)).trans gm,λx hx=>by cases hx⟩
 have C2:=lX F.bd.bu.va hpc _ (h:={H3 with log:=[]}) (.of W3) (Q3.log []) (f:=z8) rfl (Nat.le_refl _);have mge:aq .geq (.int .i64 (bF w l ns z8)) (.int .i64 100000)=some (.bool (decide (100000<=bF w l ns z8))):=sq;have g103':=g103;unfold vfV at g103';refine Y5 ?_;refine FW.gs0 C2 (λv h' m q=>q) (λz hz=>by omega) ?_;clear C2 g103';rintro _ H4 n4 l4 o4 w4 ⟨rfl,mm4,gm4,hm4⟩;have W4:=w4 W3;have hL4:=l4.trans hL3;have g84:=(o4 _ (by omega) (by omega)).trans g83;have g104:=(o4 _ (by omega) (by omega)).trans g103;by_cases hge:100000<=bF w l ns z8
 ·rw[decide_eq_true hge]at mge;rw[if_pos hge]at hE;unfold Re uP;rw[hE,if_neg (by decide)];refine Y9 ?_;exact cF hL4 rfl ⟨_,rfl, .nil⟩
 rw[decide_eq_false hge]at mge;rw[if_neg hge]at hE;have hval:bF w l ns z8<100000:=by omega
 refine Y5 ?_;refine cW (E0:=[(8, .pointer (some ⟨H1.next,0,none⟩)),(10, .pointer (some ⟨H2.next,0,none⟩)),(11, .pointer (some ⟨H4.next,0,none⟩))]) (P:=λh'=>Ext H4 h'∧h'.next=H4.next+1/\h'.get H4.next=some (.cells [.slice none 0 0] true 1)) ?_ ?_
 ·refine Y2 ?_;refine bL ?_;refine y1 ?_;exact⟨rfl,rfl,rfl,(Ext.refl H4).push _,rfl,z3 _ _⟩
 rintro H5 ⟨x5,n5,g115⟩;refine cW (E0:=[(8, .pointer (some ⟨H1.next,0,none⟩)),(10, .pointer (some ⟨H2.next,0,none⟩)),(11, .pointer (some ⟨H4.next,0,none⟩)),(12, .pointer (some ⟨H5.next,0,none⟩))]) (P:=λh'=>Ext H5 h'∧h'.next=H5.next+1/\h'.get H5.next=some (.cells [.nilFunc] true 1)) ?_ ?_
 ·refine Y2 ?_;refine bL ?_;refine y1 ?_;exact⟨rfl,rfl,rfl,(Ext.refl H5).push _,rfl,z3 _ _⟩
 rintro H6 ⟨x6,n6,g126⟩;refine cW (E0:=[(11, .pointer (some ⟨H4.next,0,none⟩)),(12, .pointer (some ⟨H5.next,0,none⟩))]) (P:=λh'=>h'.next=H6.next/\h'.log=H6.log/\WF h'∧(∀z,z<H5.next->h'.get z=H6.get z)/\h'.get H5.next=some (.cells [buV H1.next H2.next H4.next H5.next] true 1)) ?_ ?_
 ·refine Y3 ?_;refine bL ?_;refine y1 ?_;exact⟨rfl,rfl,rfl,rfl,Heap.aB (by omega),(x6.wf (x5.wf W4)).as (AS.wr _ _ _ _),λz hz=>z5 (by omega),Heap.aI g126⟩
 rintro H7 ⟨n7,l7,W7,o7,g127⟩;have x56:=x5.trans x6;have hL7:=(l7.trans x56.log).trans hL4;have o74:∀z,z<H4.next->H7.get z=H4.get z:=λz hz=>(o7 z (by omega)).trans (x56.old z hz)
 have g87:=(o74 _ (by omega)).trans g84;have g107:=(o74 _ (by omega)).trans g104;have g117:=(o7 _ (by omega)).trans ((x6.old _ (by omega)).trans g115);have gm7:=(o74 m (by omega)).trans gm4;have N:BdN H1 H7.next H1.next H2.next H4.next H5.next m:=⟨⟨by omega,by omega⟩,⟨by omega,by omega⟩,⟨by omega,by omega⟩,⟨by omega,by omega⟩,by omega,by omega,by omega,by omega⟩
 have B7:BdH H1 {H7 with log:=[]} q m H1.next H2.next H4.next H5.next H7.next w l ns:=⟨W7.log [],Nat.le_refl _,λz hz hne=>(o74 z (by omega)).trans ((o4 z (by omega) hne).trans (x13.old z hz)),⟨mm4,gm7,hm4⟩,g87,g107,g127⟩
 have C3:=Jw F.bd W1 Q1 hpc N 10 (f:=z8) (h:={H7 with log:=[]}) (out:=[]) (v0:= .slice none 0 0) rfl (Nat.lt_of_le_of_lt (kr _ _) (by have:=Q1.hl;omega)) hval (.of W7) B7 g117 .nil (by decide);have g127':=g127;unfold buV at g127';refine Y4 ?_;refine FW.gs0 C3 (λv h' lg ⟨q1,q2,v1,q3,q4,q5⟩=>⟨q1,q2,v1,q3,q4.log lg,q5⟩) (λz hz=> ?_) ?_
 ·rcases hz with e|e|⟨a,c,e⟩
  ·omega
  ·omega
  ·cases e
 clear C3 g127';rintro _ H8 n8 l8 o8 w8 ⟨rfl,_,v1,g118,ow8,_⟩;have hL8:=l8.trans hL7;refine Y7 ?_;refine cF hL8 rfl ⟨v1,by rw[hE];rfl,?_⟩;unfold uP kW;rw[hE,if_pos rfl,hns];have e:([]:List Fk).length+(dL w l ns 10 z8 ([]:List Fk).length).2.length=(dL w l ns 10 z8 0).2.length:=Nat.zero_add _;rw[e]at ow8;exact ow8.low (by omega)
structure vr (T:Nat->Option an):Prop where
 p:aF T
 f104:T 33=some f104
 f105:T 34=some f105
 f107:T 36=some f107
 f205:T 61=some f205
 f206:T 62=some f206
 f260:T 78=some f260
theorem JU{f:List Nat}{i k:Nat}(h:f[i]? =some k):(fL f)[i]? =some (.int .u8 (k:Nat)):=by simp[fL,h]
def SlJ(h:Heap)(v:Value)(l:List Nat):Prop:=aJ h 1 v l.length (fL l)∨l=[]/\∃b o k,v= .slice (some ⟨b,o,some k⟩) 0 0
theorem SlJ.form{h:Heap}{v:Value}{l:List Nat}(s:SlJ h v l):∃a c,v= .slice a l.length c:=by
 rcases s with s|⟨rfl,b,o,k,rfl⟩
 ·exact aJ.form s
 ·exact⟨_,_,rfl⟩
theorem SlJ.src{h:Heap}{v:Value}{l:List Nat}(s:SlJ h v l):dn h 1 v=some (fL l,l.length):=by
 rcases s with s|⟨rfl,b,o,k,rfl⟩
 ·exact BE s
 ·rfl
theorem SlJ.ext{h h':Heap}{v:Value}{l:List Nat}(s:SlJ h v l)(x:Ext h h'):SlJ h' v l:=s.imp (λs=>aJ.ext s x) id
theorem SlJ.log{h:Heap}{v:Value}{l:List Nat}(s:SlJ h v l)(m:List Nat):SlJ {h with log:=m} v l:=s.imp (λs=>aJ.log s m) id
theorem SlJ.se{h h':Heap}{v:Value}{l:List Nat}(s:SlJ h v l)(hn:h.next<=h'.next)(ha:∀z,z<h.next->h'.get z=h.get z):SlJ h' v l:=s.imp (λs=>aJ.se s hn ha) id
theorem Fl{h:Heap}{v:Value}{l:List Nat}(s:SlJ h v l){i:Nat}{x:Value}(hi:(fL l)[i]? =some x):
 ∃b o c vs own t,v= .slice (some ⟨b,o,none⟩) l.length c/\h.get b=some (.cells vs own t)/\b<h.next/\bH vs (o+i*1)=some x:=by
 rcases s with s|⟨rfl,_⟩
 ·exact Gz s hi
 ·simp[fL]at hi
theorem Rj(F:vr T){h:Heap}(hr:Rdy h)(k:Nat):Pu T 34 [.int .u8 (k:Nat)] h (.bool (decide (2<k))):=by
 refine .of F.p F.f105 hr rfl ?_;have m:aq .gtr (.int .u8 (k:Nat)) (.int .u8 2)=some (.bool (decide (2<k))):=by
  rw[Gi];congr 2;exact decide_eq_decide.2 (by omega)
 refine Y9 ?_;exact aA hr.log rfl rfl
def wA:List Nat->Nat->Int
 |[],_=> -1
 |k::l,i=>if 2<k then(i:Int)else wA l (i+1)
theorem Hs{l:List Nat}{i k:Nat}(hi:l[i]? =some k):wA (l.drop i) i=if 2<k then(i:Int)else wA (l.drop (i+1)) (i+1):=by
 obtain⟨hlt,rfl⟩:=List.getElem?_eq_some_iff.1 hi;rw[List.drop_eq_getElem_cons hlt,wA]
theorem CT:∀(l:List Nat) (i:Nat),decide (0<=wA l i)=l.any λk=>decide (2<k)
 |[],_=>rfl
 |k::l,i=>by
  rw[wA,List.any_cons];by_cases h:2<k
  ·rw[if_pos h,decide_eq_true h,Bool.true_or];exact decide_eq_true (by omega)
  ·rw[if_neg h,CT l (i+1),decide_eq_false h,Bool.false_or]
theorem Kq(F:vr T){h:Heap}(hr:Rdy h){v:Value}{l:List Nat}(s:SlJ h v l)(hn:l.length<1000000):Pu T 61 [v, .func (.func 34) #[] #[]] h (.int .i64 (wA l 0)):=by
 refine .of F.p F.f205 hr rfl ?_;obtain⟨a,c,rfl⟩:=s.form;refine Y10 ?_
 refine cM (λm e ds h'=>∃i:Nat,i<=l.length/\m=l.length-i/\e=[(0, .slice a l.length c),(1, .func (.func 34) #[] #[]),(7, .int .i64 (l.length:Nat)),(8, .int .i64 (i:Nat))]/\ds=[]/\h=h'∧wA l 0=wA (l.drop i) i)
  ⟨0,Nat.zero_le _,rfl,rfl,rfl,rfl,rfl⟩ ?_
 rintro m e ds _ ⟨i,hin,rfl,rfl,rfl,rfl,hi⟩;by_cases hlt:i<l.length
 ·obtain⟨k,hk⟩:∃r,l[i]? =some r:=⟨l[i],List.getElem?_eq_getElem hlt⟩;obtain⟨b,o,c2,vs,own,t,hv,g1,hb,g2⟩:=Fl s (JU hk);cases hv;have mlt:aq .lss (.int .i64 (i:Nat)) (.int .i64 (l.length:Nat))=some (.bool true):=ei (by omega);have C:=Rj F (h:={h with log:=[]}) (.of hr.wf) k;rw[Hs hk]at hi;by_cases h3:2<k
  ·rw[decide_eq_true h3]at C;rw[if_pos h3]at hi;rw[hi];refine Y20 ?_;refine FW.pu C ?_;refine Y12 ?_;exact aA hr.log rfl rfl
  ·rw[decide_eq_false h3]at C;rw[if_neg h3]at hi;refine Y20 ?_;refine FW.pu C ?_;refine Y9 ?_;exact⟨l.length-(i+1),by omega,i+1,by omega,rfl,rfl,rfl,rfl,hi⟩
 ·obtain rfl:i=l.length:=by omega
  have mlt:aq .lss (.int .i64 (l.length:Nat)) (.int .i64 (l.length:Nat))=some (.bool false):=eH (by omega);rw[List.drop_length]at hi;have hi:wA l 0= -1:=hi;rw[hi];refine Y14 ?_;exact aA hr.log rfl rfl
theorem Cw(F:vr T){h:Heap}(hr:Rdy h){v:Value}{l:List Nat}(s:SlJ h v l)(hn:l.length<1000000):Pu T 33 [v, .func (.func 34) #[] #[]] h (.bool (l.any λk=>decide (2<k))):=by
 refine .of F.p F.f104 hr rfl ?_;obtain⟨a,c,rfl⟩:=s.form;have C:=Kq F (h:={h with log:=[]}) (.of hr.wf) (SlJ.log s []) hn;rw[←CT l 0];generalize wA l 0=z at C⊢;have m1:aq .geq (.int .i64 z) (.int .i64 0)=some (.bool (decide (0<=z))):=sq;refine Y7 ?_;refine FW.pu C ?_;refine Y4 ?_;exact aA hr.log rfl rfl
def cmN(a b:Nat):Int:=if a<b then -1 else if b<a then 1 else 0
def cmF:List Nat->List Nat->Int
 |[],[]=>0
 |[],_::_=> -1
 |_::_,[]=>1
 |a::f,b::g=>if cmN a b≠0 then cmN a b else cmF f g
theorem As:∀(f g:List Nat),cmF f g<0↔AO f g=true
 |[],[]=>by simp[cmF,AO]
 |[],_::_=>by simp[cmF,AO]
 |_::_,[]=>by simp[cmF,AO]
 |a::f,b::g=>by
  unfold cmF AO cmN;by_cases h1:a<b
  ·rw[if_pos h1,if_pos (by omega),if_pos h1];simp
  ·rw[if_neg h1,if_neg h1];by_cases h2:b<a
   ·rw[if_pos h2,if_pos (by omega),if_pos h2];simp
   ·rw[if_neg h2,if_neg (by omega),if_neg h2];exact As f g
theorem Lr(F:vr T){h:Heap}(hr:Rdy h)(k:Nat):Pu T 78 [.int .u8 (k:Nat)] h (.bool false):=by
 refine .of F.p F.f260 hr rfl ?_;have m:aq .neq (.int .u8 (k:Nat)) (.int .u8 (k:Nat))=some (.bool false):=tK rfl;refine Y10 ?_;exact aA hr.log rfl rfl
theorem N6(F:vr T){h:Heap}(hr:Rdy h)(a b:Nat):Pu T 62 [.int .u8 (a:Nat), .int .u8 (b:Nat)] h (.int .i64 (cmN a b)):=by
 refine .of F.p F.f206 hr rfl ?_;have C1:=Lr F (h:={h with log:=[]}) (.of hr.wf) a;have C2:=Lr F (h:={h with log:=[]}) (.of hr.wf) b;unfold cmN;by_cases h1:a<b
 ·have m1:aq .lss (.int .u8 (a:Nat)) (.int .u8 (b:Nat))=some (.bool true):=ei (by omega);rw[if_pos h1];refine Y6 ?_;refine FW.pu C1 ?_;refine Y5 ?_;refine FW.pu C2 ?_;refine Y28 ?_;exact aA hr.log rfl rfl
 ·have m1:aq .lss (.int .u8 (a:Nat)) (.int .u8 (b:Nat))=some (.bool false):=eH (by omega);rw[if_neg h1];by_cases h2:b<a
  ·have m2:aq .gtr (.int .u8 (a:Nat)) (.int .u8 (b:Nat))=some (.bool true):=jD (by omega);rw[if_pos h2];refine Y6 ?_;refine FW.pu C1 ?_;refine Y5 ?_;refine FW.pu C2 ?_;refine Y37 ?_;exact aA hr.log rfl rfl
  ·have m2:aq .gtr (.int .u8 (a:Nat)) (.int .u8 (b:Nat))=some (.bool false):=ji (by omega);rw[if_neg h2];refine Y6 ?_;refine FW.pu C1 ?_;refine Y5 ?_;refine FW.pu C2 ?_;refine Y38 ?_;exact aA hr.log rfl rfl
theorem JH{f g:List Nat}{i a b:Nat}(ha:f[i]? =some a)(hb:g[i]? =some b):cmF (f.drop i) (g.drop i)=if cmN a b≠0 then cmN a b else cmF (f.drop (i+1)) (g.drop (i+1)):=by
 obtain⟨h1,rfl⟩:=List.getElem?_eq_some_iff.1 ha;obtain⟨h2,rfl⟩:=List.getElem?_eq_some_iff.1 hb;rw[List.drop_eq_getElem_cons h1,List.drop_eq_getElem_cons h2,cmF]
theorem N3(F:vr T){h:Heap}(hr:Rdy h){v u:Value}{f g:List Nat}(s:SlJ h v f)(s2:SlJ h u g)(hn:f.length<1000000)(hn2:g.length<1000000):Pu T 36 [v,u] h (.int .i64 (cmF f g)):=by
 refine .of F.p F.f107 hr rfl ?_;obtain⟨a,c,rfl⟩:=s.form;obtain⟨a2,c2,rfl⟩:=s2.form;refine Y10 ?_
 refine cM (λm e ds h'=>∃i:Nat,i<=f.length/\i<=g.length/\m=f.length-i/\e=[(0, .slice a f.length c),(1, .slice a2 g.length c2),(9, .slice a f.length c),(10, .int .i64 (f.length:Nat)),(11, .int .i64 (i:Nat))]/\ds=[]/\h=h'∧cmF f g=cmF (f.drop i) (g.drop i))
  ⟨0,Nat.zero_le _,Nat.zero_le _,rfl,rfl,rfl,rfl,rfl⟩ ?_
 rintro m e ds _ ⟨i,hin,hin2,rfl,rfl,rfl,rfl,hi⟩;by_cases hlt:i<f.length
 ·obtain⟨k,hk⟩:∃r,f[i]? =some r:=⟨f[i],List.getElem?_eq_getElem hlt⟩;obtain⟨b,o,c3,vs,own,t,hv,g1,hb,gat⟩:=Fl s (JU hk);cases hv;have mlt:aq .lss (.int .i64 (i:Nat)) (.int .i64 (f.length:Nat))=some (.bool true):=ei (by omega);by_cases hl2:i<g.length
  ·obtain⟨k2,hk2⟩:∃r,g[i]? =some r:=⟨g[i],List.getElem?_eq_getElem hl2⟩;obtain⟨b2,o2,c4,vs2,own2,t2,hv2,g2,hb2,gat2⟩:=Fl s2 (JU hk2);cases hv2;have mge:aq .geq (.int .i64 (i:Nat)) (.int .i64 (g.length:Nat))=some (.bool false):=nY (by omega);have C:=N6 F (h:={h with log:=[]}) (.of hr.wf) k k2;rw[JH hk hk2]at hi;generalize cmN k k2=cc at*;by_cases h0:cc=0
   ·have mn:aq .neq (.int .i64 cc) (.int .i64 0)=some (.bool false):=tK h0;rw[if_neg (by simpa using h0)]at hi;refine Y37 ?_;refine FW.pu C ?_;refine Y14 ?_;exact⟨f.length-(i+1),by omega,i+1,by omega,by omega,rfl,rfl,rfl,rfl,hi⟩
   ·have mn:aq .neq (.int .i64 cc) (.int .i64 0)=some (.bool true):=jE h0;rw[if_pos h0]at hi;rw[hi];refine Y37 ?_;refine FW.pu C ?_;refine Y17 ?_;exact aA hr.log rfl rfl
  ·obtain rfl:i=g.length:=by omega
   have mge:aq .geq (.int .i64 (g.length:Nat)) (.int .i64 (g.length:Nat))=some (.bool true):=tJ (by omega);rw[List.drop_length,List.drop_eq_getElem_cons hlt,cmF]at hi;rw[hi];refine Y34 ?_;exact aA hr.log rfl rfl
 ·obtain rfl:i=f.length:=by omega
  have mlt:aq .lss (.int .i64 (f.length:Nat)) (.int .i64 (f.length:Nat))=some (.bool false):=eH (by omega);rw[List.drop_length]at hi;rcases Nat.lt_or_ge f.length g.length with hl2|hl2
  ·have mll:aq .lss (.int .i64 (f.length:Nat)) (.int .i64 (g.length:Nat))=some (.bool true):=ei (by omega);rw[List.drop_eq_getElem_cons hl2,cmF]at hi;rw[hi];refine Y24 ?_;exact aA hr.log rfl rfl
  ·have mll:aq .lss (.int .i64 (f.length:Nat)) (.int .i64 (g.length:Nat))=some (.bool false):=eH (by omega);rw[List.drop_of_length_le hl2,cmF]at hi;rw[hi];refine Y25 ?_;exact aA hr.log rfl rfl
def stL(fs:List Value)(s:List Sta):List Value:=(fs.zip s).flatMap λp=>[p.1, .int .i64 p.2.cost]
theorem MP:∀{fs:List Value} {s:List Sta} {i:Nat} {u:Value} {x:Sta},fs[i]? =some u->s[i]? =some x->((stL fs s).drop (i*2)).take 2=[u, .int .i64 x.cost]
 |[],_,i,u,x,h,_=>by simp at h
 |_::_,[],i,u,x,_,h=>by simp at h
 |a::fs,b::s,0,u,x,h1,h2=>by
  simp at h1 h2;subst h1;subst h2;rfl
 |a::fs,b::s,i+1,u,x,h1,h2=>by
  have e:(stL (a::fs) (b::s)).drop 2=stL fs s:=rfl;rw[show(i+1)*2=2+i*2 by omega,←List.drop_drop,e];exact MP (by simpa using h1) (by simpa using h2)
structure rK (h:Heap) (v:Value) (s:List Sta):Prop where
 ex:∃fs:List Value,fs.length=s.length/\aJ h 2 v s.length (stL fs s)/\∀(i:Nat) u x,fs[i]? =some u->s[i]? =some x->SlJ h u x.found
theorem rK.form{h:Heap}{v:Value}{s:List Sta}(S:rK h v s):∃a c,v= .slice a s.length c:=by
 obtain⟨fs,_,s1,_⟩:=S.ex;exact s1.form
theorem rK.log{h:Heap}{v:Value}{s:List Sta}(S:rK h v s)(m:List Nat):rK {h with log:=m} v s:=by
 obtain⟨fs,e,s1,s2⟩:=S.ex;exact⟨fs,e,s1.log m,λi u y h1 h2=>(s2 i u y h1 h2).log m⟩
theorem rK.se{h h':Heap}{v:Value}{s:List Sta}(S:rK h v s)(hn:h.next<=h'.next)(ha:∀z,z<h.next->h'.get z=h.get z):rK h' v s:=by
 obtain⟨fs,e,s1,s2⟩:=S.ex;exact⟨fs,e,aJ.se s1 hn ha,λi u y h1 h2=>SlJ.se (s2 i u y h1 h2) hn ha⟩
theorem rK.elem{h:Heap}{v:Value}{s:List Sta}(S:rK h v s){i:Nat}{x:Sta}(hi:s[i]? =some x):
 ∃b o c vs own t u,v= .slice (some ⟨b,o,none⟩) s.length c/\h.get b=some (.cells vs own t)/\b<h.next/\cw 2 (bU (o+i*2) vs)=[u, .int .i64 x.cost]/\bH vs (o+i*2+0)=some u/\SlJ h u x.found:=by
 obtain⟨fs,e,s1,s2⟩:=S.ex;have hlt:=(List.getElem?_eq_some_iff.1 hi).1;obtain⟨u,hu⟩:∃u,fs[i]? =some u:=⟨fs[i]'(by omega),List.getElem?_eq_getElem _⟩;rcases aJ.inv s1 with⟨_,_,h0,_⟩|⟨b,o,cap,hv,s3,hc⟩
 ·omega
 ·obtain⟨vs,own,t,g1,g2⟩:=s3.obj;have hk:(vs.drop (o+i*2)).take 2=[u, .int .i64 x.cost]:=by
   rw[←MP hu hi,←g2];simp only[bI,aT,List.drop_take,List.take_take,List.drop_drop];congr 1;omega
  refine⟨b,o,cap,vs,own,t,u,hv,g1,s3.lt,by rw[bI,aT];exact hk,?_,s2 i u x hu hi⟩;rw[cD];have:((vs.drop (o+i*2)).take 2)[0]? =some u:=by rw[hk];rfl
  rw[List.getElem?_take_of_lt (by omega),List.getElem?_drop]at this;exact this
end Go.A.Pk
end
section
namespace Go.A
variable {T:Nat->Option an} {base:Nat} {rnd:Option Nat} {Q:XQ} {e:Env} {ds:Dfs} {h:Heap}
theorem Nk{lo sz bytes n:Nat}{ops:List aV}{bf:List Nat}{rs:List Rec}{Q:Env->Heap->Prop}{i mask:Nat}{is:List Nat}{dst:Option Nat}{g:Option (Nat×Bool)}{er:Env}{x y:Operand}{v u:Value}{cs c1:List Value}
 (s:Own lo h sz v n cs)(hn:n<1000000)(hsz:0<sz)(hb:bytes<=100000)(hbase:base<=lo)
 (ho:bH ops i=some ⟨dst, .append sz bytes x y,g⟩)(hm:bH bf i=some mask)(he:bO e (cS ⟨dst, .append sz bytes x y,g⟩)=er)(hwt:bN er g=some true)
 (hx:ev {h with log:=[]} er x=some v)(hy:ev {h with log:=[]} er y=some u)(hs:dn {h with log:=[]} sz u=some (c1,1))(hl1:c1.length=sz)(h1:dY c1=true)
 (hK:∀h' lg,Own h.next h' sz (.slice (some ⟨h.next,0,none⟩) (n+1) UNK) (n+1) (cs++c1)->h'.next=h.next+1->h'.log=h.log->(WF h->WF h')->(∀z,z<h.next->(∀q a c,v= .slice (some ⟨q,0,none⟩) a c->z≠q)->h'.get z=h.get z)->∃rs',bC h' base lg mask rs=some rs'∧WD T base ops bf Q is rs' (cC e dst (.slice (some ⟨h.next,0,none⟩) (n+1) UNK)) h'):WD T base ops bf Q (i::is) rs e h:=by
 have hbd:(2*(n+1)+768)*bytes<=281474976710656:=by
  have:(2*(n+1)+768)*bytes<=2000768*100000:=Nat.mul_le_mul (by omega) hb;omega
 cases s with
 |nil=>
  have:=Own.full (lo:=h.next) (h:=h.push (.cells c1 true sz)) (sz:=sz) (q:=h.next) (n:=1) (cs:=c1) (Nat.le_refl _) (Nat.lt_succ_self _) (z3 _ _) (by omega) (by omega);obtain⟨rs',q1,q2⟩:=hK _ [] this rfl rfl (λw=>w.push _) (λz hz _=>z4 hz);exact yj (n:=1) ho hm he hwt hx hy hs (by omega) (by simpa using hbd) q1 q2
 | @full q _ _ q1 q2 q3 q4 q5=>
   have hF:Own h.next ((h.wr base q .dead).push (.cells (cs++c1) true sz)) sz (.slice (some ⟨h.next,0,none⟩) (n+1) UNK) (n+1) (cs++c1):= .full (Nat.le_refl _) (Nat.lt_succ_self _) (z3 _ _) (by rw[List.length_append,q4,hl1,Nat.add_mul,Nat.one_mul]) (by omega)
   obtain⟨rs',p1,p2⟩:=hK _ [q] hF rfl (Heap.aB (o:= .dead) (by omega)) (λw=>(w.as (AS.wr base _ q .dead)).push _) (λz hz hne=>(z4 (by exact hz)).trans (z5 (hne q _ _ rfl)));exact kY ho hm he hwt rfl (jO (h:={h with log:=[]}) (n:=1) (vs:=cs) (ws:=cs++c1) hx hy hs (by omega) q3 q4 hsz h1 hbd (dH _ _)) (ux q2 _ _) (qx q2 .dead) p1 p2
end Go.A
namespace Go.A.Pk
variable {T:Nat->Option an}
theorem WD.Hl{base:Nat}{ops:List aV}{bf:List Nat}{rs:List Rec}{Q:Env->Heap->Prop}{is:List Nat}{e:Env}{h:Heap}(hK:∀hA,hA=h->WD T base ops bf Q is rs e hA):WD T base ops bf Q is rs e h:=hK h rfl
structure IV (T:Nat->Option an):Prop where
 od:B9 T
 ss:I5 T
 f59:T 11=some f59
 f154:T 32=some f154
def VK(lo n:Nat)(cs:List Value)(v:Value)(h':Heap):Prop:=∃b c,v= .slice (some ⟨b,0,none⟩) n c/\lo<=b/\aJ h' 1 v n cs
theorem JF(F:IV T){h:Heap}(hr:Rdy h){b n c:Nat}{cs:List Value}(s:aJ h 1 (.slice (some ⟨b,0,none⟩) n c) n cs)(hn:n<1000000):
 Al T 32 [.slice (some ⟨b,0,none⟩) n c] h (VK h.next n cs):=by
 have hp:=F.od.va.op.qu.p;refine .of hp F.f154 hr (λv h1 hv ⟨b,c,e,_⟩=>by subst e;cases hv) ?_;have hlen:=aJ.len s;by_cases h0:n=0
 ·subst h0;have hcs:cs=[]:=List.eq_nil_of_length_eq_zero (by rw[hlen,Nat.zero_mul]);subst hcs;refine Y6 ?_;refine aD (Cc (by exact rfl) (by exact rfl) (by exact rfl)) ?_;refine Y7 ?_;refine WO.Hl ?_;intro hA hAe;have xA:Ext h hA:=by rw[hAe];exact(Ext.refl h).push _
  have nA:hA.next=h.next+1:=by rw[hAe];rfl
  have gA:hA.get h.next=some (.cells [] true 1):=by rw[hAe];exact z3 _ _
  clear hAe;have hLA:=xA.log.trans hr.log;refine aD (vD (by exact rfl) (by exact rfl) (BE (s.ext xA)) (Nat.le_refl _)) ?_;refine Y3 ?_;exact cF hLA rfl ⟨h.next,0,rfl,Nat.le_refl _, .mem ⟨by omega,⟨_,_,_,gA,rfl⟩,rfl⟩ (Nat.le_refl _)⟩
 ·refine Y6 ?_;refine aD (Cc (by exact rfl) (by exact rfl) (by exact rfl)) ?_;refine Y7 ?_;refine WO.Hl ?_;intro hA hAe;have xA:Ext h hA:=by rw[hAe];exact(Ext.refl h).push _
  have nA:hA.next=h.next+1:=by rw[hAe];rfl
  have gA:hA.get h.next=some (.cells [] true 1):=by rw[hAe];exact z3 _ _
  clear hAe;have hLA:=xA.log.trans hr.log;refine aD (vC (ws:=cs) (by exact rfl) (by exact rfl) (BE (s.ext xA)) h0 (by omega) (by decide) gA (by decide) (by omega) (by rfl)) ?_;have ow:Own h.next (hA.push (.cells cs true 1)) 1 (.slice (some ⟨hA.next,0,none⟩) n UNK) n cs:= .full (by omega) (Nat.lt_succ_self _) (z3 _ _) hlen h0
  refine Y3 ?_;refine cF hLA rfl ?_;rw[Nat.zero_add];exact⟨hA.next,UNK,rfl,by omega,ow.slice (by omega)⟩
def oy(w:List Nat×List Nat)(l:List Pb)(ns:List (List (List Nat)))(f:List Nat):Sta:=⟨f.take l.length,bF w l ns f⟩
theorem J6:∀{L:List (List Nat)},(∀f∈L,f.length=8)->∀{j:Nat} {f:List Nat},L[j]? =some f->((fsL L).drop (j*8)).take 8=fL f
 |[],_,j,f,h=>by simp at h
 |g::L,hg,0,f,h=>by
  simp at h;subst h;have e:fsL (g::L)=fL g++fsL L:=rfl;have e2:=hg g List.mem_cons_self;rw[e,Nat.zero_mul,List.drop_zero,List.take_append_of_le_length (by rw[dx,e2];exact Nat.le_refl _),List.take_of_length_le (by rw[dx,e2];exact Nat.le_refl _)]
 |g::L,hg,j+1,f,h=>by
  have e:fsL (g::L)=fL g++fsL L:=rfl;have e2:=hg g List.mem_cons_self;have e3:(fsL (g::L)).drop 8=fsL L:=by
   rw[e,List.drop_append_of_le_length (by rw[dx,e2];exact Nat.le_refl _),List.drop_of_length_le (by rw[dx,e2];exact Nat.le_refl _),List.nil_append]
  rw[show(j+1)*8=8+j*8 by omega,←List.drop_drop,e3];exact J6 (λf hf=>hg f (List.mem_cons_of_mem _ hf)) (by simpa using h)
theorem MQ{fs:List Value}{s:List Sta}{u:Value}{x:Sta}(h:fs.length=s.length):stL (fs++[u]) (s++[x])=stL fs s++[u, .int .i64 x.cost]:=by
 unfold stL;rw[List.zip_append h,List.flatMap_append];rfl
structure ElS (lo:Nat) (h:Heap) (v:Value) (fs:List Value) (s:List Sta):Prop where
 len:fs.length=s.length
 ow:Own lo h 2 v s.length (stL fs s)
 el:∀(i:Nat) u x,fs[i]? =some u->s[i]? =some x->aJ h 1 u x.found.length (fL x.found)/\∃b o k c,u= .slice (some ⟨b,o,none⟩) k c/\lo<=b/\b<h.next/\¬vB v b
theorem aJ.wD{h h':Heap}{sz n b o k c:Nat}{cs:List Value}(s:aJ h sz (.slice (some ⟨b,o,none⟩) k c) n cs)(hn:h.next<=h'.next)(ha:h'.get b=h.get b):aJ h' sz (.slice (some ⟨b,o,none⟩) k c) n cs:=by
 cases s with
 |mem s hc=>
  obtain⟨vs,own,t,h1,h2⟩:=s.obj;exact .mem ⟨Nat.lt_of_lt_of_le s.lt hn,⟨vs,own,t,ha.trans h1,h2⟩,s.len⟩ hc
theorem ElS.keep{lo:Nat}{h h':Heap}{v:Value}{fs:List Value}{s:List Sta}(E:ElS lo h v fs s)(hn:h.next<=h'.next)(ha:∀z,lo<=z->z<h.next->h'.get z=h.get z):ElS lo h' v fs s:=
 ⟨E.len,E.ow.keep hn ha,λi u x h1 h2=>by
  obtain⟨s1,b,o,k,c,rfl,e1,e2,e3⟩:=E.el i u x h1 h2;exact⟨aJ.wD s1 hn (ha b e1 e2),b,o,k,c,rfl,e1,by omega,e3⟩⟩
theorem ElS.snoc{lo:Nat}{h h':Heap}{v v':Value}{fs:List Value}{s:List Sta}{b k c:Nat}{x:Sta}(E:ElS lo h v fs s)(hlo:lo<=h.next)(ow:Own h.next h' 2 v' (s.length+1) (stL fs s++[.slice (some ⟨b,0,none⟩) k c, .int .i64 x.cost]))(hn:h.next<=h'.next)
 (ha:∀z,lo<=z->z<h.next->¬vB v z->h'.get z=h.get z)(su:aJ h 1 (.slice (some ⟨b,0,none⟩) k c) x.found.length (fL x.found))(hb:lo<=b/\b<h.next/\¬vB v b):ElS lo h' v' (fs++[.slice (some ⟨b,0,none⟩) k c]) (s++[x]):=by
 have hv:∀z,z<h.next->¬vB v' z:=λz hz ⟨a,c,e⟩=>by
  subst e;cases ow with
  |full h1 h2=>omega
 refine⟨by rw[List.length_append,List.length_append,E.len];rfl,by rw[MQ E.len,List.length_append];exact ow.low hlo,λi u y h1 h2=> ?_⟩;rcases Nat.lt_trichotomy i s.length with hi|hi|hi
 ·rw[List.getElem?_append_left (by rw[E.len];exact hi)]at h1;rw[List.getElem?_append_left hi]at h2;obtain⟨s1,b,o,k,c,rfl,e1,e2,e3⟩:=E.el i u y h1 h2;exact⟨aJ.wD s1 hn (ha b e1 e2 e3),b,o,k,c,rfl,e1,by omega,hv b e2⟩
 ·subst hi;rw[List.getElem?_append_right (by rw[E.len];exact Nat.le_refl _),E.len]at h1;rw[List.getElem?_append_right (by omega)]at h2;simp at h1 h2;subst h1;subst h2;exact⟨aJ.wD su hn (ha b hb.1 hb.2.1 hb.2.2),b,0,k,c,rfl,hb.1,by omega,hv b hb.2.1⟩
 ·rw[List.getElem?_eq_none (by rw[List.length_append,E.len];simp;omega)]at h1;cases h1
def Cf(w:List Nat×List Nat)(l:List Pb)(os:List (List Nat)):List Sta:=if opE w l os=0/\bF w l (os.map (bQ w)) z8≠0 then An w l (os.map (bQ w))else []
def Q8(w:List Nat×List Nat)(l:List Pb)(os:List (List Nat))(v:Value)(h':Heap):Prop:=∃v1,v= .tuple #[v1, .int .i64 (opE w l os)]/\rK h' v1 (Cf w l os)
theorem rK.nil{h:Heap}{c:Nat}:rK h (.slice none 0 c) []:=⟨[],rfl, .nil,λi u x h=>by simp at h⟩
theorem Ch(F:IV T){h:Heap}(hr:Rdy h)(hg:Tab h)(h2:0<h.next){w:List Nat×List Nat}(hw:IsW w){pv:Value}{l:List Pb}(sp:PbS h pv l)(hl:l.length<1000000){ov:Value}{os:List (List Nat)}(so:SsQ h ov os)(hol:os.length<1000000):
 Al T 11 [wV w,pv,ov] h (Q8 w l os):=by
 have hp:=F.od.va.op.qu.p;refine .of hp F.f59 hr (λv h1 hv ⟨v1,e,o⟩=>⟨v1,e,?_⟩) ?_
 ·subst e;obtain⟨fs,e1,e2,_⟩:=o.ex;rcases aJ.inv e2 with⟨c,rfl,e3,_⟩|⟨b,o,cap,rfl,_⟩
  ·rw[List.eq_nil_of_length_eq_zero e3];exact .nil
  ·cases hv
 have hwc:cellsOf (wV w)=wL w:=by show(wL w).toArray.toList=_;simp
 obtain⟨a,c,rfl⟩:=sp.form;obtain⟨a3,c3,rfl⟩:=so.sl.form;have x0:Ext h (h.push (.cells (cellsOf (wV w)) true 1)):=(Ext.refl h).push _;have g0:(h.push (.cells (cellsOf (wV w)) true 1)).get h.next=some (.cells (wL w) true 1):=by rw[hwc];exact z3 h _
 have n0:(h.push (.cells (cellsOf (wV w)) true 1)).next=h.next+1:=rfl
 refine Y5 ?_;generalize(h.push (.cells (cellsOf (wV w)) true 1))=H at*;have W:=x0.wf hr.wf;have hL:=x0.log.trans hr.log;have wk:=lY hw;have wkl:=jh hw;have C1:=sI F.od (h:={H with log:=[]}) (.of W) (show Tab H from hg.ext x0 h2) (by show 0<H.next;omega) hw ((sp.ext x0).log []) hl ((so.ext x0).log []) hol;refine Y5 ?_;refine FW.al C1 (λv h' m q=> ?_) ?_
 ·rcases q with q|⟨e,q,m',nv,e1,e2,e3,e4,e5⟩
  ·exact .inl q
  ·exact .inr ⟨e,q,m',nv,e1,e2,e3,e4.log m,e5⟩
 clear C1;rintro _ H1 x1 (⟨he,rfl⟩|⟨he,q,m,nv,rfl,hq1,hq2,Q1,gm⟩)
 ·unfold Q8 Cf;rw[if_neg (λe=>he e.1)];generalize opE w l os=er at*;have hL1:=x1.log.trans hL;have mn:aq .neq (.int .i64 er) (.int .i64 0)=some (.bool true):=jE he;refine Y25 ?_;exact cF hL1 rfl ⟨_,rfl, .nil⟩
 have hq1:H.next<=m:=hq1
 have n1:H.next<=H1.next:=x1.next
 have W1:=x1.wf W;have kq:=W1.bK Q1.gq;have hL1:=x1.log.trans hL;have mn:aq .neq (.int .i64 0) (.int .i64 0)=some (.bool false):=rfl;have hpc:=sL (jl.1 (nu.1 he).1).2.2.2.2;unfold Q8 Cf;rw[he];have hl8:=Q1.hl;generalize hns:os.map (bQ w)=ns at*;have C2:=lX F.od.va hpc _ (h:={H1 with log:=[]}) (.of W1) (Q1.log []) (f:=z8) rfl (Nat.le_refl _);refine Y17 ?_;refine FW.gs0 C2 (λv h' m q=>q) (λz hz=>by omega) ?_;clear C2;rintro _ H2 n2 l2 o2 w2 ⟨rfl,mm2,gm2,hm2⟩;have W2:=w2 W1;have hL2:=l2.trans hL1;by_cases hv:bF w l ns z8=0
 ·have meq:aq .eql (.int .i64 (bF w l ns z8)) (.int .i64 0)=some (.bool true):=wK hv;rw[if_neg (λe=>e.2 hv)];refine Y12 ?_;exact cF hL2 rfl ⟨_,rfl, .nil⟩
 have meq:aq .eql (.int .i64 (bF w l ns z8)) (.int .i64 0)=some (.bool false):=pq hv;rw[if_pos ⟨rfl,hv⟩];have Q2:QuH H2 q m w _ nv _ l os ns:=Q1.keep W1 n2 (λz hz hne=>o2 z hz hne) ⟨mm2,gm2,hm2⟩;have C3:=Iv F.ss (h:={H2 with log:=[]}) (.of W2) (Q2.log []);have hG8:∀g∈iE w l ns l.length 0 z8,g.length=8:=λg hg=>((uY (by show 0+l.length<=8;omega)).1 hg).2.1;have hadv:An w l ns=(iE w l ns l.length 0 z8).map (oy w l ns):=rfl;rw[hadv];have hGl:=AG (w:=w) (l:=l) (ns:=ns) (k:=l.length) (i:=0) (f:=z8);have hG9:(iE w l ns l.length 0 z8).length<=6561:=by
  have:3 ^ l.length<=3 ^ 8:=Nat.pow_le_pow_right (by omega) hl8;have:(3:Nat) ^ 8=6561:=by decide
  omega
 generalize iE w l ns l.length 0 z8=G at*;refine Y14 ?_;refine FW.al C3 (λv h' lg q=>q.log lg) ?_;clear C3;rintro sl H3 x3 ow3;have W3:=x3.wf W2;have hL3:=x3.log.trans hL2;have Q3:QuH H3 q m w _ nv _ l os ns:=Q2.ext W2 x3;have n3:=x3.next
 obtain⟨sa,sc,rfl⟩:=(ow3.slice (by omega)).form;refine Y4 ?_;refine cM (λk' e ds h'=>∃(j:Nat) (v:Value) (fs:List Value),j<=G.length/\G.length-j=k'∧e=[(1, .slice a l.length c),(8, .pointer (some ⟨q,0,none⟩)),(10,v),(30, .slice sa G.length sc),(31, .int .i64 (G.length:Nat)),(32, .int .i64 (j:Nat))]/\ds=[]/\WF h'∧h'.log=[]/\H3.next<=h'.next/\(∀z,z<H3.next->z≠m->h'.get z=H3.get z)/\(∃mm,h'.get m=some (.map (fP mm))/\lH w l ns mm)/\ElS H3.next h' v fs ((G.take j).map (oy w l ns))) ⟨0, .slice none 0 0,[],Nat.zero_le _,rfl,rfl,rfl,W3,hL3,Nat.le_refl _,λ_ _ _=>rfl,Q3.mem,rfl, .nil,λi u x h=>by simp at h⟩ ?_;rintro k' e ds hj ⟨j,v,fs,hjG,hk',rfl,rfl,Wj,lj,nj,oj,⟨mmj,gmj,hmj⟩,Ej⟩;by_cases hlt:j<G.length
 ·have mlt:aq .lss (.int .i64 (j:Nat)) (.int .i64 (G.length:Nat))=some (.bool true):=ei (by omega);obtain⟨f,hf⟩:∃f,G[j]? =some f:=⟨G[j],List.getElem?_eq_getElem hlt⟩;have hf8:=hG8 f (List.mem_of_getElem? hf);have hat:=J6 hG8 hf;have Qj:QuH hj q m w _ nv _ l os ns:=Q3.keep W3 nj oj ⟨mmj,gmj,hmj⟩;obtain⟨qs,qo,qc,hqv,sqa,_⟩:=(aJ.inv (ow3.slice (by omega))).resolve_left (λ⟨_,_,e,_⟩=>by omega);cases hqv;obtain⟨vs,own,tt,gqs,hvs⟩:=sqa.obj;have hjl:((G.take j).map (oy w l ns)).length=j:=by rw[List.length_map,List.length_take];omega
  obtain⟨va,vc,hve⟩:=(Ej.ow.slice (by omega)).form;subst hve;have kq8:cw 8 (bU (qo+j*8) vs)=fL f:=by
   rw[←hat,←hvs];simp only[bI,aT,List.drop_take,List.take_take,List.drop_drop];congr 1;omega
  have kf8:=iq hf8;have kf9:=fJ hf8;have nqm:qs≠m:=λe=>by
   obtain⟨mm,g,_⟩:=Q3.mem;rw[e,g]at gqs;cases gqs
  have kqs:=W3.bK gqs;have gqj:=(oj qs kqs nqm).trans gqs;have madj:aq .add (.int .i64 (j:Nat)) (.int .i64 1)=some (.int .i64 ((j+1:Nat):Int)):=by
   have:=kK (a:=(j:Nat)) (b:=1) (ct (by omega) (by omega));exact this
  refine Y9 ?_;refine cW (E0:=[(1, .slice a l.length c),(8, .pointer (some ⟨q,0,none⟩)),(10, .slice va ((G.take j).map (oy w l ns)).length vc),(12, .pointer (some ⟨hj.next,0,none⟩)),(30, .slice (some ⟨qs,qo,none⟩) G.length sc),(31, .int .i64 (G.length:Nat)),(32, .int .i64 (j:Nat))]) (P:=λh'=>Ext hj h'∧h'.next=hj.next+1/\h'.get hj.next=some (.cells (fL f) true 1)) ?_ ?_
  ·refine Y4 ?_;refine aD (bZ (cs:=fL f) (by exact rfl) (by exact rfl) (z3 _ _) (by rw[dx,hf8]) rfl (kN f)) ?_;refine bL ?_;refine y1 ?_;exact⟨rfl,rfl,rfl,((Ext.refl hj).push _).wr (Nat.le_refl _) (by omega),rfl,Heap.aI (z3 _ _)⟩
  rintro hA ⟨xA,nA,gA⟩;have WA:=xA.wf Wj;have lA:=xA.log.trans lj;have QA:=Qj.ext Wj xA;have EA:ElS H3.next hA (.slice va ((G.take j).map (oy w l ns)).length vc) fs ((G.take j).map (oy w l ns)):=Ej.keep xA.next λz _ hz=>xA.old z hz
  refine Y4 ?_;refine bW rfl rfl rfl (by exact rfl) (by exact rfl) (by exact rfl) (Cd (i:=0) (j:=l.length) (by exact rfl) rfl (by exact rfl) (by omega) (by omega) (by omega) (by omega)) ?_;have ht:fL (f.take l.length)=(fL f).take l.length:=by simp[fL,List.map_take]
  have htl:(f.take l.length).length=l.length:=by rw[List.length_take];omega
  have C5:=JF F (h:={hA with log:=[]}) (.of WA) (b:=hj.next) (n:=l.length) (c:=8) (cs:=fL (f.take l.length)) (.mem ⟨by show hj.next<hA.next;omega,⟨_,_,_,gA,by rw[bI,aT,List.drop_zero,Nat.mul_one,ht]⟩,by rw[dx,htl,Nat.mul_one]⟩ hl8) (by omega);refine Y3 ?_;refine FW.alD C5 (λv h' lg ⟨b,c,e1,e2,e3⟩=>⟨b,c,e1,e2,e3.log lg⟩) ?_;clear C5;rintro _ hB xB ⟨bu,cu,rfl,hbu,su⟩;have hbu:hA.next<=bu:=hbu
  have WB:=xB.wf WA;have lB:=xB.log.trans lA;have QB:=QA.ext WA xB;have EB:ElS H3.next hB (.slice va ((G.take j).map (oy w l ns)).length vc) fs ((G.take j).map (oy w l ns)):=EA.keep xB.next λz _ hz=>xB.old z hz
  have gB:=(xB.old _ (by omega)).trans gA;refine⟨_,by apply ah rfl (aa rfl (dh (by exact rfl) (by assumption) (by assumption) (by assumption)) (by exact yc _)) rfl;apply ah rfl (aa rfl (eG (by exact rfl)) (by exact aX _)) rfl;(repeat apply aG rfl);apply ah rfl (aa rfl (eG (by exact rfl)) (by exact eV _ _ _)) rfl;exact bh,?_⟩;have C6:=lX F.od.va hpc _ (h:={hB with log:=[]}) (.of WB) (QB.log []) (f:=f) hf8 (Nat.le_refl _);skip;refine qC ?_;refine FW.RF C6 (λv h' lg q=>q) ?_;clear C6;rintro _ hC lg xC hlg ⟨rfl,mmC,gmC,hmC⟩;have nC:=xC.next
  have WC:=xC.wf WB;have lC:hC.log=[]:=List.eq_nil_iff_forall_not_mem.2 λz hz=>(xC.OB z hz).elim (λe=>by rw[lB]at e;cases e) λ⟨e,e2⟩=>by
   have e:z=m:=e;omega
  refine⟨_,by(repeat apply aG rfl);apply ah rfl (aa rfl (eG (by exact rfl)) (by exact eV _ _ _)) rfl;exact bh,?_⟩;have hmH:m<H3.next:=by omega
  have EC:ElS H3.next hC (.slice va ((G.take j).map (oy w l ns)).length vc) fs ((G.take j).map (oy w l ns)):=EB.keep nC λz h1 h2=>xC.old z h2 (by show z≠m;omega)
  refine bW rfl rfl rfl (by exact rfl) (by exact rfl) (by exact rfl) (p8 (by exact rfl)) ?_;refine BO rfl rfl rfl (by exact rfl) (by exact rfl) (by exact rfl) (mT (by exact rfl) (by exact rfl)) (by refine e9 (aa rfl (p8 (by exact rfl)) (by refine pS ?_;refine di (MH _ _ _) ?_;refine di (iu _ _) ?_;exact iI)) ?_;refine e9 (aa rfl (eG (by exact rfl)) (by exact eV _ _ _)) ?_;exact Bw) ?_;refine WD.Hl ?_;intro hP hPe;have xP:Ext hC hP:=by rw[hPe];exact(Ext.refl hC).push _
  have nP:hP.next=hC.next+1:=by rw[hPe];rfl
  have gP:hP.get hC.next=some (.cells [.slice (some ⟨bu,0,none⟩) l.length cu, .int .i64 (bF w l ns f)] true 2):=by rw[hPe];exact z3 _ _
  clear hPe;have EP:ElS H3.next hP (.slice va ((G.take j).map (oy w l ns)).length vc) fs ((G.take j).map (oy w l ns)):=EC.keep xP.next λz _ h2=>xP.old z h2
  have nB:=xB.next
  refine Nk (c1:=[.slice (some ⟨bu,0,none⟩) l.length cu, .int .i64 (bF w l ns f)]) EP.ow (by omega) (by omega) (by omega) (by omega) rfl rfl rfl (by exact rfl) (by exact rfl) (by exact rfl) (vm (iN gP rfl rfl)) rfl rfl ?_;intro H9 lg9 ow9 n9 l9 w9 o9;refine⟨_,by(repeat apply aG rfl);exact bh,?_⟩;refine Y9 ?_;have htk:(G.take (j+1)).map (oy w l ns)=(G.take j).map (oy w l ns)++[oy w l ns f]:=by
   rw[List.take_add_one,hf];simp
  have W9:=w9 (xP.wf WC);have lP:=xP.log;have kbu:bu<hB.next:=by
   rcases aJ.inv su with⟨_,e,_⟩|⟨b,o,cap,e,s1,_⟩
   ·cases e
   ·cases e;exact s1.lt
  have nvb:¬vB (.slice va ((G.take j).map (oy w l ns)).length vc) bu:=λhv=>by
   have:=jF EA.ow hv;omega
  have suP:aJ hP 1 (.slice (some ⟨bu,0,none⟩) l.length cu) (oy w l ns f).found.length (fL (oy w l ns f).found):=by
   show aJ hP 1 _ (f.take l.length).length (fL (f.take l.length));rw[htl];exact(aJ.wD su nC (xC.old bu kbu (by show bu≠m;omega))).ext xP
  refine⟨G.length-(j+1),by omega,j+1,_,fs++[.slice (some ⟨bu,0,none⟩) l.length cu],by omega,rfl,rfl,rfl,W9,l9.trans (lP.trans lC),by omega,λz hz hne=>(o9 z (by omega) λq a c e e2=> ?_).trans ((xP.old z (by omega)).trans ((xC.old z (by omega) hne).trans ((xB.old z (by omega)).trans ((xA.old z (by omega)).trans (oj z hz hne))))),⟨mmC,(o9 m (by omega) λq a c e e2=> ?_).trans ((xP.old m (by omega)).trans gmC),hmC⟩,?_⟩
  ·have:=jF EP.ow ⟨a,c,e⟩;omega
  ·have:=jF EP.ow ⟨a,c,e⟩;omega
  ·rw[htk];exact ElS.snoc (x:=oy w l ns f) EP (by omega) ow9 (by omega) (λz _ h2 hv=>o9 z h2 λq a c e e2=>hv ⟨a,c,e2▸e⟩) suP ⟨by omega,by omega,nvb⟩
 ·obtain rfl:j=G.length:=by omega
  have mlt:aq .lss (.int .i64 (G.length:Nat)) (.int .i64 (G.length:Nat))=some (.bool false):=eH (by omega);rw[List.take_length]at Ej;refine Y16 ?_;have:=Ej.ow.slice (by rw[List.length_map];omega);exact cF lj rfl ⟨v,rfl,fs,Ej.len,this,λi u x h1 h2=> .inl (Ej.el i u x h1 h2).1⟩
end Go.A.Pk
end
