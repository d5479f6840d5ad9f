/- Walks of functions, plain laws, the table. -/
import Derived.Test.YtalmahakphchfaaGreatDoorNU5
import Derived.Test.YtalmahakphchfaaGreatDoorND
import Derived.Test.YtalmahakphchfaaGreatDoorNU1
import Derived.Test.YtalmahakphchfaaGreatDoorNU4
import Derived.Test.YtalmahakphchfaaGreatDoorNF
import Derived.Test.YtalmahakphchfaaGreatDoorNU2
import Derived.Test.YtalmahakphchfaaGreatDoorNU3
set_option linter.all false
set_option maxHeartbeats 16000000
set_option maxRecDepth 100000
section
namespace Go.A.Pk
variable {T:Nat->Option af}
def wdO(os:List Od)(i:Nat):Int:=match os[i]? with|some x=>(dW x.cB:Nat)|none=>0
def wdS(ss:List Sp)(i:Nat):Int:=match ss[i]? with|some x=>(dW x.cB:Nat)|none=>0
def vI(os:List Od)(nd:Int)(k n:Nat):List (Int×Int):=((List.range n).filter λi=>iw os i k).map λ(i:Nat)=>((i:Int),wdO os i-nd)
def zx(ss:List Sp)(os:List Od)(nd:Int)(k n:Nat):List (Int×Int):=((List.range n).filter λi=>iT ss os i k).map λ(i:Nat)=>(40+(i:Int),wdS ss i-nd)
def mZ(os:List Od)(ss:List Sp)(k:Nat):List (Int×Int):=vI os (wdO os k) k os.length++zx ss os (wdO os k) k ss.length
def srV(p:Int×Int):List Value:=[.int .i64 p.1, .int .i64 p.2]
theorem wQ(os:List Od)(nd:Int)(k n:Nat):vI os nd k (n+1)=vI os nd k n++(if iw os n k=true then [((n:Int),wdO os n-nd)]else []):=by
 unfold vI;rw[List.range_succ,List.filter_append,List.map_append];congr 1;cases h:iw os n k with
 |true=>simp[List.filter,h]
 |false=>simp[List.filter,h]
theorem wR(ss:List Sp)(os:List Od)(nd:Int)(k n:Nat):zx ss os nd k (n+1)=zx ss os nd k n++(if iT ss os n k=true then [(40+(n:Int),wdS ss n-nd)]else []):=by
 unfold zx;rw[List.range_succ,List.filter_append,List.map_append];congr 1;cases h:iT ss os n k with
 |true=>simp[List.filter,h]
 |false=>simp[List.filter,h]
theorem Jm(os:List Od)(nd:Int)(k:Nat){n m:Nat}(h:n<=m):vI os nd k n<+:vI os nd k m:=by
 induction h with
 |refl=>exact List.prefix_refl _
 |step _ ih=>rw[wQ];exact ih.trans (List.prefix_append _ _)
theorem Jn(ss:List Sp)(os:List Od)(nd:Int)(k:Nat){n m:Nat}(h:n<=m):zx ss os nd k n<+:zx ss os nd k m:=by
 induction h with
 |refl=>exact List.prefix_refl _
 |step _ ih=>rw[wR];exact ih.trans (List.prefix_append _ _)
theorem tE(s:List Nat):dW s<=512:=gW s 512
theorem Ij{vs:List Value}{o:Nat}{x:Od}(h:IsS x.cB)(el:bB 13 (bA o vs)=odL x):bB 8 (bA (o+5) vs)=us x.cB:=by
 refine zi el (by omega) ?_;have:=iF h
 rwa [Nat.zero_add]at this
structure BkG (H:Heap) (b1 b2 q k:Nat) (ov sv:Value) (r:Int) (os:List Od) (ss:List Sp) (fo be:List Bool) (mo ms:Nat):Prop where
 g1:H.get b1=some (.cells [.pointer (some ⟨q,0,none⟩)] true 1)
 g2:H.get b2=some (.cells [.int .i64 (k:Nat)] true 1)
 gq:H.get q=some (.cells (bkL ov sv r fo be mo ms) true 1)
 so:OdS H ov os
 sp:SpS H sv ss
structure BkT (os:List Od) (ss:List Sp) (fo be:List Bool):Prop where
 l1:fo.length=1600
 l2:be.length=800
 fo:∀a b,a<40->b<40->fo.getD (a*40+b) false=iw os a b
 be:∀a b,a<20->b<40->be.getD (a*40+b) false=iT ss os a b
structure MB (T:Nat->Option af):Prop where
 co:FB T
 f323:T 139=some f323
 f347:T 163=some f347
theorem OS(F:MB T){h:Heap}(hr:Rdy h){px:br}{W:Nat->Prop}{l N b1 b2 q k:Nat}{a a2:Option Addr}{c c2:Nat}{r:Int}{os:List Od}{ss:List Sp}{fo be:List Bool}{mo ms:Nat}{P:List (Int×Int)->Heap->Prop}{S:Heap->Prop}(hN:N<=h.next)(hlN:l<N)
 (Y:J8 px T W N l srV (mZ os ss k) P S)(hB:∀d H,P d H->BkG H b1 b2 q k (.slice a os.length c) (.slice a2 ss.length c2) r os ss fo be mo ms)(BT:BkT os ss fo be)(h0:P [] h)(hk:k<os.length)(h40:os.length<=40)(h20:ss.length<=20):
 GrW T 163 [.func (.yield l) #[] #[], .pointer (some ⟨b1,0,none⟩), .pointer (some ⟨b2,0,none⟩)] h W (P (mZ os ss k)) S:=by
 have hlb:l<h.next:=by omega
 have hp:=F.co.p;refine GrW.of (l:=l) hp F.f347 hlb (λh1 h2 hn ha q=>Y.fF _ _ _ q (Nat.le_trans hN hn) λx hx=>ha x (by omega)) Y.wO ?_;obtain⟨z,hz⟩:∃r,os[k]? =some r:=⟨os[k],List.getElem?_eq_getElem hk⟩;have B:=hB _ _ h0;have hzw:=B.so.ok z (List.mem_of_getElem? hz);have g1:=B.g1;have g2:=B.g2;have gq:=B.gq;obtain⟨b,o,cc,vs,own,tt,hv,gl,hbl,el⟩:=B.so.elem hz;cases hv;have wz1:=Ij hzw el;have zl:=aR hzw.len;have C:=nL F.co (h:={h with log:=[]}) (.of hr.wf) hzw;have q0:aT (bkL (.slice (some ⟨b,o,none⟩) os.length c) (.slice a2 ss.length c2) r fo be mo ms) (0+0+0)=some (.slice (some ⟨b,o,none⟩) os.length c):=Nd;refine Y16 ?_;refine FW.puD C (by(repeat apply aK rfl);exact bV) ?_;clear C;refine Y15 ?_;have hnd:wdO os k=((dW z.cB:Nat):Int):=by unfold wdO;rw[hz]
 refine bW (λm e ds h'=>∃i:Nat,i<=os.length/\os.length-i=m/\e=[(0, .func (.yield l) #[] #[]),(1, .pointer (some ⟨b1,0,none⟩)),(2, .pointer (some ⟨b2,0,none⟩)),(4, .func (.func 79) #[] #[]),(5, .int .i64 ((dW z.cB:Nat):Int)),(25, .slice (some ⟨b,o,none⟩) os.length c),(26, .int .i64 (os.length:Nat)),(27, .int .i64 (i:Nat))]/\ds=[]/\Ws W h h'∧P (vI os ((dW z.cB:Nat):Int) k i) h')
  ⟨0,Nat.zero_le _,rfl,rfl,rfl,(Ext.refl h).ws,h0⟩ ?_
 clear B g1 g2 gq gl el wz1 q0;rintro m e ds J ⟨i,hi,rfl,rfl,rfl,hkJ,hP⟩;have WJ:=hkJ.wf hr.wf;have BJ:=hB _ _ hP;have n1:=hkJ.next
 by_cases hlt:i<os.length
 ·obtain⟨x,hx⟩:∃r,os[i]? =some r:=⟨os[i],List.getElem?_eq_getElem hlt⟩;have hxw:=BJ.so.ok x (List.mem_of_getElem? hx);obtain⟨b',o',cc',vs',own',tt',hv,gl',hbl',el'⟩:=BJ.so.elem hx;cases hv;have mlt:ah .lss (.int .i64 (i:Nat)) (.int .i64 (os.length:Nat))=some (.bool true):=dG (by omega);have k1:=je hxw;have k2:=lH hxw;have k3:=eY hxw;have k4:=jT x;refine Y9 ?_;refine aX (E0:=[(0, .func (.yield l) #[] #[]),(1, .pointer (some ⟨b1,0,none⟩)),(2, .pointer (some ⟨b2,0,none⟩)),(4, .func (.func 79) #[] #[]),(5, .int .i64 ((dW z.cB:Nat):Int)),(6, .int .i64 (i:Nat)),(7, .pointer (some ⟨J.next,0,none⟩)),(25, .slice (some ⟨b,o,none⟩) os.length c),(26, .int .i64 (os.length:Nat)),(27, .int .i64 (i:Nat))]) (P:=λh'=>Ext J h'∧h'.next=J.next+1/\h'.get J.next=some (.cells (odL x) true 1)) ?_ ?_
  ·refine Y6 ?_;refine aA (bh (by exact rfl) (by exact rfl) YG (by assumption) (by exact rfl) (by exact cg _)) ?_;refine aO ?_;refine y1 ?_;exact⟨rfl,rfl,rfl,dI (by omega) _ _,rfl,ef _ _⟩
  rintro J1 ⟨x1,nJ1,g7⟩;have hP1:=Y.fF _ _ _ hP (by omega) (λy hy=>x1.old y (by omega));have B1:=hB _ _ hP1;have W1:=x1.wf WJ;have hk1:Ws W h J1:=hkJ.trans x1.ws;have g1':=B1.g1;have g2':=B1.g2;have gq':=B1.gq;have xl:=aR hxw.len;have x5:=iF hxw;have kf:=PG (ov:= .slice (some ⟨b,o,none⟩) os.length c) (sv:= .slice a2 ss.length c2) (r:=r) (be:=be) (mo:=mo) (ms:=ms) BT.l1 (i:=i) (k:=k) (by omega) (by omega);rw[BT.fo i k (by omega) (by omega)]at kf;have hsu:=wQ os ((dW z.cB:Nat):Int) k i;clear k1 k2 k3 k4 BJ gl' el' hP x1 WJ hkJ;cases hf:iw os i k with
  |false=>
   rw[hf]at kf hsu;rw[if_neg (by simp),List.append_nil]at hsu;refine Y33 ?_;exact⟨os.length-(i+1),by omega,i+1,by omega,rfl,rfl,rfl,hk1,by rw[hsu];exact hP1⟩
  |true=>
   rw[hf]at kf hsu;rw[if_pos rfl]at hsu;have hwd:wdO os i=((dW x.cB:Nat):Int):=by unfold wdO;rw[hx]
   have C:=nL F.co (h:={J1 with log:=[]}) (.of W1) hxw;have l1:=tE x.cB;have l2:=tE z.cB;have msub:ah .sub (.int .i64 ((dW x.cB:Nat):Int)) (.int .i64 ((dW z.cB:Nat):Int))=some (.int .i64 (((dW x.cB:Nat):Int)-((dW z.cB:Nat):Int))):=mW (bJ (by omega) (by omega));skip;have hpre:((vI os ((dW z.cB:Nat):Int) k i)++[((i:Int),((dW x.cB:Nat):Int)-((dW z.cB:Nat):Int))])<+:mZ os ss k:=by
    rw[hwd]at hsu;unfold mZ;rw[hnd];rw[←hsu];exact(Jm os _ k (by omega)).trans (List.prefix_append _ _)
   refine Y18 ?_;refine FW.puD C (by apply aM rfl (aG rfl (gG (by exact rfl)) (by exact eR _ _)) rfl;(repeat apply aK rfl);apply aM rfl (aG rfl (gG (by exact rfl)) (by exact eR _ _)) rfl;apply aM rfl (aG rfl (gG (by exact rfl)) (by exact M4 _)) rfl;(repeat apply aK rfl);exact bV) ?_;clear C;refine qW ?_;refine zF (fn:= .yield l) (args:=srV ((i:Int),((dW x.cB:Nat):Int)-((dW z.cB:Nat):Int))) rfl rfl rfl (by exact rfl) (by exact rfl) (by rfl) ?_;refine Y.MN hp hpre W1 (by omega) hlb hP1 ?_ ?_
   ·intro J3 lg hk3 hlg hP3;refine⟨_,by(repeat apply aK rfl);exact bV,?_⟩;refine Y13 ?_;exact⟨os.length-(i+1),by omega,i+1,by omega,rfl,rfl,rfl,hk1.trans hk3,by rw[hsu,hwd];exact hP3⟩
   ·intro J3 lg hk3 hlg hml hS3;refine⟨_,by(repeat apply aK rfl);exact bV,?_⟩;refine Y12 ?_;exact Ac (λz hz=>((hk1.trans hk3).log z hz).elim (λq=>by rw[hr.log]at q;cases q) id) rfl hml hS3
 ·obtain rfl:i=os.length:=by omega
  have mlt:ah .lss (.int .i64 (os.length:Nat)) (.int .i64 (os.length:Nat))=some (.bool false):=dJ (by omega);have g1:=BJ.g1;have g2:=BJ.g2;have gq:=BJ.gq;have q1:aT (bkL (.slice (some ⟨b,o,none⟩) os.length c) (.slice a2 ss.length c2) r fo be mo ms) (0+0+1)=some (.slice a2 ss.length c2):=RC;refine Y20 ?_
  refine bW (λm e ds h'=>∃i:Nat,i<=ss.length/\ss.length-i=m/\e=[(0, .func (.yield l) #[] #[]),(1, .pointer (some ⟨b1,0,none⟩)),(2, .pointer (some ⟨b2,0,none⟩)),(4, .func (.func 79) #[] #[]),(5, .int .i64 ((dW z.cB:Nat):Int)),(57, .slice a2 ss.length c2),(58, .int .i64 (ss.length:Nat)),(59, .int .i64 (i:Nat))]/\ds=[]/\Ws W h h'∧P (vI os ((dW z.cB:Nat):Int) k os.length++zx ss os ((dW z.cB:Nat):Int) k i) h')
   ⟨0,Nat.zero_le _,rfl,rfl,rfl,hkJ,by rw[show zx ss os ((dW z.cB:Nat):Int) k 0=[]from rfl,List.append_nil];exact hP⟩ ?_
  clear BJ WJ hkJ hP g1 g2 gq n1 q1 mlt;rintro m e ds J ⟨i,hi,rfl,rfl,rfl,hkJ,hP⟩;have WJ:=hkJ.wf hr.wf;have BJ:=hB _ _ hP;have n1:=hkJ.next
  by_cases hlt:i<ss.length
  ·obtain⟨x,hx⟩:∃r,ss[i]? =some r:=⟨ss[i],List.getElem?_eq_getElem hlt⟩;have hxw:=BJ.sp.ok x (List.mem_of_getElem? hx);obtain⟨b',o',cc',vs',own',tt',hv,gl',hbl',el'⟩:=BJ.sp.elem hx;cases hv;have mlt:ah .lss (.int .i64 (i:Nat)) (.int .i64 (ss.length:Nat))=some (.bool true):=dG (by omega);have k1:=iH hxw;have k2:=kn hxw;have k3:=dV hxw;have k4:=jj x;refine Y9 ?_;refine aX (E0:=[(0, .func (.yield l) #[] #[]),(1, .pointer (some ⟨b1,0,none⟩)),(2, .pointer (some ⟨b2,0,none⟩)),(4, .func (.func 79) #[] #[]),(5, .int .i64 ((dW z.cB:Nat):Int)),(8, .int .i64 (i:Nat)),(9, .pointer (some ⟨J.next,0,none⟩)),(57,(.slice (some ⟨b',o',none⟩) ss.length c2)),(58, .int .i64 (ss.length:Nat)),(59, .int .i64 (i:Nat))]) (P:=λh'=>Ext J h'∧h'.next=J.next+1/\h'.get J.next=some (.cells (spL x) true 1)) ?_ ?_
   ·refine Y6 ?_;refine aA (bh (by exact rfl) (by exact rfl) YG (by assumption) (by exact rfl) (by exact cg _)) ?_;refine aO ?_;refine y1 ?_;exact⟨rfl,rfl,rfl,dI (by omega) _ _,rfl,ef _ _⟩
   rintro J1 ⟨x1,nJ1,g7⟩;have hP1:=Y.fF _ _ _ hP (by omega) (λy hy=>x1.old y (by omega));have B1:=hB _ _ hP1;have W1:=x1.wf WJ;have hk1:Ws W h J1:=hkJ.trans x1.ws;have g1':=B1.g1;have g2':=B1.g2;have gq':=B1.gq;have xl:=aR hxw.len;have x5:=lu hxw;have kf:=PF (ov:= .slice (some ⟨b,o,none⟩) os.length c) (sv:=(.slice (some ⟨b',o',none⟩) ss.length c2)) (r:=r) (mo:=mo) (ms:=ms) BT.l1 BT.l2 (i:=i) (k:=k) (by omega) (by omega);rw[BT.be i k (by omega) (by omega)]at kf;have hsu:=wR ss os ((dW z.cB:Nat):Int) k i;clear k1 k2 k3 k4 BJ gl' el' hP x1 WJ hkJ;cases hf:iT ss os i k with
   |false=>
    rw[hf]at kf hsu;rw[if_neg (by simp),List.append_nil]at hsu;refine Y34 ?_;exact⟨ss.length-(i+1),by omega,i+1,by omega,rfl,rfl,rfl,hk1,by rw[hsu];exact hP1⟩
   |true=>
    rw[hf]at kf hsu;rw[if_pos rfl]at hsu;have hwd:wdS ss i=((dW x.cB:Nat):Int):=by unfold wdS;rw[hx]
    have C:=nL F.co (h:={J1 with log:=[]}) (.of W1) hxw;have l1:=tE x.cB;have l2:=tE z.cB;have msub:ah .sub (.int .i64 ((dW x.cB:Nat):Int)) (.int .i64 ((dW z.cB:Nat):Int))=some (.int .i64 (((dW x.cB:Nat):Int)-((dW z.cB:Nat):Int))):=mW (bJ (by omega) (by omega));have madd:ah .add (.int .i64 40) (.int .i64 (i:Nat))=some (.int .i64 (40+(i:Int))):=iD (bJ (by omega) (by omega));have hpre:((vI os ((dW z.cB:Nat):Int) k os.length++zx ss os ((dW z.cB:Nat):Int) k i)++[(40+(i:Int),((dW x.cB:Nat):Int)-((dW z.cB:Nat):Int))])<+:mZ os ss k:=by
     rw[hwd]at hsu;unfold mZ;rw[hnd];rw[List.append_assoc,←hsu];exact List.prefix_append_right_inj _|>.2 (Jn ss os _ k (by omega))
    refine Y19 ?_;refine FW.puD C (by apply aM rfl (aG rfl (gG (by exact rfl)) (by exact eR _ _)) rfl;(repeat apply aK rfl);apply aM rfl (aG rfl (tV (by exact rfl) (by exact rfl) (by with_reducible assumption)) (by exact eR _ _)) rfl;apply aM rfl (aG rfl (gG (by exact rfl)) (by exact eR _ _)) rfl;apply aM rfl (aG rfl (gG (by exact rfl)) (by exact M4 _)) rfl;(repeat apply aK rfl);exact bV) ?_;clear C;refine qW ?_;refine zF (fn:= .yield l) (args:=srV (40+(i:Int),((dW x.cB:Nat):Int)-((dW z.cB:Nat):Int))) rfl rfl rfl (by exact rfl) (by exact rfl) (by rfl) ?_;refine Y.MN hp hpre W1 (by omega) hlb hP1 ?_ ?_
    ·intro J3 lg hk3 hlg hP3;refine⟨_,by(repeat apply aK rfl);exact bV,?_⟩;refine Y13 ?_;exact⟨ss.length-(i+1),by omega,i+1,by omega,rfl,rfl,rfl,hk1.trans hk3,by rw[hsu,hwd,←List.append_assoc];exact hP3⟩
    ·intro J3 lg hk3 hlg hml hS3;refine⟨_,by(repeat apply aK rfl);exact bV,?_⟩;refine Y11 ?_;exact Ac (λz hz=>((hk1.trans hk3).log z hz).elim (λq=>by rw[hr.log]at q;cases q) id) rfl hml hS3
  ·obtain rfl:i=ss.length:=by omega
   have mlt:ah .lss (.int .i64 (ss.length:Nat)) (.int .i64 (ss.length:Nat))=some (.bool false):=dJ (by omega);refine Y9 ?_;exact Gx (λz hz=>(hkJ.log z hz).elim (λq=>by rw[hr.log]at q;cases q) id) rfl (by unfold mZ;rw[hnd];exact hP)
end Go.A.Pk
end
section
namespace Go.A.Pk
abbrev Mt:=List Int×List Int
def toA(m:Mt)(s:Nat):Int:=m.2.getD s (-1)
def frA(m:Mt)(k:Nat):Int:=m.1.getD k (-1)
def iz(m:Mt)(k s:Nat):Mt:=(m.1.set k (s:Int),m.2.set s (k:Int))
def snA(sn:List Bool)(s:Nat):Bool:=sn.getD s true
def ei(rc:Mt->List Bool->Nat->Bool×Mt×List Bool)(k:Nat):List Nat->Mt->List Bool->Bool×Mt×List Bool
 |[],m,sn=>(false,m,sn)
 |s::l,m,sn=>
  if snA sn s=true then ei rc k l m sn else
  if toA m s<0 then(true,iz m k s,sn.set s true)else
  if(rc m (sn.set s true) (toA m s).toNat).1=true then(true,iz (rc m (sn.set s true) (toA m s).toNat).2.1 k s,(rc m (sn.set s true) (toA m s).toNat).2.2)
  else ei rc k l (rc m (sn.set s true) (toA m s).toNat).2.1 (rc m (sn.set s true) (toA m s).toNat).2.2
def aug(adj:Nat->List Nat):Nat->Mt->List Bool->Nat->Bool×Mt×List Bool
 |0,m,sn,_=>(false,m,sn)
 |f+1,m,sn,k=>ei (aug adj f) k (adj k) m sn
theorem rU{α:Type}{l:List α}{i j:Nat}{a d:α}:(l.set i a).getD j d=if i=j/\i<l.length then a else l.getD j d:=by
 rw[List.getD_eq_getElem?_getD,List.getD_eq_getElem?_getD,List.getElem?_set];by_cases h:i=j
 ·subst h;by_cases h2:i<l.length
  ·rw[if_pos rfl,if_pos h2,if_pos ⟨rfl,h2⟩];rfl
  ·rw[if_pos rfl,if_neg h2,if_neg (λq=>h2 q.2),List.getElem?_eq_none (by omega)]
 ·rw[if_neg h,if_neg (λq=>h q.1)]
theorem wP{sn:List Bool}{s:Nat}(h:snA sn s=false):s<sn.length:=by
 rcases Nat.lt_or_ge s sn.length with q|q
 ·exact q
 ·unfold snA at h;rw[List.getD_eq_getElem?_getD,List.getElem?_eq_none q]at h;cases h
theorem sB{sn:List Bool}{s t:Nat}(h:snA sn s=false):snA (sn.set s true) t=if s=t then true else snA sn t:=by
 unfold snA;rw[rU];by_cases e:s=t
 ·rw[if_pos ⟨e,wP h⟩,if_pos e]
 ·rw[if_neg (λq=>e q.1),if_neg e]
theorem zv{sn:List Bool}{s t:Nat}(h:snA sn s=false):snA (sn.set s true) t=false↔s≠t/\snA sn t=false:=by
 rw[sB h];by_cases e:s=t
 ·rw[if_pos e];simp[e]
 ·rw[if_neg e];simp[e]
theorem mF:∀{sn:List Bool} {s:Nat},snA sn s=false->(sn.set s true).count false+1=sn.count false
 |[],s,h=>absurd (wP h) (by simp)
 |b::sn,0,h=>by
  have:b=false:=h;subst this;simp
 |b::sn,s+1,h=>by
  have:=mF (sn:=sn) (s:=s) h;rw[List.set_cons_succ,List.count_cons,List.count_cons];omega
theorem to_put{m:Mt}{k s t:Nat}(h:s<m.2.length):toA (iz m k s) t=if s=t then(k:Int)else toA m t:=by
 unfold toA iz;rw[rU];by_cases e:s=t
 ·rw[if_pos ⟨e,h⟩,if_pos e]
 ·rw[if_neg (λq=>e q.1),if_neg e]
theorem GG{m:Mt}{k s j:Nat}(h:k<m.1.length):frA (iz m k s) j=if k=j then(s:Int)else frA m j:=by
 unfold frA iz;rw[rU];by_cases e:k=j
 ·rw[if_pos ⟨e,h⟩,if_pos e]
 ·rw[if_neg (λq=>e q.1),if_neg e]
section
variable (adj:Nat->List Nat)
structure xh (m:Mt) (sn:List Bool) (k:Nat) (l:List Nat) (r:Bool×Mt×List Bool):Prop where
 Hg:r.2.1.1.length=m.1.length
 BK:r.2.1.2.length=m.2.length
 Av:r.2.2.length=sn.length
 mono:∀s,snA sn s=true->snA r.2.2 s=true
 cnt:r.2.2.count false<=sn.count false
 fail:r.1=false->r.2.1=m
 xN:r.1=false->(∀s∈l,snA r.2.2 s=true)/\∀s,snA r.2.2 s=true->snA sn s=false->0<=toA m s/\∀t∈adj (toA m s).toNat,snA r.2.2 t=true
end
section
variable {adj:Nat->List Nat}
theorem ua{N:Nat}{rc:Mt->List Bool->Nat->Bool×Mt×List Bool}(hrc:∀m sn k,sn.count false<N->xh adj m sn k (adj k) (rc m sn k)){k:Nat}:∀{l:List Nat} {m:Mt} {sn:List Bool},sn.count false<=N->xh adj m sn k l (ei rc k l m sn)
 |[],m,sn,_=>⟨rfl,rfl,rfl,λ_ h=>h,Nat.le_refl _,λ_=>rfl,λ_=>⟨λs hs=>(by cases hs),λs h1 h2=>by rw[show(ei rc k [] m sn).2.2=sn from rfl]at h1;rw[h1]at h2;cases h2⟩⟩
 |s::l,m,sn,hN=>by
  unfold ei;cases hs:snA sn s with
  |true=>
   rw[if_pos rfl];have ih:=ua hrc (k:=k) (l:=l) (m:=m) (sn:=sn) hN;refine⟨ih.Hg,ih.BK,ih.Av,ih.mono,ih.cnt,ih.fail,λh=>⟨λt ht=> ?_,(ih.xN h).2⟩⟩;rcases List.mem_cons.1 ht with rfl|ht
   ·exact ih.mono _ hs
   ·exact(ih.xN h).1 t ht
  |false=>
   rw[if_neg (by simp)];have hc:=mF hs;by_cases ht:toA m s<0
   ·rw[if_pos ht];refine⟨by simp[iz],by simp[iz],by simp,λt h=> ?_,by show(sn.set s true).count false<=_;omega,λh=>(by cases h),λh=>(by cases h)⟩;show snA (sn.set s true) t=true;rw[sB hs];split<;>simp_all
   ·rw[if_neg ht];have hr:=hrc m (sn.set s true) (toA m s).toNat (by omega);generalize rc m (sn.set s true) (toA m s).toNat=r at*;obtain⟨b,m1,s1⟩:=r;have hm1:∀t,snA sn t=true->snA s1 t=true:=λt h=>hr.mono t (by rw[sB hs];split<;>simp_all);have hc1:=hr.cnt;cases b with
    |true=>
     rw[if_pos rfl];refine⟨?_,?_,?_,hm1,?_,λh=>(by cases h),λh=>(by cases h)⟩
     ·show(iz m1 k s).1.length=_;unfold iz;rw[List.length_set];exact hr.Hg
     ·show(iz m1 k s).2.length=_;unfold iz;rw[List.length_set];exact hr.BK
     ·show s1.length=_;rw[←@List.length_set _ sn s true];exact hr.Av
     ·show s1.count false<=_;have:s1.count false<=(sn.set s true).count false:=hc1;omega
    |false=>
     rw[if_neg (by simp)];obtain rfl:m1=m:=hr.fail rfl;obtain⟨c1,c2⟩:=hr.xN rfl;have hcl:s1.count false<=(sn.set s true).count false:=hc1;have ih:=ua hrc (k:=k) (l:=l) (m:=m1) (sn:=s1) (by omega);have hls:s1.length=sn.length:=by rw[←@List.length_set _ sn s true];exact hr.Av
     have hs1:snA s1 s=true:=hr.mono s (by rw[sB hs,if_pos rfl]);dsimp only at*;refine⟨ih.Hg,ih.BK,ih.Av.trans hls,λt h=>ih.mono t (hm1 t h),Nat.le_trans ih.cnt (by omega),ih.fail,λh=>⟨λt ht=> ?_,λt h1 h2=> ?_⟩⟩
     ·rcases List.mem_cons.1 ht with rfl|ht
      ·exact ih.mono _ hs1
      ·exact(ih.xN h).1 t ht
     ·cases hq:snA s1 t with
      |false=>exact(ih.xN h).2 t h1 hq
      |true=>
       by_cases e:s=t
       ·subst e;exact⟨by omega,λu hu=>ih.mono u (c1 u hu)⟩
       ·have:=c2 t hq ((zv hs).2 ⟨e,h2⟩);exact⟨this.1,λu hu=>ih.mono u (this.2 u hu)⟩
theorem uc:∀{f:Nat} {m:Mt} {sn:List Bool} {k:Nat},sn.count false<f->xh adj m sn k (adj k) (aug adj f m sn k)
 |0,_,_,_,h=>by omega
 |f+1,m,sn,k,h=>ua (N:=f) (λm sn k h=>uc h) (by omega)
def lD(adj:Nat->List Nat)(m:Mt)(C:Nat->Prop):Prop:=∀s,C s->0<=toA m s/\∀t∈adj (toA m s).toNat,C t
theorem xF{N:Nat}{C:Nat->Prop}{rc:Mt->List Bool->Nat->Bool×Mt×List Bool}(hrs:∀m sn k,sn.count false<N->xh adj m sn k (adj k) (rc m sn k))(hrc:∀m sn k,sn.count false<N->lD adj m C->(∀t∈adj k,C t)->(rc m sn k).1=false){k:Nat}:
 ∀{l:List Nat} {m:Mt} {sn:List Bool},sn.count false<=N->lD adj m C->(∀t∈l,C t)->(ei rc k l m sn).1=false
 |[],_,_,_,_,_=>rfl
 |s::l,m,sn,hN,hC,hl=>by
  have hl':∀t∈l,C t:=λt h=>hl t (List.mem_cons_of_mem _ h);have hsC:=hC s (hl s List.mem_cons_self);unfold ei;cases hs:snA sn s with
  |true=>rw[if_pos rfl];exact xF hrs hrc hN hC hl'
  |false=>
   rw[if_neg (by simp),if_neg (by omega)];have hc:=mF hs;have h1:=hrc m (sn.set s true) (toA m s).toNat (by omega) hC hsC.2;have h2:=hrs m (sn.set s true) (toA m s).toNat (by omega);rw[h1,if_neg (by simp),h2.fail h1];exact xF hrs hrc (by have:=h2.cnt;omega) hC hl'
theorem Gg{C:Nat->Prop}:∀{f:Nat} {m:Mt} {sn:List Bool} {k:Nat},sn.count false<f->lD adj m C->(∀t∈adj k,C t)->(aug adj f m sn k).1=false
 |0,_,_,_,h,_,_=>by omega
 |f+1,m,sn,k,h,hC,hk=>xF (N:=f) (λ_ _ _ h=>uc h) (λ_ _ _ h h1 h2=>Gg h h1 h2) (by omega) hC hk
theorem rP{N:Nat}{C:Nat->Prop}{rc:Mt->List Bool->Nat->Bool×Mt×List Bool}(hrs:∀m sn k,sn.count false<N->xh adj m sn k (adj k) (rc m sn k))(hno:∀m sn k,sn.count false<N->lD adj m C->(∀t∈adj k,C t)->(rc m sn k).1=false)(hrc:∀m sn k,sn.count false<N->sn.length<=m.2.length->lD adj m C->∀s,C s->toA (rc m sn k).2.1 s=toA m s){k:Nat}:
 ∀{l:List Nat} {m:Mt} {sn:List Bool},sn.count false<=N->sn.length<=m.2.length->lD adj m C->∀s,C s->toA (ei rc k l m sn).2.1 s=toA m s
 |[],_,_,_,_,_,_,_=>rfl
 |s::l,m,sn,hN,hB,hC,t,ht=>by
  unfold ei;cases hs:snA sn s with
  |true=>rw[if_pos rfl];exact rP hrs hno hrc hN hB hC t ht
  |false=>
   have hsl:=wP hs;rw[if_neg (by simp)];by_cases h0:toA m s<0
   ·rw[if_pos h0];show toA (iz m k s) t=_;rw[to_put (by omega),if_neg];rintro rfl;have:=(hC s ht).1;omega
   ·rw[if_neg h0];have hc:=mF hs;have h2:=hrs m (sn.set s true) (toA m s).toNat (by omega);have h3:=hrc m (sn.set s true) (toA m s).toNat (by omega) (by rw[List.length_set];exact hB) hC t ht;by_cases h1:(rc m (sn.set s true) (toA m s).toNat).1=true
    ·rw[if_pos h1];show toA (iz _ k s) t=_;rw[to_put (by rw[h2.BK];omega),if_neg,h3];rintro rfl;rw[hno m (sn.set s true) (toA m s).toNat (by omega) hC (hC s ht).2]at h1;cases h1
    ·rw[if_neg h1,h2.fail (by simpa using h1)];exact rP hrs hno hrc (by have:=h2.cnt;omega) (by rw[h2.Av,List.length_set];exact hB) hC t ht
theorem zP{C:Nat->Prop}:∀{f:Nat} {m:Mt} {sn:List Bool} {k:Nat},sn.count false<f->sn.length<=m.2.length->lD adj m C->∀s,C s->toA (aug adj f m sn k).2.1 s=toA m s
 |0,_,_,_,h,_,_,_,_=>by omega
 |f+1,m,sn,k,h,hB,hC,s,hs=>rP (N:=f) (λ_ _ _ h=>uc h) (λ_ _ _ h h1 h2=>Gg h h1 h2) (λ_ _ _ h hb h1=>zP h hb h1) (by omega) hB hC s hs
structure tj (m:Mt) (sn:List Bool) (k:Nat):Prop where
 inj:∀s t,snA sn s=false->snA sn t=false->0<=toA m s->toA m s=toA m t->s=t
 out:∀s,snA sn s=false->toA m s≠k
 fr:∀s,snA sn s=false->0<=toA m s->frA m (toA m s).toNat=s
 bd:∀s,snA sn s=false->toA m s<m.1.length
 kb:k<m.1.length
 sb:sn.length<=m.2.length
structure rI (m:Mt) (sn:List Bool) (k:Nat) (m':Mt):Prop where
 inj:∀s t,snA sn s=false->snA sn t=false->0<=toA m' s->toA m' s=toA m' t->s=t
 fr:∀s,snA sn s=false->0<=toA m' s->frA m' (toA m' s).toNat=s
 frame:∀s,snA sn s=true->toA m' s=toA m s
 has:∃s,snA sn s=false/\toA m' s=k
 im1:∀s,snA sn s=false->0<=toA m s->∃t,snA sn t=false/\toA m' t=toA m s
 im2:∀s,snA sn s=false->0<=toA m' s->toA m' s=k∨∃t,snA sn t=false/\toA m t=toA m' s
 frf:∀j:Nat,j≠k->(∀s,snA sn s=false->toA m s≠j)->frA m' j=frA m j
theorem rI.put{m:Mt}{sn:List Bool}{k s:Nat}(P:tj m sn k)(hs:snA sn s=false)(h0:toA m s<0):rI m sn k (iz m k s):=by
 have hsl:s<m.2.length:=Nat.lt_of_lt_of_le (wP hs) P.sb;have hT:∀t,toA (iz m k s) t=if s=t then(k:Int)else toA m t:=λt=>to_put hsl
 have hF:∀j,frA (iz m k s) j=if k=j then(s:Int)else frA m j:=λj=>GG P.kb
 refine⟨λa b ha hb h1 h2=> ?_,λa ha h1=> ?_,λa ha=> ?_,⟨s,hs,by rw[hT,if_pos rfl]⟩,λa ha h1=>⟨a,ha,?_⟩,λa ha h1=> ?_,λj hj _=>by rw[hF,if_neg (Ne.symm hj)]⟩
 ·rw[hT,hT]at h2;rw[hT]at h1;by_cases e1:s=a<;>by_cases e2:s=b
  ·exact e1.symm.trans e2
  ·rw[if_pos e1,if_neg e2]at h2;exact absurd h2.symm (P.out b hb)
  ·rw[if_neg e1,if_pos e2]at h2;exact absurd h2 (P.out a ha)
  ·rw[if_neg e1]at h1 h2;rw[if_neg e2]at h2;exact P.inj a b ha hb h1 h2
 ·rw[hT]at h1⊢;by_cases e:s=a
  ·rw[if_pos e,hF,if_pos (by simp),e]
  ·rw[if_neg e]at h1⊢;rw[hF,if_neg,P.fr a ha h1];intro q;exact P.out a ha (by omega)
 ·rw[hT,if_neg];rintro rfl;rw[hs]at ha;cases ha
 ·rw[hT,if_neg];rintro rfl;omega
 ·rw[hT]at h1⊢;by_cases e:s=a
  ·rw[if_pos e];exact .inl rfl
  ·rw[if_neg e];exact .inr ⟨a,ha,rfl⟩
theorem rI.step{m m1:Mt}{sn:List Bool}{k s:Nat}(P:tj m sn k)(hs:snA sn s=false)(h0:¬toA m s<0)(l1:m1.1.length=m.1.length)(l2:m1.2.length=m.2.length)(O:rI m (sn.set s true) (toA m s).toNat m1):rI m sn k (iz m1 k s):=by
 have hsl:s<m1.2.length:=by rw[l2];exact Nat.lt_of_lt_of_le (wP hs) P.sb
 have hT:∀t,toA (iz m1 k s) t=if s=t then(k:Int)else toA m1 t:=λt=>to_put hsl
 have hF:∀j,frA (iz m1 k s) j=if k=j then(s:Int)else frA m1 j:=λj=>GG (by rw[l1];exact P.kb)
 have hU:∀t,snA (sn.set s true) t=false↔s≠t/\snA sn t=false:=λt=>zv hs;have hks:(((toA m s).toNat:Nat):Int)=toA m s:=by omega
 have hk1:∀a,s≠a->snA sn a=false->0<=toA m1 a->toA m1 a≠k:=λa e ha h1 q=>by
  rcases O.im2 a ((hU a).2 ⟨e,ha⟩) h1 with q2|⟨t,ht,q2⟩
  ·exact P.out s hs (by omega)
  ·exact P.out t ((hU t).1 ht).2 (by omega)
 refine⟨λa b ha hb h1 h2=> ?_,λa ha h1=> ?_,λa ha=> ?_,⟨s,hs,by rw[hT,if_pos rfl]⟩,λa ha h1=> ?_,λa ha h1=> ?_,λj hj hj2=> ?_⟩
 ·rw[hT,hT]at h2;rw[hT]at h1;by_cases e1:s=a<;>by_cases e2:s=b
  ·exact e1.symm.trans e2
  ·rw[if_pos e1,if_neg e2]at h2;exact absurd h2.symm (hk1 b e2 hb (by omega))
  ·rw[if_neg e1,if_pos e2]at h2;exact absurd h2 (hk1 a e1 ha (by omega))
  ·rw[if_neg e1]at h1 h2;rw[if_neg e2]at h2;exact O.inj a b ((hU a).2 ⟨e1,ha⟩) ((hU b).2 ⟨e2,hb⟩) h1 h2
 ·rw[hT]at h1⊢;by_cases e:s=a
  ·rw[if_pos e,hF,if_pos (by simp),e]
  ·rw[if_neg e]at h1⊢;rw[hF,if_neg,O.fr a ((hU a).2 ⟨e,ha⟩) h1];intro q;exact hk1 a e ha h1 (by omega)
 ·have e:s≠a:=by rintro rfl;rw[hs]at ha;cases ha
  rw[hT,if_neg e];exact O.frame a (by rw[sB hs,if_neg e];exact ha)
 ·by_cases e:s=a
  ·subst e;obtain⟨t,ht,q⟩:=O.has;have:=(hU t).1 ht;exact⟨t,this.2,by rw[hT,if_neg this.1,q,hks]⟩
  ·obtain⟨t,ht,q⟩:=O.im1 a ((hU a).2 ⟨e,ha⟩) h1;have:=(hU t).1 ht;exact⟨t,this.2,by rw[hT,if_neg this.1,q]⟩
 ·rw[hT]at h1⊢;by_cases e:s=a
  ·rw[if_pos e];exact .inl rfl
  ·rw[if_neg e]at h1⊢;rcases O.im2 a ((hU a).2 ⟨e,ha⟩) h1 with q|⟨t,ht,q⟩
   ·exact .inr ⟨s,hs,by omega⟩
   ·exact .inr ⟨t,((hU t).1 ht).2,q⟩
 ·rw[hF,if_neg (Ne.symm hj)];refine O.frf j (λq=> ?_) λt ht=>hj2 t ((hU t).1 ht).2;exact hj2 s hs (by omega)
theorem rI.wide{m m':Mt}{sn s1:List Bool}{k:Nat}(P:tj m sn k)(hm:∀s,snA sn s=true->snA s1 s=true)(O:rI m s1 k m'):rI m sn k m':=by
 have hF:∀t,snA s1 t=false->snA sn t=false:=λt h=>by
  cases q:snA sn t with
  |false=>rfl
  |true=>rw[hm t q]at h;cases h
 have key:∀a b,snA sn a=false->snA s1 a=true->snA s1 b=false->0<=toA m' a->toA m' a=toA m' b->False:=λa b ha ha1 hb h1 h2=>by
  have e:=O.frame a ha1;rw[e]at h1 h2;rcases O.im2 b hb (by omega)with q|⟨t,ht,q⟩
  ·exact P.out a ha (by omega)
  ·have:=P.inj a t ha (hF t ht) h1 (by omega);subst this;rw[ha1]at ht;cases ht
 refine⟨λa b ha hb h1 h2=> ?_,λa ha h1=> ?_,λa ha=>O.frame a (hm a ha),?_,λa ha h1=> ?_,λa ha h1=> ?_,λj hj hj2=>O.frf j hj λt ht=>hj2 t (hF t ht)⟩
 ·cases ha1:snA s1 a with
  |false=>
   cases hb1:snA s1 b with
   |false=>exact O.inj a b ha1 hb1 h1 h2
   |true=>exact(key b a hb hb1 ha1 (by omega) h2.symm).elim
  |true=>
   cases hb1:snA s1 b with
   |false=>exact(key a b ha ha1 hb1 h1 h2).elim
   |true=>
    rw[O.frame a ha1]at h1 h2;rw[O.frame b hb1]at h2;exact P.inj a b ha hb h1 h2
 ·cases ha1:snA s1 a with
  |false=>exact O.fr a ha1 h1
  |true=>
   have e:=O.frame a ha1;rw[e]at h1⊢;have hj:(((toA m a).toNat:Nat):Int)=toA m a:=by omega
   rw[O.frf (toA m a).toNat (λq=>P.out a ha (by omega)) λt ht q=> ?_]
   ·exact P.fr a ha h1
   ·have:=P.inj a t ha (hF t ht) h1 (by omega);subst this;rw[ha1]at ht;cases ht
 ·obtain⟨s,hs,q⟩:=O.has;exact⟨s,hF s hs,q⟩
 ·cases ha1:snA s1 a with
  |false=>
   obtain⟨t,ht,q⟩:=O.im1 a ha1 h1;exact⟨t,hF t ht,q⟩
  |true=>exact⟨a,ha,O.frame a ha1⟩
 ·cases ha1:snA s1 a with
  |false=>
   rcases O.im2 a ha1 h1 with q|⟨t,ht,q⟩
   ·exact .inl q
   ·exact .inr ⟨t,hF t ht,q⟩
  |true=>exact .inr ⟨a,ha,(O.frame a ha1).symm⟩
theorem tj.sub{m:Mt}{sn s1:List Bool}{k:Nat}(P:tj m sn k)(hm:∀s,snA sn s=true->snA s1 s=true)(hl:s1.length<=sn.length):tj m s1 k:=by
 have hF:∀t,snA s1 t=false->snA sn t=false:=λt h=>by
  cases q:snA sn t with
  |false=>rfl
  |true=>rw[hm t q]at h;cases h
 exact⟨λs t hs ht=>P.inj s t (hF s hs) (hF t ht),λs hs=>P.out s (hF s hs),λs hs=>P.fr s (hF s hs),λs hs=>P.bd s (hF s hs),P.kb,Nat.le_trans hl P.sb⟩
theorem tj.TE{m:Mt}{sn:List Bool}{k s:Nat}(P:tj m sn k)(hs:snA sn s=false)(h0:¬toA m s<0):tj m (sn.set s true) (toA m s).toNat:=by
 have hU:∀t,snA (sn.set s true) t=false↔s≠t/\snA sn t=false:=λt=>zv hs;refine⟨λa b ha hb=>P.inj a b ((hU a).1 ha).2 ((hU b).1 hb).2,λa ha q=> ?_,λa ha=>P.fr a ((hU a).1 ha).2,λa ha=>P.bd a ((hU a).1 ha).2,by have:=P.bd s hs;omega,by rw[List.length_set];exact P.sb⟩;have:=(hU a).1 ha;exact this.1 (P.inj s a hs this.2 (by omega) (by omega))
def xk(adj:Nat->List Nat)(m:Mt):Prop:=∀s,0<=toA m s->s∈adj (toA m s).toNat
theorem Bv{N:Nat}{rc:Mt->List Bool->Nat->Bool×Mt×List Bool}(hrs:∀m sn k,sn.count false<N->xh adj m sn k (adj k) (rc m sn k))(hrc:∀m sn k,sn.count false<N->tj m sn k->xk adj m->(rc m sn k).1=true->rI m sn k (rc m sn k).2.1/\xk adj (rc m sn k).2.1){k:Nat}:
 ∀{l:List Nat} {m:Mt} {sn:List Bool},(∀s∈l,s∈adj k)->sn.count false<=N->tj m sn k->xk adj m->(ei rc k l m sn).1=true->rI m sn k (ei rc k l m sn).2.1/\xk adj (ei rc k l m sn).2.1
 |[],_,_,_,_,_,_,h=>by cases h
 |s::l,m,sn,hl,hN,P,hE,h=>by
  have hl':∀s∈l,s∈adj k:=λt ht=>hl t (List.mem_cons_of_mem _ ht);have edge:∀m1:Mt,s<m1.2.length->xk adj m1->xk adj (iz m1 k s):=λm1 hsl h1 t ht=>by
   rw[to_put hsl]at ht⊢;by_cases e:s=t
   ·rw[if_pos e];subst e;exact hl s List.mem_cons_self
   ·rw[if_neg e]at ht⊢;exact h1 t ht
  unfold ei at h⊢;cases hs:snA sn s with
  |true=>
   rw[hs,if_pos rfl]at h;rw[if_pos rfl];exact Bv hrs hrc hl' hN P hE h
  |false=>
   have hsl:s<m.2.length:=Nat.lt_of_lt_of_le (wP hs) P.sb;rw[hs,if_neg (by simp)]at h;rw[if_neg (by simp)];by_cases h0:toA m s<0
   ·rw[if_pos h0];exact⟨rI.put P hs h0,edge m hsl hE⟩
   ·rw[if_neg h0]at h⊢;have hc:=mF hs;have h2:=hrs m (sn.set s true) (toA m s).toNat (by omega);have h3:=hrc m (sn.set s true) (toA m s).toNat (by omega) (P.TE hs h0) hE;by_cases h1:(rc m (sn.set s true) (toA m s).toNat).1=true
    ·rw[if_pos h1];obtain⟨o1,o2⟩:=h3 h1;exact⟨rI.step P hs h0 h2.Hg h2.BK o1,edge _ (by rw[h2.BK];exact hsl) o2⟩
    ·rw[if_neg h1]at h⊢;rw[h2.fail (by simpa using h1)]at h⊢;have hm:∀t,snA sn t=true->snA (rc m (sn.set s true) (toA m s).toNat).2.2 t=true:=λt ht=>h2.mono t (by rw[sB hs];split<;>simp_all);obtain⟨o1,o2⟩:=Bv hrs hrc hl' (by have:=h2.cnt;omega) (P.sub hm (by rw[h2.Av,List.length_set];exact Nat.le_refl _)) hE h;exact⟨o1.wide P hm,o2⟩
theorem MK:∀{f:Nat} {m:Mt} {sn:List Bool} {k:Nat},sn.count false<f->tj m sn k->xk adj m->(aug adj f m sn k).1=true->rI m sn k (aug adj f m sn k).2.1/\xk adj (aug adj f m sn k).2.1
 |0,_,_,_,h,_,_,_=>by omega
 |f+1,m,sn,k,h,P,hE,h1=>Bv (N:=f) (λ_ _ _ h=>uc h) (λ_ _ _ h a b c=>MK h a b c) (λs hs=>hs) (by omega) P hE h1
end
def lS(adj:Nat->List Nat)(B:Nat)(r:Mt×Nat)(k:Nat):Mt×Nat:=((aug adj (B+1) r.1 (List.replicate B false) k).2.1,if(aug adj (B+1) r.1 (List.replicate B false) k).1=true then r.2+1 else r.2)
def mtN(adj:Nat->List Nat)(A B n:Nat):Mt×Nat:=(List.range n).foldl (lS adj B) ((List.replicate A (-1),List.replicate B (-1)),0)
theorem Ct{B s:Nat}:snA (List.replicate B false) s=false↔s<B:=by
 unfold snA;rw[List.getD_eq_getElem?_getD,List.getElem?_replicate];by_cases h:s<B
 ·rw[if_pos h];simp[h]
 ·rw[if_neg h];simp[h]
structure MtI (adj:Nat->List Nat) (A B k:Nat) (m:Mt) (many:Nat):Prop where
 l1:m.1.length=A
 l2:m.2.length=B
 inj:∀s t,0<=toA m s->toA m s=toA m t->s=t
 bd:∀s,toA m s<k
 fr:∀s,0<=toA m s->frA m (toA m s).toNat=s
 to:∀j,0<=frA m j->toA m (frA m j).toNat=j
 edg:xk adj m
 cnt:((List.range k).filter λj=>decide (0<=frA m j)).length=many
 xN:∃C:Nat->Prop,lD adj m C/\∀j,j<k->frA m j<0->∀t∈adj j,C t
 low:∀j,k<=j->frA m j= -1
theorem to_lt{m:Mt}{s:Nat}(h:0<=toA m s):s<m.2.length:=by
 rcases Nat.lt_or_ge s m.2.length with q|q
 ·exact q
 ·unfold toA at h;rw[List.getD_eq_getElem?_getD,List.getElem?_eq_none q]at h;exact absurd h (by decide)
theorem MtI.init(adj:Nat->List Nat)(A B:Nat):MtI adj A B 0 (List.replicate A (-1),List.replicate B (-1)) 0:=by
 have ht:∀s,toA (List.replicate A (-1),List.replicate B (-1)) s= -1:=λs=>by
  unfold toA;rw[List.getD_eq_getElem?_getD,List.getElem?_replicate];split<;>rfl
 have hf:∀s,frA (List.replicate A (-1),List.replicate B (-1)) s= -1:=λs=>by
  unfold frA;rw[List.getD_eq_getElem?_getD,List.getElem?_replicate];split<;>rfl
 refine⟨List.length_replicate,List.length_replicate,λs t h=> ?_,λs=> ?_,λs h=> ?_,λs h=> ?_,λs h=> ?_,rfl,⟨λ_=>False,λs h=>h.elim,λj h=>absurd h (by omega)⟩,λj _=>hf j⟩
 ·rw[ht]at h;omega
 ·rw[ht];omega
 ·rw[ht]at h;omega
 ·rw[hf]at h;omega
 ·rw[ht]at h;omega
theorem wq:∀{l l':List Nat},l.Nodup->(∀x∈l,x∈l')->l.length<=l'.length
 |[],_,_,_=>Nat.zero_le _
 |x::l,l',hn,hs=>by
  have hx:=hs x List.mem_cons_self;have hn':=List.nodup_cons.1 hn;have ih:=wq (l:=l) (l':=l'.erase x) hn'.2 λy hy=>(List.mem_erase_of_ne (λe=>hn'.1 (by rw[←e];exact hy))).2 (hs y (List.mem_cons_of_mem _ hy));rw[List.length_erase_of_mem hx]at ih;have:=List.length_pos_of_mem hx;rw[List.length_cons];omega
theorem MtI.step{adj:Nat->List Nat}{A B k:Nat}(hB:∀j,∀t∈adj j,t<B){m:Mt}{many:Nat}(I:MtI adj A B k m many)(hk:k<A):MtI adj A B (k+1) (lS adj B (m,many) k).1 (lS adj B (m,many) k).2:=by
 have hcB:(List.replicate B false).count false<B+1:=by rw[List.count_replicate_self];omega
 have hS:=uc (adj:=adj) (m:=m) (k:=k) hcB;have hO:=MK (adj:=adj) (m:=m) (k:=k) hcB ⟨λs t _ _=>I.inj s t,λs _ q=>by have:=I.bd s;omega,λs _=>I.fr s,λs _=>by have:=I.bd s;rw[I.l1];omega,by rw[I.l1];exact hk,by rw[List.length_replicate,I.l2];exact Nat.le_refl _⟩ I.edg;obtain⟨C,hC,hC2⟩:=I.xN;have hK:=zP (adj:=adj) (m:=m) (k:=k) (C:=C) hcB (by rw[List.length_replicate,I.l2];exact Nat.le_refl _) hC;unfold lS;dsimp only;generalize aug adj (B+1) m (List.replicate B false) k=r at*;obtain⟨b,m1,s1⟩:=r;dsimp only at*;have hfk:frA m k= -1:=I.low k (Nat.le_refl _);cases b with
 |false=>
  rw[if_neg (by simp)];obtain rfl:m1=m:=hS.fail rfl;obtain⟨c1,c2⟩:=hS.xN rfl;have hC':∀j,(∀t∈adj j,snA s1 t=true)->∀t∈adj j,C t∨(t<B/\snA s1 t=true):=λj h t ht=> .inr ⟨hB j t ht,h t ht⟩;refine⟨I.l1,I.l2,I.inj,λs=>by have:=I.bd s;omega,I.fr,I.to,I.edg,?_,⟨λs=>C s∨(s<B/\snA s1 s=true),?_,?_⟩,λj hj=>I.low j (by omega)⟩
  ·rw[List.range_succ,List.filter_append,List.filter_cons_of_neg (by rw[hfk];decide),List.filter_nil,List.append_nil];exact I.cnt
  ·rintro s (h|⟨h1,h2⟩)
   ·exact⟨(hC s h).1,λt ht=> .inl ((hC s h).2 t ht)⟩
   ·have:=c2 s h2 (Ct.2 h1);exact⟨this.1,hC' _ this.2⟩
  ·intro j hj h;by_cases e:j=k
   ·subst e;exact hC' _ c1
   ·exact λt ht=> .inl (hC2 j (by omega) h t ht)
 |true=>
  rw[if_pos rfl];obtain⟨O,hE⟩:=hO rfl;have l2:m1.2.length=B:=hS.BK.trans I.l2;have hlt:∀s,0<=toA m1 s->snA (List.replicate B false) s=false:=λs h=>Ct.2 (by have:=to_lt h;omega);have hlt0:∀s,0<=toA m s->snA (List.replicate B false) s=false:=λs h=>Ct.2 (by have:=to_lt h;rw[I.l2]at this;exact this);obtain⟨sk,hsk,hsk2⟩:=O.has;have hfk1:frA m1 k=sk:=by
   have:=O.fr sk hsk (by omega);rw[hsk2]at this;exact this
  have hdom:∀j,j≠k->(0<=frA m1 j↔0<=frA m j):=λj hj=>by
   constructor
   ·intro h;rcases(show frA m j<0∨0<=frA m j by omega)with q|q
    ·have:=O.frf j hj λs hs e=>by
      have:=I.fr s (by omega);rw[show(toA m s).toNat=j by omega]at this;omega
     omega
    ·exact q
   ·intro h;have e:=I.to j h;obtain⟨t,ht,q⟩:=O.im1 _ (hlt0 _ (by rw[e];omega)) (by rw[e];omega);rw[e]at q;have:=O.fr t ht (by omega);rw[show(toA m1 t).toNat=j by omega]at this;omega
  have hto:∀j,0<=frA m1 j->toA m1 (frA m1 j).toNat=j:=λj h=>by
   by_cases e:j=k
   ·subst e;rw[hfk1];simpa using hsk2
   ·have h0:=(hdom j e).1 h;have e1:=I.to j h0;obtain⟨t,ht,q⟩:=O.im1 _ (hlt0 _ (by rw[e1];omega)) (by rw[e1];omega);rw[e1]at q;have:=O.fr t ht (by omega);rw[show(toA m1 t).toNat=j by omega]at this;rw[this];simpa using q
  refine⟨hS.Hg.trans I.l1,l2,λs t h1 h2=>O.inj s t (hlt s h1) (hlt t (by omega)) h1 h2,λs=> ?_,λs h=>O.fr s (hlt s h) h,hto,hE,?_,⟨C,λs hs=> ?_,λj hj h=> ?_⟩,λj hj=> ?_⟩
  ·rcases(show toA m1 s<0∨0<=toA m1 s by omega)with q|q
   ·omega
   ·rcases O.im2 s (hlt s q) q with q2|⟨t,_,q2⟩
    ·omega
    ·have:=I.bd t;omega
  ·rw[List.range_succ,List.filter_append,List.filter_cons_of_pos (by rw[hfk1];simp),List.filter_nil,List.length_append,List.length_singleton,←I.cnt];congr 2;refine List.filter_congr λj hj=> ?_;rw[List.mem_range]at hj;exact decide_eq_decide.2 (hdom j (by omega))
  ·rw[hK s hs];exact hC s hs
  ·have e:j≠k:=by rintro rfl;rw[hfk1]at h;omega
   exact hC2 j (by omega) (by have:=hdom j e;omega)
  ·rw[O.frf j (by omega) λs _ q=>by have:=I.bd s;omega];exact I.low j (by omega)
theorem HE{adj:Nat->List Nat}{A B:Nat}(hB:∀j,∀t∈adj j,t<B):∀{n:Nat},n<=A->MtI adj A B n (mtN adj A B n).1 (mtN adj A B n).2
 |0,_=>MtI.init adj A B
 |n+1,h=>by
  have hn:n<A:=by omega
  have ih:=HE hB (n:=n) (Nat.le_of_lt hn);unfold mtN at ih⊢;rw[List.range_succ,List.foldl_append];exact ih.step hB hn
structure Pw (adj:Nat->List Nat) (n:Nat) (D:List Nat) (g:Nat->Nat):Prop where
 nd:D.Nodup
 lt:∀j∈D,j<n
 mem:∀j∈D,g j∈adj j
 inj:∀i∈D,∀j∈D,g i=g j->i=j
theorem MtI.asg{adj:Nat->List Nat}{A B n:Nat}{m:Mt}{many:Nat}(I:MtI adj A B n m many):Pw adj n ((List.range n).filter λj=>decide (0<=frA m j)) (λj=>(frA m j).toNat):=by
 have hm:∀j∈(List.range n).filter (λj=>decide (0<=frA m j)),j<n/\0<=frA m j:=λj hj=>by
  rw[List.mem_filter,List.mem_range,decide_eq_true_eq]at hj;exact hj
 refine⟨List.Pairwise.filter _ List.nodup_range,λj hj=>(hm j hj).1,λj hj=> ?_,λi hi j hj e=> ?_⟩
 ·have e:=I.to j (hm j hj).2;have:=I.edg (frA m j).toNat (by rw[e];omega);rw[e]at this;exact this
 ·have e1:=I.to i (hm i hi).2;have e2:=I.to j (hm j hj).2;rw[e,e2]at e1;omega
open Classical in
theorem MtI.max{adj:Nat->List Nat}{A B n:Nat}{m:Mt}{many:Nat}(I:MtI adj A B n m many){D:List Nat}{g:Nat->Nat}(G:Pw adj n D g):D.length<=many:=by
 obtain⟨C,hC,hC2⟩:=I.xN;rw[←I.cnt];have hP:∀j∈D,(∀t∈adj j,C t)->0<=toA m (g j)/\∀t∈adj (toA m (g j)).toNat,C t:=λj hj h=>hC _ (h _ (G.mem j hj));have key:(D.map λj=>if(∀t∈adj j,C t)then(toA m (g j)).toNat else j).Nodup:=by
  refine List.pairwise_map.2 (List.Pairwise.imp_of_mem (λ{i j} hi hj hij e=> ?_) G.nd);apply hij;by_cases h1:∀t∈adj i,C t
  ·rw[if_pos h1]at e;by_cases h2:∀t∈adj j,C t
   ·rw[if_pos h2]at e;have a:=(hP i hi h1).1;have b:=(hP j hj h2).1;exact G.inj i hi j hj (I.inj _ _ a (by omega))
   ·rw[if_neg h2]at e;rw[←e]at h2;exact absurd (hP i hi h1).2 h2
  ·rw[if_neg h1]at e;by_cases h2:∀t∈adj j,C t
   ·rw[if_pos h2]at e;rw[e]at h1;exact absurd (hP j hj h2).2 h1
   ·rw[if_neg h2]at e;exact e
 have:=wq key (l':=(List.range n).filter λj=>decide (0<=frA m j)) λx hx=>by
  obtain⟨j,hj,rfl⟩:=List.mem_map.1 hx;rw[List.mem_filter,List.mem_range,decide_eq_true_eq];by_cases h1:∀t∈adj j,C t
  ·rw[if_pos h1];have a:=(hP j hj h1).1;have:=I.bd (g j);exact⟨by omega,by rw[I.fr _ a];omega⟩
  ·rw[if_neg h1];refine⟨G.lt j hj,?_⟩;rcases(show frA m j<0∨0<=frA m j by omega)with q|q
   ·exact absurd (hC2 j (G.lt j hj) q) h1
   ·exact q
 rwa [List.length_map]at this
theorem MtI.le{adj adj2:Nat->List Nat}{A B A2 B2 n:Nat}{m m2:Mt}{a b:Nat}(I:MtI adj A B n m a)(J:MtI adj2 A2 B2 n m2 b){φ:Nat->Nat}(hφ:∀j<n,∀s∈adj j,φ s∈adj2 j)(hi:∀j<n,∀k<n,∀s∈adj j,∀t∈adj k,φ s=φ t->s=t):a<=b:=by
 have G:=I.asg;rw[←I.cnt];exact J.max (g:=λj=>φ (frA m j).toNat) ⟨G.nd,G.lt,λj hj=>hφ j (G.lt j hj) _ (G.mem j hj),λi h1 j h2 e=>G.inj i h1 j h2 (hi i (G.lt i h1) j (G.lt j h2) _ (G.mem i h1) _ (G.mem j h2) e)⟩
end Go.A.Pk
end
section
namespace Go.A.Pk
variable {T:Nat->Option af}
theorem rO{rc:Mt->List Bool->Nat->Bool×Mt×List Bool}{k s:Nat}{l:List Nat}{m:Mt}{sn:List Bool}:ei rc k (s::l) m sn=if snA sn s=true then ei rc k l m sn else
 if toA m s<0 then(true,iz m k s,sn.set s true)else
 if(rc m (sn.set s true) (toA m s).toNat).1=true then(true,iz (rc m (sn.set s true) (toA m s).toNat).2.1 k s,(rc m (sn.set s true) (toA m s).toNat).2.2)
 else ei rc k l (rc m (sn.set s true) (toA m s).toNat).2.1 (rc m (sn.set s true) (toA m s).toNat).2.2:=rfl
theorem nw{rc:Mt->List Bool->Nat->Bool×Mt×List Bool}{k:Nat}:∀{l l2:List Nat} {m:Mt} {sn:List Bool},ei rc k (l++l2) m sn=if(ei rc k l m sn).1=true then ei rc k l m sn else ei rc k l2 (ei rc k l m sn).2.1 (ei rc k l m sn).2.2
 |[],l2,m,sn=>rfl
 |s::l,l2,m,sn=>by
  have ih:=λm sn=>nw (rc:=rc) (k:=k) (l:=l) (l2:=l2) (m:=m) (sn:=sn);rw[List.cons_append,rO,rO];by_cases h1:snA sn s=true
  ·simp only[if_pos h1];exact ih _ _
  ·simp only[if_neg h1];by_cases h2:toA m s<0
   ·simp only[if_pos h2];rfl
   ·simp only[if_neg h2];by_cases h3:(rc m (sn.set s true) (toA m s).toNat).1=true
    ·simp only[if_pos h3];rfl
    ·simp only[if_neg h3];exact ih _ _
structure jN (n:Nat) (m:Mt):Prop where
 l1:m.1.length=40
 l2:m.2.length=60
 b1:∀x∈m.1, -1<=x/\x<60
 b2:∀x∈m.2, -1<=x/\x<n
theorem uH{l:List Int}{i:Nat}{a x:Int}(h:x∈l.set i a):x∈l∨x=a:=by
 rcases List.mem_or_eq_of_mem_set h with h|h
 ·exact .inl h
 ·exact .inr h
theorem jN.put{n:Nat}{m:Mt}(M:jN n m){k s:Nat}(hk:k<n)(hs:s<60):jN n (iz m k s):=by
 refine⟨by unfold iz;rw[List.length_set];exact M.l1,by unfold iz;rw[List.length_set];exact M.l2,λx hx=> ?_,λx hx=> ?_⟩
 ·rcases uH hx with h|h
  ·exact M.b1 x h
  ·omega
 ·rcases uH hx with h|h
  ·exact M.b2 x h
  ·omega
theorem jN.to{n:Nat}{m:Mt}(M:jN n m){s:Nat}(hs:s<60):m.2[s]? =some (toA m s)/\ -1<=toA m s/\toA m s<n:=by
 have hl:=M.l2;have e:m.2[s]? =some (toA m s):=by unfold toA;rw[List.getD_eq_getElem?_getD,List.getElem?_eq_getElem (by omega)];rfl
 exact⟨e,M.b2 _ (List.mem_of_getElem? e)⟩
theorem tB{n:Nat}{rc:Mt->List Bool->Nat->Bool×Mt×List Bool}{k:Nat}(hk:k<n)(hrc:∀m sn k,jN n m->k<n->jN n (rc m sn k).2.1):∀{l:List Nat} {m:Mt} {sn:List Bool},(∀s∈l,s<60)->jN n m->jN n (ei rc k l m sn).2.1
 |[],m,sn,_,M=>M
 |s::l,m,sn,hl,M=>by
  have h60:=hl s (List.mem_cons_self ..);have hl':∀s∈l,s<60:=λs h=>hl s (List.mem_cons_of_mem _ h);unfold ei;by_cases h1:snA sn s=true
  ·simp only[if_pos h1];exact tB hk hrc hl' M
  ·simp only[if_neg h1];by_cases h2:toA m s<0
   ·simp only[if_pos h2];exact M.put hk h60
   ·simp only[if_neg h2];have q:=(M.to h60).2;have M2:=hrc m (sn.set s true) (toA m s).toNat M (by omega);by_cases h3:(rc m (sn.set s true) (toA m s).toNat).1=true
    ·simp only[if_pos h3];exact M2.put hk h60
    ·simp only[if_neg h3];exact tB hk hrc hl' M2
theorem Bw{adj:Nat->List Nat}(ha:∀k,∀s∈adj k,s<60){n:Nat}:∀{f:Nat} {m:Mt} {sn:List Bool} {k:Nat},jN n m->k<n->jN n (aug adj f m sn k).2.1
 |0,m,sn,k,M,_=>M
 |f+1,m,sn,k,M,hk=>tB hk (λm sn k M hk=>Bw ha M hk) (ha k) M
def mtL(m:Mt):List Value:=ints m.1++ints m.2
theorem jD{n:Nat}{m:Mt}(M:jN n m):(mtL m).length=100:=by unfold mtL;rw[List.length_append,dD,dD,M.l1,M.l2]
theorem NR{n:Nat}{m:Mt}(M:jN n m){s:Nat}(hs:s<60):aT (mtL m) (0+40+s*1)=some (.int .i64 (toA m s)):=by
 rw[cA];unfold mtL;rw[List.getElem?_append_right (by rw[dD,M.l1];omega),dD,M.l1,show 0+40+s*1-40=s by omega];exact ints_at (M.to hs).1
theorem HC{n:Nat}{m:Mt}(M:jN n m){k:Nat}(hk:k<40)(x:Int):bZ (mtL m) (0+0+k*1) (cellsOf (.int .i64 x))=mtL (m.1.set k x,m.2):=by
 show bZ _ _ [Value.int .i64 x]=_;rw[fW (by rw[jD M];omega)];unfold mtL;rw[List.set_append_left _ _ (by rw[dD,M.l1];omega),show 0+0+k*1=k by omega];simp[ints,List.map_set]
theorem HD{n:Nat}{m:Mt}(M:jN n m){s:Nat}(hs:s<60)(x:Int)(l:List Int)(hl:l.length=40):bZ (mtL (l,m.2)) (0+40+s*1) (cellsOf (.int .i64 x))=mtL (l,m.2.set s x):=by
 show bZ _ _ [Value.int .i64 x]=_;have h2:=M.l2;have hlen:(mtL (l,m.2)).length=100:=by unfold mtL;rw[List.length_append,dD,dD];show l.length+m.2.length=100;omega
 rw[fW (by rw[hlen];omega)];unfold mtL;rw[List.set_append_right _ _ (by rw[dD];show l.length<=_;omega),dD];show ints l++(ints m.2).set (0+40+s*1-l.length) (.int .i64 x)=_;rw[show 0+40+s*1-l.length=s by omega];simp[ints,List.map_set]
theorem tI{l:List Value}(h:l.length=100){o:Nat}(ho:o<100)(x:Int):(Nat.beq (bK (cellsOf (.int .i64 x))) 1&&Nat.ble (o+1) (bK l)&&cK (cellsOf (.int .i64 x)))=true:=by
 rw[bM l,h,eT (by omega)];rfl
theorem Gi{sn:List Bool}{s:Nat}(h:s<sn.length):aT (bos sn) (0+s*1)=some (.bool (snA sn s)):=by
 rw[cA,show 0+s*1=s by omega];unfold bos snA;rw[List.getElem?_map,List.getD_eq_getElem?_getD,List.getElem?_eq_getElem h];rfl
theorem CX{sn:List Bool}{s:Nat}(h:s<sn.length)(b:Bool):bZ (bos sn) (0+s*1) (cellsOf (.bool b))=bos (sn.set s b):=by
 show bZ _ _ [Value.bool b]=_;rw[fW (by rw[dS];omega),show 0+s*1=s by omega,tC]
theorem CV{sn:List Bool}{s:Nat}(h:s<sn.length)(b:Bool):(Nat.beq (bK (cellsOf (.bool b))) 1&&Nat.ble (0+s*1+1) (bK (bos sn))&&cK (cellsOf (.bool b)))=true:=by
 rw[bM (bos sn),dS,eT (by omega)];rfl
def gU(os:List Od)(ss:List Sp)(k:Nat):List Nat:=(mZ os ss k).map λp=>p.1.toNat
theorem vq{os:List Od}{ss:List Sp}{k:Nat}(h40:os.length<=40)(h20:ss.length<=20){p:Int×Int}(hp:p∈mZ os ss k):0<=p.1/\p.1<60:=by
 unfold mZ at hp;rcases List.mem_append.1 hp with h|h
 ·obtain⟨i,hi,rfl⟩:=List.mem_map.1 h;have:=List.mem_range.1 (List.mem_filter.1 hi).1;show 0<=(i:Int)/\(i:Int)<60;omega
 ·obtain⟨i,hi,rfl⟩:=List.mem_map.1 h;have:=List.mem_range.1 (List.mem_filter.1 hi).1;show 0<=40+(i:Int)/\40+(i:Int)<60;omega
theorem xE{os:List Od}{ss:List Sp}(h40:os.length<=40)(h20:ss.length<=20)(k:Nat):∀s∈gU os ss k,s<60:=by
 intro s hs;obtain⟨p,hp,rfl⟩:=List.mem_map.1 hs;have:=vq h40 h20 hp;omega
theorem Cu(hp:aV T)(hf:T 139=some f323){h:Heap}(hr:Rdy h)(q k:Nat):
 Al T 139 [.pointer (some ⟨q,0,none⟩), .int .i64 (k:Nat)] h λv h'=>v= .func (.func 163) #[] #[.pointer (some ⟨h.next,0,none⟩), .pointer (some ⟨h.next+1,0,none⟩)]/\h'.next=h.next+2/\h'.get h.next=some (.cells [.pointer (some ⟨q,0,none⟩)] true 1)/\h'.get (h.next+1)=some (.cells [.int .i64 (k:Nat)] true 1):=by
 refine .of hp hf hr ?_ ?_
 ·rintro v h1 hv ⟨rfl,_⟩;cases hv
 refine Y10 ?_;refine fA hr.log rfl ⟨rfl,rfl,?_,?_⟩
 ·exact(z4 (Nat.lt_succ_self _)).trans (z3 h _)
 ·exact z3 _ _
end Go.A.Pk
end
section
namespace Go.A.Pk
variable {T:Nat->Option af}
section
open I
def vB:aQ:=(I.R [M 10 14] [4,5,6,7,9,10])
def JG:aQ:=(I.Q (.draw [L 44 5,L 45 7,L 46 5,M 47 10,M 48 10,L 49 7,g 50 (.bC (t 44)),A 51 0 50,g 52 (.bI 40 1 (t 51) (t 45)),S 1 52 48,g 53 (.bC (t 46)),A 54 40 53,g 55 (.bI 60 1 (t 54) (t 47)),S 1 55 49] [0,1,2,3,4,5,6,7,8,10,11,9,12,13] [0,0,0,0,0,0,1,65,211,467,4,1028,4095,8191] [9])
 (I.Q (I.R [⟨none, .store 1 (t 9) (.const (.bool true)),none⟩] [])
 (.exit 0)))
def vD:aQ:=(.block 1 (I.Q (.seq (I.R [L 16 6,M 17 10,g 18 (.bC (t 16)),g 19 (.bI 60 1 (t 18) (t 17)),L 20 19] [4,5,6,7,9,10,20])
 (.cond (t 20) (.exit 1) .skip))
 (I.Q (I.R [L 21 6,M 22 10,g 23 (.bC (t 21)),g 24 (.bI 60 1 (t 23) (t 22)),⟨none, .store 1 (t 24) (.const (.bool true)),none⟩] [4,5,6,7,9,10])
 (I.Q (.draw [L 25 5,M 26 10,g 27 (.bC (t 25)),A 28 40 27,g 29 (.bI 60 1 (t 28) (t 26)),L 30 29,C 31 .lss 30 0,M 32 31,⟨some 33, .load none (t 4),(some (32,false))⟩,⟨some 34, .load none (t 5),(some (32,false))⟩,⟨some 35, .load none (t 6),(some (32,false))⟩,⟨some 36, .load none (t 5),(some (32,false))⟩,W 37 10 32 false,⟨some 38, .bC (t 36),(some (32,false))⟩,⟨some 39, .bF 40 (t 38),(some (32,false))⟩,⟨some 40, .bI 60 1 (t 39) (t 37),(some (32,false))⟩,⟨some 41, .load none (t 40),(some (32,false))⟩,⟨some 42, .call (.func 114) [(t 33),(t 34),(t 35),(t 41)],(some (32,false))⟩,g 43 (.pick (t 32) (.const (.bool true)) (t 42))] [0,1,2,3,4,5,6,7,8,9,10,11,12,13,14,15,16,17,18] [0,0,1,5,15,31,63,127,255,255,255,255,255,2303,10495,30975,63743,131071,262143] [5,7,9,10,43])
 (.cond (t 43) JG .skip)))))
end
def auE(b:Nat)(fn:Value):Env:=[(4, .pointer (some ⟨b,0,none⟩)),(5, .pointer (some ⟨b+1,0,none⟩)),(6, .pointer (some ⟨b+2,0,none⟩)),(7, .pointer (some ⟨b+3,0,none⟩)),(9, .pointer (some ⟨b+4,0,none⟩)),(13,fn)]
structure AuH (H:Heap) (b q pm ps k:Nat) (m:Mt) (sn:List Bool):Prop where
 g4:H.get b=some (.cells [.pointer (some ⟨q,0,none⟩)] true 1)
 g5:H.get (b+1)=some (.cells [.pointer (some ⟨pm,0,none⟩)] true 1)
 g6:H.get (b+2)=some (.cells [.pointer (some ⟨ps,0,none⟩)] true 1)
 g7:H.get (b+3)=some (.cells [.int .i64 (k:Nat)] true 1)
 g9:H.get (b+4)=some (.cells [.bool false] true 1)
 gm:H.get pm=some (.cells (mtL m) true 1)
 gs:H.get ps=some (.cells (bos sn) true 1)
theorem AU{base:Nat}{H:Heap}{b pm k lp s n:Nat}{fn:Value}{m:Mt}(g5:H.get (b+1)=some (.cells [.pointer (some ⟨pm,0,none⟩)] true 1))(g7:H.get (b+3)=some (.cells [.int .i64 (k:Nat)] true 1))(g9:H.get (b+4)=some (.cells [.bool false] true 1))(gm:H.get pm=some (.cells (mtL m) true 1))
 (gl:H.get lp=some (.loop (auE b fn) [14,15] vB vD 1 .normal))(hpm:pm<b)(hbl:b+4<lp)(hlp:lp<H.next)(M:jN n m)(hk:k<40)(hs:s<60):
 WE T base (some lp) JG (λx e' ds' h'=>x= .exit 0/\ds'=[]/\h'.next=H.next/\(∀z∈h'.log,z∈H.log∨z=pm∨z=b+4)/\(∀z,z≠pm->z≠b+4->h'.get z=H.get z)/\h'.get pm=some (.cells (mtL (iz m k s)) true 1)/\h'.get (b+4)=some (.cells [.bool true] true 1))
  [(5, .pointer (some ⟨b+1,0,none⟩)),(7, .pointer (some ⟨b+3,0,none⟩)),(9, .pointer (some ⟨b+4,0,none⟩)),(10, .int .i64 (s:Nat)),(43, .bool true)] [] H:=by
 unfold JG;have km:=jD M;have kc1:=tI km (o:=0+0+k*1) (by omega) (s:Nat);have kw1:=HC M hk (s:Nat);have km2:(mtL (m.1.set k ((s:Nat):Int),m.2)).length=100:=by unfold mtL;rw[List.length_append,dD,dD];show(m.1.set k _).length+m.2.length=100;rw[List.length_set,M.l1,M.l2]
 have kc2:=tI km2 (o:=0+40+s*1) (by omega) (k:Nat);have kw2:=HD M hs (k:Nat) (m.1.set k ((s:Nat):Int)) (by rw[List.length_set];exact M.l1);refine Y13 ?_;refine eG rfl rfl rfl (by exact rfl) (by exact rfl) (by exact rfl) gm kc1 kw1 (by omega) (by apply aM rfl (aG rfl (ez (by exact rfl)) (by exact dz _)) rfl;apply aM rfl (aG rfl (ni (by exact rfl)) (by exact dz _)) rfl;(repeat apply aK rfl);apply aM rfl (aG rfl (fq (by exact rfl) YG (by exact rfl)) (by exact eR _ _)) rfl;apply aK rfl;apply aM rfl (aG rfl (gG (by exact rfl)) (by exact eR _ _)) rfl;apply aM rfl (aG rfl (fq (by exact rfl) YG (by exact rfl)) (by exact dz _)) rfl;(repeat apply aK rfl);exact bV) ?_;refine qJ ?_;have gm1:(H.wr base pm (.cells (mtL (m.1.set k ((s:Nat):Int),m.2)) true 1)).get pm=some (.cells (mtL (m.1.set k ((s:Nat):Int),m.2)) true 1):=Heap.aB gm;refine eG rfl rfl rfl (by exact rfl) (by exact rfl) (by exact rfl) gm1 kc2 kw2 (by show pm<H.next;omega) (by(repeat apply aK rfl);exact bV) ?_;refine Y7 ?_;refine⟨rfl,rfl,rfl,λz hz=> ?_,λz h1 h2=> ?_,?_,?_⟩
 ·rcases dx hz with rfl|hz
  ·exact .inr (.inr rfl)
  rcases dx hz with rfl|hz
  ·exact .inr (.inl rfl)
  rcases dx hz with rfl|hz
  ·exact .inr (.inl rfl)
  exact .inl hz
 ·exact(z5 h2).trans ((z5 h1).trans (z5 h1))
 ·exact(z5 (by omega)).trans (Heap.aB gm1)
 ·exact Heap.aB (((z5 (by omega)).trans (z5 (by omega))).trans g9)
theorem DZ(hp:aV T){H:Heap}(hr:Rdy H){b q pm ps k lp s n:Nat}{fn x2:Value}{m:Mt}{sn:List Bool}(A:AuH H b q pm ps k m sn)(hpm:pm<b)(hps:ps<b)(hne:pm≠ps)(M:jN n m)(hk:k<n)(hn:n<=40)(hs:s<60)(hsn:sn.length=60)
 (gl:H.get lp=some (.loop (auE b fn) [14,15] vB vD 0 .normal))(hbl:b+4<lp){rc:Mt->List Bool->Nat->Bool×Mt×List Bool}(hrc:∀m sn k,jN n m->k<n->jN n (rc m sn k).2.1)
 (IH:0≤toA m s→snA sn s=false→∀G:Heap,Rdy G→H.next≤G.next→G.get pm=some (.cells (mtL m) true 1)→G.get ps=some (.cells (bos (sn.set s true)) true 1)→(∀z,z<H.next→z≠ps→z≠lp→G.get z=H.get z)→
   Gs T 114 [.pointer (some ⟨q,0,none⟩), .pointer (some ⟨pm,0,none⟩), .pointer (some ⟨ps,0,none⟩), .int .i64 ((toA m s).toNat:Nat)] G (λz=>z=pm∨z=ps) λv G'=>v= .bool (rc m (sn.set s true) (toA m s).toNat).1/\G'.get pm=some (.cells (mtL (rc m (sn.set s true) (toA m s).toNat).2.1) true 1)/\G'.get ps=some (.cells (bos (rc m (sn.set s true) (toA m s).toNat).2.2) true 1)):
 FW T (.yield lp) [.int .i64 (s:Nat),x2] H λr' H'=>(∀z∈H'.log,z=pm∨z=ps∨z=b+4∨z=lp)∧
  (r'= .ret (.bool true)/\((ei rc k [s] m sn).1=false/\H.next<=H'.next/\(∀z,z<H.next->z≠pm->z≠ps->H'.get z=H.get z)/\H'.get pm=some (.cells (mtL (ei rc k [s] m sn).2.1) true 1)/\H'.get ps=some (.cells (bos (ei rc k [s] m sn).2.2) true 1))∨
   r'= .ret (.bool false)/\lp∈H'.log/\((ei rc k [s] m sn).1=true/\H.next<=H'.next/\(∀z,z<H.next->z≠pm->z≠ps->z≠b+4->z≠lp->H'.get z=H.get z)/\H'.get pm=some (.cells (mtL (ei rc k [s] m sn).2.1) true 1)/\H'.get ps=some (.cells (bos (ei rc k [s] m sn).2.2) true 1)/\H'.get (b+4)=some (.cells [.bool true] true 1)/\H'.get lp=some (.loop (auE b fn) [14,15] vB vD 2 (.exit 0)))):=by
 have kl:=hr.wf.fU gl
 refine FW.Pv hp (.inr ⟨0,rfl⟩) (W:=λz=>z=pm∨z=ps∨z=b+4∨z=lp) (R:=λH'=>(ei rc k [s] m sn).1=false/\H.next<=H'.next/\(∀z,z<H.next->z≠pm->z≠ps->H'.get z=H.get z)/\H'.get pm=some (.cells (mtL (ei rc k [s] m sn).2.1) true 1)/\H'.get ps=some (.cells (bos (ei rc k [s] m sn).2.2) true 1))
  (S:=λH'=>(ei rc k [s] m sn).1=true/\H.next<=H'.next/\(∀z,z<H.next->z≠pm->z≠ps->z≠b+4->z≠lp->H'.get z=H.get z)/\H'.get pm=some (.cells (mtL (ei rc k [s] m sn).2.1) true 1)/\H'.get ps=some (.cells (bos (ei rc k [s] m sn).2.2) true 1)/\H'.get (b+4)=some (.cells [.bool true] true 1)/\H'.get lp=some (.loop (auE b fn) [14,15] vB vD 2 (.exit 0))) gl rfl kl (.inr (.inr (.inr rfl))) ?_
 unfold vB auE;refine Y2 ?_;refine aO ?_;refine y1 ?_;refine⟨rfl,gl,?_⟩;unfold vD;refine oy ?_;refine WE.Kx ?_;intro hA hAe;have A1:∀z,z<H.next->z≠lp->H.get z=hA.get z:=λz hz hne=>by rw[hAe];exact(z5 hne).symm
 have A2:hA.get lp=some (.loop (auE b fn) [14,15] vB vD 1 .normal):=by rw[hAe];exact Heap.aB gl
 have A5:hA.next=H.next:=by rw[hAe];rfl
 have A6:hA.log=[]:=by rw[hAe,Heap.aq (by omega)];exact hr.log
 have A7:WF hA:=by rw[hAe];exact hr.wf.as (AS.wr _ _ _ _)
 clear hAe;have AA:AuH hA b q pm ps k m sn:=⟨(A1 _ (by omega) (by omega)).symm.trans A.g4,(A1 _ (by omega) (by omega)).symm.trans A.g5,(A1 _ (by omega) (by omega)).symm.trans A.g6,(A1 _ (by omega) (by omega)).symm.trans A.g7,(A1 _ (by omega) (by omega)).symm.trans A.g9,(A1 _ (by omega) (by omega)).symm.trans A.gm,(A1 _ (by omega) (by omega)).symm.trans A.gs⟩;have g4:=AA.g4;have g5:=AA.g5;have g6:=AA.g6;have g7:=AA.g7;have g9:=AA.g9;have gm:=AA.gm;have gs:=AA.gs;have kb:=Gi (sn:=sn) (s:=s) (by omega);rw[show(ei rc k [s] m sn)=(if snA sn s=true then(false,m,sn)else if toA m s<0 then(true,iz m k s,sn.set s true)else if(rc m (sn.set s true) (toA m s).toNat).1=true then(true,iz (rc m (sn.set s true) (toA m s).toNat).2.1 k s,(rc m (sn.set s true) (toA m s).toNat).2.2)else(false,(rc m (sn.set s true) (toA m s).toNat).2.1,(rc m (sn.set s true) (toA m s).toNat).2.2))from rfl];cases hse:snA sn s with
 |true=>
  rw[if_pos rfl];rw[hse]at kb;refine Y12 ?_;exact⟨⟨_,A2,rfl⟩,λz hz=>(by rw[A6]at hz;cases hz), .inl ⟨rfl,λh5 hn5 ha5 hl5=>⟨rfl,hn5,λz hz _ _=>by
   by_cases hzl:z=lp
   ·subst hzl;rw[hl5,gl];rfl
   ·exact(ha5 z hz hzl).trans (A1 z hz hzl).symm,(ha5 _ (by omega) (by omega)).trans gm,(ha5 _ (by omega) (by omega)).trans gs⟩⟩⟩
 |false=>
  rw[if_neg (by simp)];rw[hse]at kb;have kt:=NR M hs;have kto:=(M.to hs).2;have kc:=CV (sn:=sn) (s:=s) (by omega) true;have kw:=CX (sn:=sn) (s:=s) (by omega) true;refine Y16 ?_;refine aA (dZ (by exact rfl) (by exact rfl) gs kc kw) ?_;refine y3 ?_;have gsB:(hA.wr H.next ps (.cells (bos (sn.set s true)) true 1)).get ps=some (.cells (bos (sn.set s true)) true 1):=Heap.aB gs;have oB:∀z,z≠ps->(hA.wr H.next ps (.cells (bos (sn.set s true)) true 1)).get z=hA.get z:=λz hz=>z5 hz;have nB:(hA.wr H.next ps (.cells (bos (sn.set s true)) true 1)).next=H.next:=A5
  have WB:WF (hA.wr H.next ps (.cells (bos (sn.set s true)) true 1)):=A7.as (AS.wr _ _ _ _);have LB:∀z∈(hA.wr H.next ps (.cells (bos (sn.set s true)) true 1)).log,z=ps:=λz hz=>(dx hz).elim id λq=>(by rw[A6]at q;cases q);generalize(hA.wr H.next ps (.cells (bos (sn.set s true)) true 1))=hB at*;have e4:=(oB _ (by omega)).trans g4;have e5:=(oB _ (by omega)).trans g5;have e6:=(oB _ (by omega)).trans g6;have e7:=(oB _ (by omega)).trans g7;have e9:=(oB _ (by omega)).trans g9;have em:=(oB _ hne).trans gm;have eL:=(oB lp (by omega)).trans A2;clear g4 g5 g6 g7 g9 gm gs AA A5 A6 A7 kc kw kb;by_cases h0:toA m s<0
  ·rw[if_pos h0];have mlt:ah .lss (.int .i64 (toA m s)) (.int .i64 0)=some (.bool true):=dG h0;refine Y25 ?_;refine(AU e5 e7 e9 em eL hpm hbl (by omega) M (by omega) hs).mono ?_;rintro x e' ds' h' ⟨rfl,rfl,n1,l1,o1,p1,p2⟩;refine NA (by exact rfl) ?_;exact⟨⟨_,(o1 lp (by omega) (by omega)).trans eL,rfl⟩,λz hz=>(l1 z hz).elim (λq=> .inr (.inl (LB z q))) (λq=>q.elim .inl λq=> .inr (.inr (.inl q))), .inr ⟨rfl,λh5 hn5 ha5 hl5=>⟨rfl,by omega,λz hz i1 i2 i3 i4=>(ha5 z i4).trans ((o1 z i1 i3).trans ((oB z i2).trans (A1 z hz i4).symm)),(ha5 _ (by omega)).trans p1,(ha5 _ (by omega)).trans ((o1 _ (λq=>hne q.symm) (by omega)).trans gsB),(ha5 _ (by omega)).trans p2,hl5⟩⟩⟩
  ·rw[if_neg h0];have mlt:ah .lss (.int .i64 (toA m s)) (.int .i64 0)=some (.bool false):=dJ (by omega);obtain⟨t,ht⟩:∃t:Nat,toA m s=(t:Int):=⟨(toA m s).toNat,by omega⟩;have hM2:=hrc m (sn.set s true) t M (by omega);have I:=IH (by omega) hse {hB with log:=[]} (.of WB) (by show H.next<=hB.next;omega) em gsB (λz h1 h2 h3=>(oB z h2).trans (A1 z h1 h3).symm);clear IH;rw[ht]at kt mlt I;rw[ht];rw[show((t:Int)).toNat=t from rfl]at I;rw[show((t:Int)).toNat=t from rfl];refine Y20 ?_;refine FW.gsD I (λv h' lg q=>q) ?_;clear I;rintro _ hC lg xC hlg ⟨rfl,gmC,gsC⟩;have oC:∀z,z<hB.next->z≠pm->z≠ps->hC.get z=hB.get z:=λz h1 h2 h3=>xC.old z h1 (λq=>q.elim h2 h3)
   have nC:=xC.next
   have LC:∀z∈hC.log,z=pm∨z=ps:=λz hz=>(xC.log z hz).elim (λq=> .inr (LB z q)) id;have c5:=(oC _ (by omega) (by omega) (by omega)).trans e5;have c7:=(oC _ (by omega) (by omega) (by omega)).trans e7;have c9:=(oC _ (by omega) (by omega) (by omega)).trans e9;have cL:=(oC lp (by omega) (by omega) (by omega)).trans eL;refine⟨_,by(repeat apply aK rfl);exact bV,?_⟩;generalize rc m (sn.set s true) t=rr at*;obtain⟨rb,rm,rs⟩:=rr;dsimp only at*;cases rb with
   |true=>
    rw[if_pos rfl];refine Y5 ?_;refine(AU c5 c7 c9 gmC cL hpm hbl (by omega) hM2 (by omega) hs).mono ?_;rintro x e' ds' h' ⟨rfl,rfl,n1,l1,o1,p1,p2⟩;refine NA (by exact rfl) ?_;exact⟨⟨_,(o1 lp (by omega) (by omega)).trans cL,rfl⟩,λz hz=>(l1 z hz).elim (λq=>(LC z q).elim .inl λq=> .inr (.inl q)) (λq=>q.elim .inl λq=> .inr (.inr (.inl q))), .inr ⟨rfl,λh5 hn5 ha5 hl5=>⟨rfl,by omega,λz hz i1 i2 i3 i4=>(ha5 z i4).trans ((o1 z i1 i3).trans ((oC z (by omega) i1 i2).trans ((oB z i2).trans (A1 z hz i4).symm))),(ha5 _ (by omega)).trans p1,(ha5 _ (by omega)).trans ((o1 _ (λq=>hne q.symm) (by omega)).trans gsC),(ha5 _ (by omega)).trans p2,hl5⟩⟩⟩
   |false=>
    rw[if_neg (by simp)];refine Y7 ?_;exact⟨⟨_,cL,rfl⟩,λz hz=>(LC z hz).elim .inl λq=> .inr (.inl q), .inl ⟨rfl,λh5 hn5 ha5 hl5=>⟨rfl,hn5,λz hz i1 i2=>by
     by_cases hzl:z=lp
     ·subst hzl;rw[hl5,gl];rfl
     ·exact(ha5 z hz hzl).trans ((oC z (by omega) i1 i2).trans ((oB z i2).trans (A1 z hz hzl).symm)),(ha5 _ (by omega) (by omega)).trans gmC,(ha5 _ (by omega) (by omega)).trans gsC⟩⟩⟩
structure Mq (T:Nat->Option af):Prop where
 so:MB T
 f280:T 114=some f280
structure BkR (h0:Heap) (q:Nat) (ov sv:Value) (r:Int) (os:List Od) (ss:List Sp) (fo be:List Bool) (mo ms:Nat):Prop where
 wf:WF h0
 gq:h0.get q=some (.cells (bkL ov sv r fo be mo ms) true 1)
 so:OdS h0 ov os
 sp:SpS h0 sv ss
structure BkK (H:Heap) (q:Nat) (ov sv:Value) (r:Int) (os:List Od) (ss:List Sp) (fo be:List Bool) (mo ms:Nat):Prop where
 gq:H.get q=some (.cells (bkL ov sv r fo be mo ms) true 1)
 so:OdS H ov os
 sp:SpS H sv ss
theorem BkR.keep{h0 H:Heap}{q:Nat}{ov sv:Value}{r:Int}{os:List Od}{ss:List Sp}{fo be:List Bool}{mo ms:Nat}(B:BkR h0 q ov sv r os ss fo be mo ms)(hn:h0.next<=H.next)(ho:∀z,z<h0.next->H.get z=h0.get z):BkK H q ov sv r os ss fo be mo ms:=
 ⟨(ho q (B.wf.fU B.gq)).trans B.gq,⟨bS.Dh B.so.sl hn ho,B.so.ok⟩,⟨bS.Dh B.sp.sl hn ho,B.sp.ok⟩⟩
def dnS(l:List (Int×Int)):List Nat:=l.map λp=>p.1.toNat
structure PAu (l b pm ps:Nat) (fn:Value) (h1:Heap) (R:List Nat->Bool×Mt×List Bool) (done:List (Int×Int)) (H:Heap):Prop where
 no:(R (dnS done)).1=false
 old:∀z,z<h1.next->z≠pm->z≠ps->H.get z=h1.get z
 gm:H.get pm=some (.cells (mtL (R (dnS done)).2.1) true 1)
 gs:H.get ps=some (.cells (bos (R (dnS done)).2.2) true 1)
 loop:H.get l=some (.loop (auE b fn) [14,15] vB vD 0 .normal)
 nx:l<H.next
structure SAu (l b pm ps:Nat) (fn:Value) (h1:Heap) (R:Bool×Mt×List Bool) (H:Heap):Prop where
 yes:R.1=true
 old:∀z,z<h1.next->z≠pm->z≠ps->z≠b+4->H.get z=h1.get z
 gm:H.get pm=some (.cells (mtL R.2.1) true 1)
 gs:H.get ps=some (.cells (bos R.2.2) true 1)
 g9:H.get (b+4)=some (.cells [.bool true] true 1)
 loop:H.get l=some (.loop (auE b fn) [14,15] vB vD 2 (.exit 0))
theorem Na(F:Mq T){h0:Heap}{q:Nat}{a a2:Option Addr}{c c2:Nat}{r:Int}{os:List Od}{ss:List Sp}{fo be:List Bool}{mo ms:Nat}(B:BkR h0 q (.slice a os.length c) (.slice a2 ss.length c2) r os ss fo be mo ms)(BT:BkT os ss fo be)(h40:os.length<=40)(h20:ss.length<=20)
 {pm ps:Nat}(hpm:h0.next<=pm)(hps:h0.next<=ps)(hne:pm≠ps):∀(f:Nat) {h:Heap},Rdy h->h0.next<=h.next->(∀z,z<h0.next->h.get z=h0.get z)->∀{m:Mt} {sn:List Bool} {k:Nat},jN os.length m->sn.length=60->k<os.length->sn.count false<f->h.get pm=some (.cells (mtL m) true 1)->h.get ps=some (.cells (bos sn) true 1)→
  Gs T 114 [.pointer (some ⟨q,0,none⟩), .pointer (some ⟨pm,0,none⟩), .pointer (some ⟨ps,0,none⟩), .int .i64 (k:Nat)] h (λz=>z=pm∨z=ps) λv h'=>v= .bool (aug (gU os ss) f m sn k).1/\h'.get pm=some (.cells (mtL (aug (gU os ss) f m sn k).2.1) true 1)/\h'.get ps=some (.cells (bos (aug (gU os ss) f m sn k).2.2) true 1):=by
 intro f;induction f with
 |zero=>intro _ _ _ _ _ _ _ _ _ _ hf;exact absurd hf (Nat.not_lt_zero _)
 |succ f ih=>
 intro h hr hn0 ho0 m sn k M hsn hk hf gm gs;have hp:=F.so.co.p;have kpm:=hr.wf.fU gm;have kps:=hr.wf.fU gs;refine Gs.of hp F.f280 (λv h1 h2 _ hn ha q=>⟨q.1,(ha _ kpm).trans q.2.1,(ha _ kps).trans q.2.2⟩) ?_;refine aX (E0:=[(4, .pointer (some ⟨h.next,0,none⟩)),(5, .pointer (some ⟨h.next+1,0,none⟩)),(6, .pointer (some ⟨h.next+2,0,none⟩)),(7, .pointer (some ⟨h.next+3,0,none⟩))]) (P:=λh'=>Ext h h'∧h'.next=h.next+4/\h'.get h.next=some (.cells [.pointer (some ⟨q,0,none⟩)] true 1)/\h'.get (h.next+1)=some (.cells [.pointer (some ⟨pm,0,none⟩)] true 1)/\h'.get (h.next+2)=some (.cells [.pointer (some ⟨ps,0,none⟩)] true 1)/\h'.get (h.next+3)=some (.cells [.int .i64 (k:Nat)] true 1)) ?_ ?_
 ·refine Y6 ?_;refine aO ?_;refine y1 ?_;refine⟨rfl,rfl,rfl,⟨?_,rfl,?_,?_⟩,rfl,?_,?_,?_,?_⟩
  ·show h.next<=h.next+1+1+1+1;omega
  ·intro z hz;have e:∀(G:Heap) (o:bO),z<G.next->(G.push o).get z=G.get z:=λG o hz=>z4 hz
   rw[e _ _ (by show z<h.next+1+1+1;omega),e _ _ (by show z<h.next+1+1;omega),e _ _ (by show z<h.next+1;omega),e _ _ hz]
  ·intro w;exact(((w.push _).push _).push _).push _
  ·exact((z4 (by show h.next<h.next+1+1+1;omega)).trans (z4 (by show h.next<h.next+1+1;omega))).trans ((z4 (by show h.next<h.next+1;omega)).trans (z3 _ _))
  ·exact((z4 (by show h.next+1<h.next+1+1+1;omega)).trans (z4 (by show h.next+1<h.next+1+1;omega))).trans (z3 (h.push _) _)
  ·exact(z4 (by show h.next+2<h.next+1+1+1;omega)).trans (z3 ((h.push _).push _) _)
  ·exact z3 (((h.push _).push _).push _) _
 rintro h1 ⟨x1,n1,g4,g5,g6,g7⟩;have W1:=x1.wf hr.wf;refine Bi ?_;refine aX (E0:=[(4, .pointer (some ⟨h.next,0,none⟩)),(5, .pointer (some ⟨h.next+1,0,none⟩)),(6, .pointer (some ⟨h.next+2,0,none⟩)),(7, .pointer (some ⟨h.next+3,0,none⟩)),(9, .pointer (some ⟨h.next+4,0,none⟩))]) (P:=λh'=>Ext h1 h'∧h'.next=h.next+5/\h'.get (h.next+4)=some (.cells [.bool false] true 1)) ?_ ?_
 ·refine Y3 ?_;refine aO ?_;refine y1 ?_;rw[←n1];exact⟨rfl,rfl,rfl,dI (by omega) _ _,by show h1.next+1=h.next+5;omega,ef _ _⟩
 rintro h2 ⟨x2,n2,g9⟩;have W2:=x2.wf W1;have k4:=(x2.old _ (by omega)).trans g4;have k5:=(x2.old _ (by omega)).trans g5;have k6:=(x2.old _ (by omega)).trans g6;have k7:=(x2.old _ (by omega)).trans g7;have C2:=Cu hp F.so.f323 (h:={h2 with log:=[]}) (.of W2) q k;refine Y8 ?_;refine FW.al C2 (λv h' m q=>q) ?_;clear C2;rintro _ H5 x5 ⟨rfl,n5,gb1,gb2⟩;have n5:H5.next=h2.next+2:=n5
 have gb1:H5.get h2.next=some (.cells [.pointer (some ⟨q,0,none⟩)] true 1):=gb1
 have gb2:H5.get (h2.next+1)=some (.cells [.int .i64 (k:Nat)] true 1):=gb2;have W5:=x5.wf W2;have hL5:=x5.log.trans ((x2.log.trans x1.log).trans hr.log);have m4:=(x5.old _ (show h.next<h2.next by omega)).trans k4;have m5:=(x5.old _ (show h.next+1<h2.next by omega)).trans k5;have m6:=(x5.old _ (show h.next+2<h2.next by omega)).trans k6;have m7:=(x5.old _ (show h.next+3<h2.next by omega)).trans k7;have m9:=(x5.old _ (show h.next+4<h2.next by omega)).trans g9;have oh5:∀z,z<h.next->H5.get z=h.get z:=λz hz=>(x5.old z (show z<h2.next by omega)).trans ((x2.old z (by omega)).trans (x1.old z hz))
 have mm:=(oh5 pm kpm).trans gm;have ms5:=(oh5 ps kps).trans gs;have oh0:∀z,z<h0.next->H5.get z=h0.get z:=λz hz=>(oh5 z (by omega)).trans (ho0 z hz)
 clear k4 k5 k6 k7 g4 g5 g6 g7 g9 x5 x2 x1 W1 W2 ho0;have hadj:=xE h40 h20;have hrc:∀m sn k,jN os.length m->k<os.length->jN os.length (aug (gU os ss) f m sn k).2.1:=λm sn k M hk=>Bw hadj M hk;have hrs:∀(m:Mt) (sn:List Bool) (k:Nat),sn.count false<f->xh (gU os ss) m sn k (gU os ss k) (aug (gU os ss) f m sn k):=λm sn k h=>uc h;generalize hL0:(.loop (auE h.next (.func (.func 163) #[] #[.pointer (some ⟨h2.next,0,none⟩), .pointer (some ⟨h2.next+1,0,none⟩)])) [14,15] vB vD 0 .normal:bO)=L0;generalize hRR:(λl=>ei (aug (gU os ss) f) k l m sn)=RR;have hres:aug (gU os ss) (f+1) m sn k=RR (dnS (mZ os ss k)):=by rw[←hRR];rfl
 rw[hres];have hsub:∀{done:List (Int×Int)},done<+:mZ os ss k->∀s∈dnS done,s<60:=by
  intro done hd s hs;obtain⟨p,hp',rfl⟩:=List.mem_map.1 hs;have:=vq h40 h20 (hd.subset hp');omega
 have hstab:∀done Ha Hb,PAu H5.next h.next pm ps (.func (.func 163) #[] #[.pointer (some ⟨h2.next,0,none⟩), .pointer (some ⟨h2.next+1,0,none⟩)]) H5 RR done Ha->H5.next+1<=Hb.next->(∀x,x<H5.next+1->Hb.get x=Ha.get x)->PAu H5.next h.next pm ps (.func (.func 163) #[] #[.pointer (some ⟨h2.next,0,none⟩), .pointer (some ⟨h2.next+1,0,none⟩)]) H5 RR done Hb:=λdone Ha Hb p n e=>
  ⟨p.no,λz hz i1 i2=>(e z (by omega)).trans (p.old z hz i1 i2),(e _ (by omega)).trans p.gm,(e _ (by omega)).trans p.gs,(e _ (by omega)).trans p.loop,by omega⟩
 have Y:J8 (.exit 0) T (λz=>z=pm∨z=ps∨z=h.next+4∨z=H5.next) (H5.next+1) H5.next srV (mZ os ss k) (PAu H5.next h.next pm ps (.func (.func 163) #[] #[.pointer (some ⟨h2.next,0,none⟩), .pointer (some ⟨h2.next+1,0,none⟩)]) H5 RR) (SAu H5.next h.next pm ps (.func (.func 163) #[] #[.pointer (some ⟨h2.next,0,none⟩), .pointer (some ⟨h2.next+1,0,none⟩)]) H5 (RR (dnS (mZ os ss k)))):=by
  refine⟨λdone x Hh hx hrH hN hP=> ?_,hstab,λ_ _ e=>⟨e.yes,e.old,e.gm,e.gs,e.g9,e.loop⟩,λ_ e=>⟨_,_,_,_,e.loop⟩,λz hz=>by omega⟩;have hx0:=vq h40 h20 (hx.subset (List.mem_append_right _ (List.mem_singleton.2 rfl)));obtain⟨s,hs⟩:∃s:Nat,x.1=(s:Int):=⟨x.1.toNat,by omega⟩;have hds:dnS (done++[x])=dnS done++[s]:=by unfold dnS;rw[List.map_append,List.map_cons,hs];rfl
  have hdone:=(List.prefix_append done [x]).trans hx;have hno:=hP.no;have hgm:=hP.gm;have hgs:=hP.gs;have hol:=hP.old;have MM:jN os.length (RR (dnS done)).2.1:=by rw[←hRR];exact tB hk hrc (hsub hdone) M
  have AS':xh (gU os ss) m sn k (dnS done) (RR (dnS done)):=by rw[←hRR];exact ua hrs (by omega)
  have hsl:=AS'.Av;have hcn:=AS'.cnt;have happ:RR (dnS (done++[x]))=ei (aug (gU os ss) f) k [s] (RR (dnS done)).2.1 (RR (dnS done)).2.2:=by
   rw[hds,←hRR];show ei _ k (dnS done++[s]) m sn=_;rw[nw,if_neg (by have:=hno;rw[←hRR]at this;rw[this];simp)]
  generalize RR (dnS done)=RD at*;have AH:AuH Hh h.next q pm ps k RD.2.1 RD.2.2:=⟨(hol _ (by omega) (by omega) (by omega)).trans m4,(hol _ (by omega) (by omega) (by omega)).trans m5,(hol _ (by omega) (by omega) (by omega)).trans m6,(hol _ (by omega) (by omega) (by omega)).trans m7,(hol _ (by omega) (by omega) (by omega)).trans m9,hgm,hgs⟩
  unfold srV;rw[hs];refine FW.mono' (DZ hp hrH AH kpm kps hne MM hk h40 (by omega) (by omega) hP.loop (by omega) hrc λt0 hse G rG nG gG1 gG2 oG=> ?_) ?_
  ·have:=(MM.to (s:=s) (by omega)).2;have:=mF hse;exact ih rG (by omega) (λz hz=>(oG z (by omega) (by omega) (by omega)).trans ((hol z (by omega) (by omega) (by omega)).trans (oh0 z hz))) MM (by rw[List.length_set];omega) (by omega) (by omega) gG1 gG2
  ·rintro r' H' ⟨r1,r2⟩;rw[←happ]at r2;refine⟨r1,r2.imp (λ⟨e0,e1,e2,e3,e4,e5⟩=>⟨e0,⟨e1,λz hz i1 i2=>(e3 z (by omega) i1 i2).trans (hol z hz i1 i2),e4,e5,(e3 _ hP.nx (by omega) (by omega)).trans hP.loop,Nat.lt_of_lt_of_le hP.nx e2⟩⟩) (λ⟨e0,em,e1,e2,e3,e4,e5,e6,e7⟩=>⟨e0,em,?_⟩)⟩;obtain⟨rest,hrest⟩:=hx;have hall:RR (dnS (mZ os ss k))=RR (dnS (done++[x])):=by
    rw[←hrest,←hRR];show ei _ k (dnS ((done++[x])++rest)) m sn=ei _ k (dnS (done++[x])) m sn;rw[show dnS ((done++[x])++rest)=dnS (done++[x])++dnS rest from List.map_append ..,nw,if_pos (by rw[←hRR]at e1;exact e1)]
   rw[hall];exact⟨e1,λz hz i1 i2 i3=>(e3 z (by omega) i1 i2 i3 (by omega)).trans (hol z hz i1 i2),e4,e5,e6,e7⟩
 refine Y2 ?_;refine Fq (px:= .exit 0) (W:=λz=>z=pm∨z=ps∨z=h.next+4∨z=H5.next) (P:=PAu H5.next h.next pm ps (.func (.func 163) #[] #[.pointer (some ⟨h2.next,0,none⟩), .pointer (some ⟨h2.next+1,0,none⟩)]) H5 RR (mZ os ss k)) (S:=SAu H5.next h.next pm ps (.func (.func 163) #[] #[.pointer (some ⟨h2.next,0,none⟩), .pointer (some ⟨h2.next+1,0,none⟩)]) H5 (RR (dnS (mZ os ss k)))) rfl (by rfl) (by rw[F.so.f347];rfl) (by omega) W5 ?_ (λHh p=>⟨_,_,_,_,p.loop⟩) (λHh p=>⟨_,_,_,_,p.loop⟩) ?_ ?_
 ·subst hL0;refine OS F.so (q:=q) (a:=a) (a2:=a2) (c:=c) (c2:=c2) (r:=r) (fo:=fo) (be:=be) (mo:=mo) (ms:=ms) (b1:=h2.next) (b2:=h2.next+1) (h:={H5.push (.loop (auE h.next (.func (.func 163) #[] #[.pointer (some ⟨h2.next,0,none⟩), .pointer (some ⟨h2.next+1,0,none⟩)])) [14,15] vB vD 0 .normal)with log:=[]}) (.of (W5.push _)) (Nat.le_refl _) (Nat.lt_succ_self _) Y (λd Hh p=> ?_) BT ?_ hk h40 h20
  ·have K:=B.keep (H:=Hh) (by have:=p.nx;omega) (λz hz=>(p.old z (by omega) (by omega) (by omega)).trans (oh0 z hz));exact⟨(p.old _ (by omega) (by omega) (by omega)).trans gb1,(p.old _ (by omega) (by omega) (by omega)).trans gb2,K.gq,K.so,K.sp⟩
  ·exact⟨by rw[←hRR];rfl,λz hz _ _=>z4 hz,by rw[←hRR];exact(z4 (by omega)).trans mm,by rw[←hRR];exact(z4 (by omega)).trans ms5,z3 _ _,Nat.lt_succ_self _⟩
 ·intro h4 h5 i1 i2 i3 i4 i5 i6 hP;have D9:=(i5 (h.next+4) (by omega)).trans ((hP.old _ (by omega) (by omega) (by omega)).trans m9);have hlg:∀z∈h5.log,z=pm∨z=ps:=λz hz=>by
   rcases i1 z hz with e|⟨e,e2⟩
   ·rw[hL5]at e;cases e
   ·omega
  refine Y7 ?_;exact kJ hlg rfl ⟨by rw[hP.no];rfl,(i5 _ (by omega)).trans hP.gm,(i5 _ (by omega)).trans hP.gs⟩
 ·intro h4 h5 i1 i2 i3 i4 i5 i6 hP;have D9:=(i5 (h.next+4) (by omega)).trans hP.g9;have hlg:∀z∈h5.log,z=pm∨z=ps:=λz hz=>by
   rcases i1 z hz with e|⟨e,e2⟩
   ·rw[hL5]at e;cases e
   ·omega
  refine Y7 ?_;exact kJ hlg rfl ⟨by rw[hP.yes];rfl,(i5 _ (by omega)).trans hP.gm,(i5 _ (by omega)).trans hP.gs⟩
def flL(i:Nat):List Value:=ints (List.replicate i (-1)++List.replicate (100-i) 0)
theorem mJ{i:Nat}(h:i<=100):(flL i).length=100:=by unfold flL;rw[dD,List.length_append,List.length_replicate,List.length_replicate];omega
theorem Qn:aL 100 (.int .i64 0)=flL 0:=by unfold flL;rw[yc];simp[ints]
theorem Dc{i o:Nat}(h:i<100)(ho:o=i):bZ (flL i) o (cellsOf (.int .i64 (-1)))=flL (i+1):=by
 subst ho;show bZ _ _ [Value.int .i64 (-1)]=_;rw[fW (by rw[mJ (by omega)];omega)];unfold flL ints;rw[show Value.int .i64 (-1)=(λx:Int=>Value.int .i64 x) (-1)from rfl,←List.map_set,List.set_append_right _ _ (by rw[List.length_replicate];omega),List.length_replicate,Nat.sub_self,show 100-o=(100-(o+1))+1 by omega,List.replicate_succ,List.set_cons_zero,List.replicate_succ',List.append_assoc];rfl
theorem Kt:flL 100=mtL (List.replicate 40 (-1),List.replicate 60 (-1)):=by
 unfold flL mtL;rw[←uw,List.replicate_append_replicate,Nat.sub_self,List.replicate_zero,List.append_nil]
theorem Kf:aL 60 (.bool false)=bos (List.replicate 60 false):=by unfold bos;rw[yc,List.map_replicate]
def mtV(p:Mt×Nat):Value:= .tuple #[.agg (mtL p.1).toArray, .int .i64 (p.2:Nat)]
theorem wN:∀l:List Int,cU (ints l)=true
 |[]=>rfl
 |x::l=>by
  show cU (.int .i64 x::ints l)=true;simp only[cU,wN l];rfl
theorem Ep(p:Mt×Nat):cT (mtV p)=true:=by
 have q:flat (.agg (mtL p.1).toArray)=true:=by
  show cU (mtL p.1).toArray.toList=true;rw[List.toList_toArray];unfold mtL;rw[←uw];exact wN _
 show iP [.agg (mtL p.1).toArray, .int .i64 (p.2:Nat)]=true;simp only[iP,q,cond_true];rfl
theorem BR{os:List Od}{ss:List Sp}(h40:os.length<=40)(h20:ss.length<=20):∀{n:Nat},n<=os.length->jN os.length (mtN (gU os ss) 40 60 n).1
 |0,_=>⟨List.length_replicate,List.length_replicate,λx hx=>by rw[List.eq_of_mem_replicate hx];omega,λx hx=>by rw[List.eq_of_mem_replicate hx];omega⟩
 |n+1,h=>by
  have ih:=BR h40 h20 (n:=n) (by omega);unfold mtN at ih⊢;rw[List.range_succ,List.foldl_append];exact Bw (xE h40 h20) ih (by omega)
theorem yw(adj:Nat->List Nat)(A B:Nat):∀n:Nat,(mtN adj A B n).2<=n
 |0=>Nat.le_refl _
 |n+1=>by
  have ih:=yw adj A B n;unfold mtN at ih⊢;rw[List.range_succ,List.foldl_append];have key:∀p:Mt×Nat,p.2<=n->(lS adj B p n).2<=n+1:=by
   intro p hp;unfold lS;dsimp only;split<;>omega
  exact key _ ih
theorem AF(m:Mt):cK (mtL m)=true:=by unfold mtL;rw[←uw];exact v8 _
theorem AE{n:Nat}{m:Mt}(M:jN n m):Nat.beq (bK (mtL m)) 100=true:=by rw[bM,jD M];rfl
theorem Dr{n:Nat}{m:Mt}(M:jN n m):bB 100 (bA 0 (mtL m))=mtL m:=by
 rw[cZ,cw,List.drop_zero,List.take_of_length_le (by rw[jD M];omega)]
structure FG (T:Nat->Option af):Prop where
 au:Mq T
 f239:T 65=some f239
 f165:T 36=some f165
theorem BQ(F:FG T){h:Heap}(hr:Rdy h){q:Nat}{a a2:Option Addr}{c c2:Nat}{r:Int}{os:List Od}{ss:List Sp}{fo be:List Bool}{mo ms:Nat}(B:BkR h q (.slice a os.length c) (.slice a2 ss.length c2) r os ss fo be mo ms)(BT:BkT os ss fo be)(h40:os.length<=40)(h20:ss.length<=20):
 Pu T 65 [.pointer (some ⟨q,0,none⟩)] h (mtV (mtN (gU os ss) 40 60 os.length)):=by
 have hp:=F.au.so.co.p;refine .of hp F.f239 hr (Ep _) ?_;have gq:=B.gq;have hql:=hr.wf.fU gq;have kl:aT (bkL (.slice a os.length c) (.slice a2 ss.length c2) r fo be mo ms) (0+0+0)=some (.slice a os.length c):=Nd;have e0:=Qn;refine aX (E0:=[(0, .pointer (some ⟨q,0,none⟩)),(2, .pointer (some ⟨h.next,0,none⟩))]) (P:=λh'=>Ext h h'∧h'.next=h.next+1/\h'.get h.next=some (.cells (flL 0) true 1)) ?_ ?_
 ·refine Y3 ?_;refine aO ?_;refine y1 ?_;exact⟨rfl,rfl,rfl,(Ext.refl h).push _,rfl,by rw[←e0];exact z3 _ _⟩
 rintro h1 ⟨x1,n1,g2⟩;refine aX (E0:=[(0, .pointer (some ⟨q,0,none⟩)),(2, .pointer (some ⟨h.next,0,none⟩)),(4, .pointer (some ⟨h.next+1,0,none⟩))]) (P:=λh'=>Ext h h'∧h'.next=h.next+2/\h'.get h.next=some (.cells (flL 0) true 1)/\h'.get (h.next+1)=some (.cells (flL 0) true 1)) ?_ ?_
 ·refine Y2 ?_;refine aO ?_;refine y1 ?_;rw[←n1];exact⟨rfl,rfl,rfl,x1.push _,by show h1.next+1=h.next+2;omega,(z4 (by omega)).trans g2,by rw[←e0];exact z3 _ _⟩
 rintro h2 ⟨x2,n2,k2,k4⟩;clear x1 n1 g2 e0;refine Y5 ?_
 refine bW (λm e ds h'=>∃i:Nat,i<=40/\40-i=m/\e=[(0, .pointer (some ⟨q,0,none⟩)),(2, .pointer (some ⟨h.next,0,none⟩)),(4, .pointer (some ⟨h.next+1,0,none⟩)),(10, .int .i64 (i:Nat))]/\ds=[]/\Ext h h'∧h'.next=h.next+2/\h'.get h.next=some (.cells (flL 0) true 1)/\h'.get (h.next+1)=some (.cells (flL i) true 1))
  ⟨0,by omega,rfl,rfl,rfl,x2,n2,k2,k4⟩ ?_
 clear x2 n2 k2 k4;rintro m e ds J ⟨i,hi,rfl,rfl,rfl,xJ,nJ,k2,k4⟩;by_cases hlt:i<40
 ·have mlt:ah .lss (.int .i64 (i:Nat)) (.int .i64 40)=some (.bool true):=dG (by omega);have kc:=tI (mJ (i:=i) (by omega)) (o:=0+0+i*1) (by omega) (-1);have kw:=Dc (i:=i) (o:=0+0+i*1) (by omega) (by omega);refine Y17 ?_;refine aA (dZ (by exact rfl) (by exact rfl) k4 kc kw) ?_;refine aO ?_;refine Y7 ?_;exact⟨40-(i+1),by omega,i+1,by omega,rfl,rfl,rfl,xJ.wr (by omega) (by omega),nJ,(z5 (by omega)).trans k2,Heap.aB k4⟩
 obtain rfl:i=40:=by omega
 have mlt:ah .lss (.int .i64 (40:Nat)) (.int .i64 40)=some (.bool false):=rfl;refine Y15 ?_
 refine bW (λm e ds h'=>∃i:Nat,i<=60/\60-i=m/\e=[(0, .pointer (some ⟨q,0,none⟩)),(2, .pointer (some ⟨h.next,0,none⟩)),(4, .pointer (some ⟨h.next+1,0,none⟩)),(17, .int .i64 (i:Nat))]/\ds=[]/\Ext h h'∧h'.next=h.next+2/\h'.get h.next=some (.cells (flL 0) true 1)/\h'.get (h.next+1)=some (.cells (flL (40+i)) true 1))
  ⟨0,by omega,rfl,rfl,rfl,xJ,nJ,k2,k4⟩ ?_
 clear xJ nJ k2 k4 mlt;rintro m e ds J ⟨i,hi,rfl,rfl,rfl,xJ,nJ,k2,k4⟩;by_cases hlt:i<60
 ·have mlt:ah .lss (.int .i64 (i:Nat)) (.int .i64 60)=some (.bool true):=dG (by omega);have kc:=tI (mJ (i:=40+i) (by omega)) (o:=0+40+i*1) (by omega) (-1);have kw:=Dc (i:=40+i) (o:=0+40+i*1) (by omega) (by omega);refine Y17 ?_;refine aA (dZ (by exact rfl) (by exact rfl) k4 kc kw) ?_;refine aO ?_;refine Y7 ?_;exact⟨60-(i+1),by omega,i+1,by omega,rfl,rfl,rfl,xJ.wr (by omega) (by omega),nJ,(z5 (by omega)).trans k2,Heap.aB k4⟩
 obtain rfl:i=60:=by omega
 have mlt:ah .lss (.int .i64 (60:Nat)) (.int .i64 60)=some (.bool false):=rfl;have gq1:=(xJ.old q hql).trans gq;rw[Kt]at k4;refine Y24 ?_
 refine bW (λm e ds h'=>∃i:Nat,i<=os.length/\os.length-i=m/\e=[(0, .pointer (some ⟨q,0,none⟩)),(2, .pointer (some ⟨h.next,0,none⟩)),(4, .pointer (some ⟨h.next+1,0,none⟩)),(7, .int .i64 ((mtN (gU os ss) 40 60 i).2:Nat)),(29, .int .i64 (os.length:Nat)),(30, .int .i64 (i:Nat))]/\ds=[]/\Ext h h'∧h.next+2<=h'.next/\h'.get h.next=some (.cells (flL 0) true 1)/\h'.get (h.next+1)=some (.cells (mtL (mtN (gU os ss) 40 60 i).1) true 1))
  ⟨0,by omega,rfl,rfl,rfl,xJ,by omega,k2,k4⟩ ?_
 clear xJ nJ k2 k4 mlt gq1;rintro m e ds J ⟨i,hi,rfl,rfl,rfl,xJ,nJ,k2,k4⟩;have hlJ:=xJ.log.trans hr.log;have MM:=BR h40 h20 hi;by_cases hlt:i<os.length
 ·have mlt:ah .lss (.int .i64 (i:Nat)) (.int .i64 (os.length:Nat))=some (.bool true):=dG (by omega);have hst:mtN (gU os ss) 40 60 (i+1)=lS (gU os ss) 60 (mtN (gU os ss) 40 60 i) i:=by unfold mtN;rw[List.range_succ,List.foldl_append];rfl
  have hle:=yw (gU os ss) 40 60 i;generalize mtN (gU os ss) 40 60 i=mi at*;refine Y13 ?_;refine aX (E0:=[(0, .pointer (some ⟨q,0,none⟩)),(2, .pointer (some ⟨h.next,0,none⟩)),(4, .pointer (some ⟨h.next+1,0,none⟩)),(7, .int .i64 (mi.2:Nat)),(8, .int .i64 (i:Nat)),(9, .pointer (some ⟨J.next,0,none⟩)),(29, .int .i64 (os.length:Nat)),(30, .int .i64 (i:Nat))]) (P:=λh'=>Ext J h'∧h'.next=J.next+1/\h'.get J.next=some (.cells (bos (List.replicate 60 false)) true 1)) ?_ ?_
  ·refine Y2 ?_;refine aO ?_;refine y1 ?_;exact⟨rfl,rfl,rfl,(Ext.refl J).push _,rfl,by rw[←Kf];exact z3 _ _⟩
  rintro J1 ⟨x1,n1,g9⟩;have xJ1:=xJ.trans x1;have W1:=xJ1.wf hr.wf;have hl1:=x1.log.trans hlJ;have c2:=(x1.old _ (by omega)).trans k2;have c4:=(x1.old _ (by omega)).trans k4;have C:=Na F.au B BT h40 h20 (pm:=h.next+1) (ps:=J.next) (by omega) (by omega) (by omega) 61 (h:={J1 with log:=[]}) (.of W1) xJ1.next xJ1.old (m:=mi.1) (sn:=List.replicate 60 false) (k:=i) MM List.length_replicate hlt (by rw[List.count_replicate_self];omega) c4 g9
  clear xJ x1;refine Y4 ?_;refine FW.gs0 C (λv h' m q=>q) (λz hz=>by omega) ?_;clear C;rintro _ J2 m2 l2 o2 w2 ⟨rfl,p4,p9⟩;have x2:Ext h J2:=⟨Nat.le_trans xJ1.next m2,l2.trans xJ1.log,λz hz=>(o2 z (by have:=xJ1.next;omega) (by omega)).trans (xJ1.old z hz),λw=>w2 (xJ1.wf w)⟩;have d2:=(o2 h.next (by omega) (by omega)).trans c2;have hst1:(mtN (gU os ss) 40 60 (i+1)).1=(aug (gU os ss) 61 mi.1 (List.replicate 60 false) i).2.1:=by rw[hst];rfl
  have hst2:(mtN (gU os ss) 40 60 (i+1)).2=if(aug (gU os ss) 61 mi.1 (List.replicate 60 false) i).1=true then mi.2+1 else mi.2:=by rw[hst];rfl
  rw[←hst1]at p4;cases hb:(aug (gU os ss) 61 mi.1 (List.replicate 60 false) i).1 with
  |true=>
   rw[hb,if_pos rfl]at hst2;have madd:ah .add (.int .i64 (mi.2:Nat)) (.int .i64 1)=some (.int .i64 ((mi.2:Nat)+1)):=iD (bJ (by omega) (by omega));refine Y6 ?_;refine aO ?_;refine Y7 ?_;exact⟨os.length-(i+1),by omega,i+1,by omega,rfl,by rw[hst2];rfl,rfl,x2,by omega,d2,p4⟩
  |false=>
   rw[hb,if_neg (by simp)]at hst2;refine Y9 ?_;exact⟨os.length-(i+1),by omega,i+1,by omega,rfl,by rw[hst2],rfl,x2,by omega,d2,p4⟩
 obtain rfl:i=os.length:=by omega
 have mlt:ah .lss (.int .i64 (os.length:Nat)) (.int .i64 (os.length:Nat))=some (.bool false):=dJ (by omega);have wz1:=jD MM;have wz2:=Dr MM;have wz3:=AE MM;have wz4:=AF (mtN (gU os ss) 40 60 os.length).1;have wz5:=mJ (i:=0) (by omega);refine Y13 ?_;refine aA (bh (by exact rfl) (by exact rfl) (by assumption) (by assumption) (by assumption) (by assumption)) ?_;refine Y3 ?_;exact ak ((Heap.aq (Nat.le_refl _)).trans hlJ) (bH (own:=true) (s:=1) rfl (Heap.aB k2) wz2 wz3 (I9 rfl Ly)) rfl
theorem BkR.log{h0:Heap}{q:Nat}{ov sv:Value}{r:Int}{os:List Od}{ss:List Sp}{fo be:List Bool}{mo ms:Nat}(B:BkR h0 q ov sv r os ss fo be mo ms)(l:List Nat):BkR {h0 with log:=l} q ov sv r os ss fo be mo ms:=
 ⟨B.wf.log l,B.gq,B.so.log l,B.sp.log l⟩
theorem Hf(F:FG T){h:Heap}(hr:Rdy h){q:Nat}{a a2:Option Addr}{c c2:Nat}{r:Int}{os:List Od}{ss:List Sp}{fo be:List Bool}{mo ms:Nat}(B:BkR h q (.slice a os.length c) (.slice a2 ss.length c2) r os ss fo be mo ms)(BT:BkT os ss fo be)(h40:os.length<=40)(h20:ss.length<=20):
 Pu T 36 [.pointer (some ⟨q,0,none⟩)] h (.int .i64 ((os.length:Int)-(mtN (gU os ss) 40 60 os.length).2)):=by
 have hp:=F.au.so.co.p;refine .of hp F.f165 hr rfl ?_;have gq:=B.gq;have hql:=hr.wf.fU gq;have kl:aT (bkL (.slice a os.length c) (.slice a2 ss.length c2) r fo be mo ms) (0+0+0)=some (.slice a os.length c):=Nd;have C:=BQ F (h:={h with log:=[]}) (.of hr.wf) (B.log []) BT h40 h20;have MM:=BR h40 h20 (Nat.le_refl os.length);have hle:=yw (gU os ss) 40 60 os.length;generalize mtN (gU os ss) 40 60 os.length=mi at*;have wz1:=jD MM;have wz2:=Dr MM;have wz3:=AE MM;have wz4:=AF mi.1;have msub:ah .sub (.int .i64 (os.length:Nat)) (.int .i64 (mi.2:Nat))=some (.int .i64 ((os.length:Int)-(mi.2:Nat))):=mW (bJ (by omega) (by omega));refine Y6 ?_;refine FW.pu C ?_;clear C;unfold mtV;refine Y4 ?_;refine aA (bh (by exact rfl) (by exact rfl) YG (by assumption) (by exact rfl) (by assumption)) ?_;refine Y14 ?_;exact ak ((Heap.aq (Nat.le_refl _)).trans hr.log) rfl rfl
def lsN(os:List Od)(ss:List Sp):Int:=(os.length:Int)-(mtN (gU os ss) 40 60 os.length).2
structure My (T:Nat->Option af):Prop where
 md:FG T
 bk:CF T
 f69:T 10=some f69
theorem Di(F:My T){h:Heap}(hr:Rdy h)(hg:Tab h)(h2:0<h.next){ov sv:Value}{os:List Od}{ss:List Sp}{r:Int}(so:OdS h ov os)(ho:os.length<4611686018427387904)(sp:SpS h sv ss)(hs:ss.length<4611686018427387904):
 Pu T 10 [seV ov sv r] h (.tuple #[.int .i64 (if seB os ss r=true then lsN os ss else 0), .int .i64 (seE os ss r)]):=by
 have hp:=F.bk.cs.df.rt.p;refine .of hp F.f69 hr rfl ?_;obtain⟨a,c,rfl⟩:=so.form;obtain⟨a2,c2,rfl⟩:=sp.form;generalize hov:(.slice a os.length c:Value)=ov at*;generalize hsv:(.slice a2 ss.length c2:Value)=sv at*;have hov1:cK [ov]=true:=by rw[←hov];rfl
 have hsv1:cK [sv]=true:=by rw[←hsv];rfl
 refine aX (E0:=[(1, .pointer (some ⟨h.next,0,none⟩))]) (P:=λh'=>Ext h h'∧h'.next=h.next+1/\h'.get h.next=some (.cells [ov,sv, .int .i64 r] true 1)) ?_ ?_
 ·refine Y4 ?_;refine aO ?_;refine y1 ?_;exact⟨rfl,rfl,rfl,(Ext.refl h).push _,rfl,z3 _ _⟩
 rintro h1 ⟨x1,n1,g1⟩;have W1:=x1.wf hr.wf;have hl1:=x1.log.trans hr.log;have C:=EL F.bk (h:={h1 with log:=[]}) (.of W1) (show Tab h1 from(x1.old 0 h2).trans hg) (by show 0<h1.next;omega) (r:=r) ((so.ext x1).log []) ho ((sp.ext x1).log []) hs;refine Y3 ?_;refine FW.al C (λv h' m q=>q) ?_;clear C;rintro v H x2 hq;have W2:=x2.wf W1;have hl2:=x2.log.trans hl1;unfold seE;rcases hq with⟨hb,rfl⟩|⟨hb,q,rfl,q1,q2,fo,be,mo,ms,gq,t1,t2,t3,t4,_⟩
 ·rw[hb,if_neg (by simp)];have m1:ah .neq (.int .i64 1) (.int .i64 0)=some (.bool true):=rfl;refine Y19 ?_;exact ak hl2 rfl rfl
 ·rw[hb,if_pos rfl];have m1:ah .neq (.int .i64 0) (.int .i64 0)=some (.bool false):=rfl;have h40:os.length<=40:=by unfold seB at hb;simp only[Bool.and_eq_true,decide_eq_true_eq]at hb;exact hb.1.1.2
  have h20:ss.length<=20:=by unfold seB at hb;simp only[Bool.and_eq_true,decide_eq_true_eq]at hb;exact hb.1.2
  have gq':H.get q=some (.cells (bkL ov sv r fo be mo ms) true 1):=gq;rw[←hov,←hsv]at gq';have B:BkR {H with log:=[]} q (.slice a os.length c) (.slice a2 ss.length c2) r os ss fo be mo ms:=⟨W2.log [],gq',by rw[hov];exact((so.ext x1).ext x2).log [],by rw[hsv];exact((sp.ext x1).ext x2).log []⟩;have C:=Hf F.md (h:={H with log:=[]}) (.of W2) B ⟨t1,t2,t3,t4⟩ h40 h20;refine Y17 ?_;refine FW.pu C ?_;clear C;refine Y4 ?_;exact ak hl2 rfl rfl
abbrev Wd:=List Nat×List Nat
structure WoS (h:Heap) (v:Value) (l:List Wd):Prop where
 sl:LsS wL 16 h v l
 ok:∀x∈l,IsW x
theorem WoS.form{h:Heap}{v:Value}{l:List Wd}(s:WoS h v l):∃a c,v= .slice a l.length c:=bS.form s.sl
theorem WoS.ext{h h':Heap}{v:Value}{l:List Wd}(s:WoS h v l)(x:Ext h h'):WoS h' v l:=⟨bS.ext s.sl x,s.ok⟩
theorem WoS.log{h:Heap}{v:Value}{l:List Wd}(s:WoS h v l)(m:List Nat):WoS {h with log:=m} v l:=⟨bS.log s.sl m,s.ok⟩
theorem WoS.elem{h:Heap}{v:Value}{l:List Wd}(s:WoS h v l){i:Nat}{x:Wd}(hi:l[i]? =some x):
 ∃b o c vs own t,v= .slice (some ⟨b,o,none⟩) l.length c/\h.get b=some (.cells vs own t)/\b<h.next/\bB 16 (bA (o+i*16) vs)=wL x:=
 LsS.elem s.sl (λx hx=>iq (s.ok x hx)) hi
def iW(w:Wd):Bool:= !(sIn w.1 w.2)||decide (w.2=s0)
def BF(l:List Wd):Int:=if l.any iW=true then(l.findIdx iW:Nat)else -1
structure sK (T:Nat->Option af):Prop where
 le:My T
 wd:MC T
 f158:T 24=some f158
 f159:T 27=some f159
 f233:T 58=some f233
 f160:T 28=some f160
 f161:T 29=some f161
 f162:T 30=some f162
 f67:T 7=some f67
theorem Nb(F:sK T){h:Heap}(hr:Rdy h){w:Wd}(hw:IsW w):Pu T 24 [wV w] h (.bool (iW w)):=by
 have hp:=F.le.bk.cs.df.rt.p;refine .of hp F.f158 hr rfl ?_;have k1:=mU hw;have k2:=zI hw;have k3:=JK hw;have k4:=aR hw.b.len;have k5:=mh w;have x1:Ext h (h.push (.cells (wL w) true 1)):=(Ext.refl h).push _;have W1:=x1.wf hr.wf;have C1:=GY F.wd (h:={(h.push (.cells (wL w) true 1))with log:=[]}) (.of W1) hw;have C2:=C9 hp F.wd.f90 (h:={(h.push (.cells (wL w) true 1))with log:=[]}) (.of W1) hw.b;unfold iW;cases hb:sIn w.1 w.2 with
 |true=>
  rw[hb]at C1;rw[Bool.not_true,Bool.false_or];refine Y5 ?_;refine aA (cQ (by exact rfl) YG (by assumption) (by assumption)) ?_;refine yC ?_;refine FW.pu C1 ?_;refine Y5 ?_;refine aA (cQ (by exact rfl) YG (by assumption) (by assumption)) ?_;refine Y2 ?_;refine FW.pu C2 ?_;refine Y4 ?_;exact ak hr.log rfl rfl
 |false=>
  rw[hb]at C1;rw[Bool.not_false,Bool.true_or];refine Y5 ?_;refine aA (cQ (by exact rfl) YG (by assumption) (by assumption)) ?_;refine yC ?_;refine FW.pu C1 ?_;refine Y9 ?_;exact ak hr.log rfl rfl
theorem GV(F:sK T){h:Heap}(hr:Rdy h){v:Value}{l:List Wd}(s:WoS h v l)(hl:l.length<4611686018427387904):Pu T 58 [v, .func (.func 24) #[] #[]] h (.int .i64 (BF l)):=by
 have hp:=F.le.bk.cs.df.rt.p;refine .of hp F.f233 hr rfl ?_;obtain⟨a,c,rfl⟩:=s.form;refine Y10 ?_
 refine bW (λm e ds h'=>∃i:Nat,i<=l.length/\l.length-i=m/\e=[(0, .slice a l.length c),(1, .func (.func 24) #[] #[]),(7, .int .i64 (l.length:Nat)),(8, .int .i64 (i:Nat))]/\ds=[]/\h'=h/\(l.take i).any iW=false)
  ⟨0,by omega,rfl,rfl,rfl,rfl,by simp⟩ ?_
 rintro m e ds J ⟨i,hi,rfl,rfl,rfl,rfl,hno⟩;by_cases hlt:i<l.length
 ·obtain⟨x,hx⟩:∃r,l[i]? =some r:=⟨l[i],List.getElem?_eq_getElem hlt⟩;have hxw:=s.ok x (List.mem_of_getElem? hx);obtain⟨b,o,cc,vs,own,tt,hv,gl,hbl,el⟩:=s.elem hx;cases hv;have mlt:ah .lss (.int .i64 (i:Nat)) (.int .i64 (l.length:Nat))=some (.bool true):=dG (by omega);have k1:=mU hxw;have C:=Nb F (h:={J with log:=[]}) (.of hr.wf) hxw;cases hb:iW x with
  |true=>
   rw[hb]at C;have hid:l.findIdx iW=i:=by
    refine(List.findIdx_eq hlt).2 ⟨?_,λj hj=> ?_⟩
    ·rw[List.getElem?_eq_getElem hlt]at hx;cases hx;exact hb
    ·have:∀y∈l.take i,iW y=false:=λy hy=>by
      have:=List.any_eq_false.1 hno y hy;simpa using this
     exact this _ (List.mem_take_iff_getElem.2 ⟨j,by omega,rfl⟩)
   have hany:l.any iW=true:=List.any_eq_true.2 ⟨x,List.mem_of_getElem? hx,hb⟩;have hres:BF l=(i:Int):=by unfold BF;rw[if_pos hany,hid]
   rw[hres];refine Y20 ?_;refine FW.pu C ?_;refine Y12 ?_;exact ak hr.log rfl rfl
  |false=>
   rw[hb]at C;refine Y20 ?_;refine FW.pu C ?_;refine Y9 ?_;exact⟨l.length-(i+1),by omega,i+1,by omega,rfl,rfl,rfl,rfl,by rw[List.take_add_one,hx,List.any_append,hno];simp[hb]⟩
 ·obtain rfl:i=l.length:=by omega
  have mlt:ah .lss (.int .i64 (l.length:Nat)) (.int .i64 (l.length:Nat))=some (.bool false):=dJ (by omega);rw[List.take_length]at hno;have hres:BF l= -1:=by unfold BF;rw[hno,if_neg (by simp)]
  rw[hres];refine Y14 ?_;exact ak hr.log rfl rfl
theorem zY(F:sK T){h:Heap}(hr:Rdy h){v:Value}{l:List Wd}(s:WoS h v l)(hl:l.length<4611686018427387904):Pu T 27 [v, .func (.func 24) #[] #[]] h (.bool (l.any iW)):=by
 have hp:=F.le.bk.cs.df.rt.p;refine .of hp F.f159 hr rfl ?_;have C:=GV F (h:={h with log:=[]}) (.of hr.wf) (s.log []) hl;have mge:ah .geq (.int .i64 (BF l)) (.int .i64 0)=some (.bool (l.any iW)):=by
  rw[Dm];congr 2;unfold BF;cases l.any iW with
  |true=>rw[if_pos rfl];exact decide_eq_true (by omega)
  |false=>rw[if_neg (by simp)];rfl
 refine Y7 ?_;refine FW.pu C ?_;refine Y4 ?_;exact ak hr.log rfl rfl
theorem Lb(F:sK T){h:Heap}(hr:Rdy h){w:Wd}(hw:IsW w):Pu T 29 [wV w] h (sv w.2):=by
 have hp:=F.le.bk.cs.df.rt.p;refine .of hp F.f161 hr (jk _) ?_;have k1:=mU hw;have k2:=zI hw;have k3:=JK hw;have k4:=aR hw.b.len;have k5:=mh w;have k6:(us w.2).length=8:=by rw[aI];exact hw.b.len
 have k7:=bR hw.b.len;have k8:=cg w.2;refine Y6 ?_;refine aA (cQ (by exact rfl) YG (by assumption) (by assumption)) ?_;refine aA (bh (by exact rfl) (by exact rfl) YG (by assumption) (by exact rfl) (by exact cg _)) ?_;refine Y2 ?_;exact ak ((Heap.aq (by show h.next<=h.next+1;omega)).trans hr.log) (bH (own:=true) (s:=1) rfl (Heap.aB (z3 _ _)) k7 k4 rfl) rfl
theorem Lc(F:sK T){h:Heap}(hr:Rdy h){w:Wd}(hw:IsW w):Pu T 30 [wV w] h (sv w.1):=by
 have hp:=F.le.bk.cs.df.rt.p;refine .of hp F.f162 hr (jk _) ?_;have k1:=mU hw;have k2:=zI hw;have k3:=Mb hw;have k4:=aR hw.a.len;have k5:=mh w;have k6:(us w.1).length=8:=by rw[aI];exact hw.a.len
 have k7:=bR hw.a.len;have k8:=cg w.1;refine Y6 ?_;refine aA (cQ (by exact rfl) YG (by assumption) (by assumption)) ?_;refine aA (bh (by exact rfl) (by exact rfl) YG (by assumption) (by exact rfl) (by exact cg _)) ?_;refine Y2 ?_;exact ak ((Heap.aq (by show h.next<=h.next+1;omega)).trans hr.log) (bH (own:=true) (s:=1) rfl (Heap.aB (z3 _ _)) k7 k4 rfl) rfl
def mu(s:List Nat)(x:Sp):List Sp:=if s=s0 then []else [⟨x.id,x.size,s⟩]
def gY(f:Nat->List Nat)(ss:List Sp):Nat->List Sp
 |0=>[]
 |i+1=>gY f ss i++(match ss[i]? with|some x=>mu (f i) x|none=>[])
theorem jm(f:Nat->List Nat)(ss:List Sp):∀i,(gY f ss i).length<=i
 |0=>Nat.le_refl _
 |i+1=>by
  have ih:=jm f ss i;unfold gY;rw[List.length_append];cases ss[i]? with
  |none=>simp;omega
  |some x=>
   show _+(mu (f i) x).length<=i+1;unfold mu;split<;>simp<;>omega
theorem rE{f:Nat->List Nat}{ss:List Sp}:∀{i:Nat},(∀j,j<i->IsS (f j))->∀x∈gY f ss i,IsS x.cB
 |0,_,x,hx=>by cases hx
 |i+1,hf,x,hx=>by
  unfold gY at hx;rcases List.mem_append.1 hx with h|h
  ·exact rE (λj hj=>hf j (by omega)) x h
  ·cases hs:ss[i]? with
   |none=>rw[hs]at h;cases h
   |some y=>
    rw[hs]at h;replace h:x∈mu (f i) y:=h;unfold mu at h;split at h
    ·cases h
    ·rw[List.mem_singleton.1 h];exact hf i (by omega)
def crF(pf:Wd->List Nat)(cr:List Wd)(i:Nat):List Nat:=match cr[i]? with|some w=>pf w|none=>s0
def JZ(f:Nat->List Nat)(ss:List Sp):List Sp:=gY f ss ss.length
theorem DJ{x:Sp}{s:List Nat}(h:IsS x.cB)(hs:IsS s):bZ (spL x) (0+2) (us s)=spL ⟨x.id,x.size,s⟩:=by
 rw[gM (by rw[dV h,aI,hs.len];omega),aI,hs.len];show [Value.int .i64 x.id, .int .i64 x.size]++us s++(us x.cB).drop 8=[Value.int .i64 x.id, .int .i64 x.size]++us s;rw[List.drop_of_length_le (by rw[aI,h.len];omega),List.append_nil]
theorem uq{h:Heap}{e:Env}{z cs:List Value}{k:Nat}{x:Operand}(hc:cs.length=k)(hz:z.length=k)(hx:ev h e x=some (.agg cs.toArray)):iO h e z [(0,k,x)]=some cs:=by
 have e1:cellsOf (.agg cs.toArray)=cs:=by show cs.toArray.toList=_;simp
 have e2:bZ z 0 cs=cs:=by rw[gM (by omega),hc,List.take_zero,List.drop_eq_nil_of_le (by omega)];simp
 simp only[iO,hx,e1,e2,bM,hc,hz,beq_eq,ble_eq,Nat.zero_add];simp
theorem Ji{ov v':Value}{r:Int}(h:cT (seV ov v' r)=true):jV v'=true:=by
 cases hs:jV v' with
 |true=>rfl
 |false=>simp[cT,seV,seL,flat,cU,hs]at h
structure xu (ov:Value) (r:Int) (l:List Sp) (v:Value) (h:Heap):Prop where
 ex:∃v',v=seV ov v' r/\Own 0 h 10 v' l.length (l.flatMap spL)
theorem xu.log{ov:Value}{r:Int}{l:List Sp}{v:Value}{h:Heap}(q:xu ov r l v h)(m:List Nat):xu ov r l v {h with log:=m}:=by
 obtain⟨v',e,o⟩:=q.ex;exact⟨v',e,o.log m⟩
theorem xu.spS{ov:Value}{r:Int}{l:List Sp}{v:Value}{h:Heap}(q:xu ov r l v h)(hl:l.length<=1000)(hw:∀x∈l,IsS x.cB):∃v',v=seV ov v' r/\SpS h v' l:=by
 obtain⟨v',e,o⟩:=q.ex;exact⟨v',e,⟨o.slice (by omega),hw⟩⟩
theorem xu.flat{ov:Value}{r:Int}{l:List Sp}{v:Value}{h h':Heap}(hv:cT v=true)(q:xu ov r l v h):xu ov r l v h':=by
 obtain⟨v',rfl,o⟩:=q.ex;have hs:=Ji hv;refine⟨v',rfl,?_⟩;generalize l.length=n at*;generalize l.flatMap spL=cs at*;cases o with
 |nil=>exact .nil
 |full _ _ _ _ _=>simp[jV,ji]at hs
theorem DS(F:sK T){h:Heap}(hr:Rdy h){pk b1 b2:Nat}{pf:Wd->List Nat}(hpk:∀{H:Heap},Rdy H->∀{w:Wd},IsW w->Pu T pk [wV w] H (sv (pf w)))(hpf:∀w,IsW w->IsS (pf w))
 {ov sv' cv:Value}{ss:List Sp}{cr:List Wd}{r:Int}(g1:h.get b1=some (.cells [ov,sv', .int .i64 r] true 1))(g2:h.get b2=some (.cells [cv] true 1))(hov:cK [ov]=true)(sp:SpS h sv' ss)(wo:WoS h cv cr)(hlen:cr.length=ss.length)(h20:ss.length<=20):
 Al T 28 [.func (.func pk) #[] #[], .pointer (some ⟨b1,0,none⟩), .pointer (some ⟨b2,0,none⟩)] h (xu ov r (JZ (crF pf cr) ss)):=by
 have hp:=F.le.bk.cs.df.rt.p;refine .of hp F.f160 hr (λv h1 hv q=>q.flat hv) ?_;obtain⟨a,c,rfl⟩:=sp.form;obtain⟨a2,c2,rfl⟩:=wo.form;have hb1:=hr.wf.fU g1;have hb2:=hr.wf.fU g2;have hon:cK (bB 3 (bA 0 [ov, .slice a ss.length c, .int .i64 r]))=true:=dL (a:=[ov]) hov rfl;refine aX (E0:=[(0, .func (.func pk) #[] #[]),(1, .pointer (some ⟨b1,0,none⟩)),(2, .pointer (some ⟨b2,0,none⟩)),(4, .pointer (some ⟨h.next,0,none⟩))]) (P:=λh'=>Ext h h'∧h'.next=h.next+1/\h'.get h.next=some (.cells [.slice none 0 0, .slice none 0 0, .int .i64 0] true 1)) ?_ ?_
 ·refine Y2 ?_;refine aO ?_;refine y1 ?_;exact⟨rfl,rfl,rfl,(Ext.refl h).push _,rfl,z3 _ _⟩
 rintro h1 ⟨x1,n1,g4⟩;have k1:=(x1.old b1 hb1).trans g1;refine aX (E0:=[(0, .func (.func pk) #[] #[]),(1, .pointer (some ⟨b1,0,none⟩)),(2, .pointer (some ⟨b2,0,none⟩)),(4, .pointer (some ⟨h.next,0,none⟩)),(5, .pointer (some ⟨h.next+1,0,none⟩))]) (P:=λh'=>Ext h1 h'∧h'.next=h.next+2/\h'.get (h.next+1)=some (.cells [ov, .slice a ss.length c, .int .i64 r] true 1)) ?_ ?_
 ·refine Y3 ?_;refine aA (bh (by exact rfl) (by exact rfl) YG (by exact rfl) (by exact rfl) (by assumption)) ?_;refine aO ?_;refine y1 ?_;rw[←n1];exact⟨rfl,rfl,rfl,dI (by omega) _ _,by show h1.next+1=h.next+2;omega,ef _ _⟩
 rintro h2 ⟨x2,n2,g5⟩;have x02:=x1.trans x2;refine aX (E0:=[(0, .func (.func pk) #[] #[]),(1, .pointer (some ⟨b1,0,none⟩)),(2, .pointer (some ⟨b2,0,none⟩)),(4, .pointer (some ⟨h.next,0,none⟩)),(5, .pointer (some ⟨h.next+1,0,none⟩))]) (P:=λh'=>Ext h h'∧h'.next=h.next+2/\h'.get h.next=some (.cells [.slice none 0 0, .slice none 0 0, .int .i64 0] true 1)/\h'.get (h.next+1)=some (.cells [ov, .slice none 0 0, .int .i64 r] true 1)) ?_ ?_
 ·refine Y3 ?_;refine aO ?_;refine y1 ?_;exact⟨rfl,rfl,rfl,x02.wr (by omega) (by omega),n2,(z5 (by omega)).trans ((x2.old _ (by omega)).trans g4),Heap.aB g5⟩
 rintro h3 ⟨x3,n3,m4,m5⟩;clear x1 x2 x02 n1 n2 k1 g4 g5;have q1:=(x3.old b1 hb1).trans g1;refine Y8 ?_
 refine bW (λm e ds h'=>∃i:Nat,i<=ss.length/\ss.length-i=m/\e=[(0, .func (.func pk) #[] #[]),(2, .pointer (some ⟨b2,0,none⟩)),(4, .pointer (some ⟨h.next,0,none⟩)),(5, .pointer (some ⟨h.next+1,0,none⟩)),(11, .slice a ss.length c),(12, .int .i64 (ss.length:Nat)),(13, .int .i64 (i:Nat))]/\ds=[]/\Ext h h'∧h.next+2<=h'.next/\h'.get h.next=some (.cells [.slice none 0 0, .slice none 0 0, .int .i64 0] true 1)/\∃v,h'.get (h.next+1)=some (.cells [ov,v, .int .i64 r] true 1)/\cK [v]=true/\Own (h.next+2) h' 10 v (gY (crF pf cr) ss i).length ((gY (crF pf cr) ss i).flatMap spL))
  ⟨0,by omega,rfl,rfl,rfl,x3,by omega,m4,_,m5,rfl, .nil⟩ ?_
 clear x3 n3 m4 m5 q1;rintro m e ds J ⟨i,hi,rfl,rfl,rfl,xJ,nJ,m4,v,m5,hv1,ow⟩;have WJ:=xJ.wf hr.wf;have hlJ:=xJ.log.trans hr.log;have hon3:cK (bB 3 (bA 0 [ov,v, .int .i64 r]))=true:=dL (a:=[ov]) hov (dL (a:=[v]) hv1 rfl);by_cases hlt:i<ss.length
 ·obtain⟨x,hx⟩:∃r,ss[i]? =some r:=⟨ss[i],List.getElem?_eq_getElem hlt⟩;have hxw:=sp.ok x (List.mem_of_getElem? hx);obtain⟨b,o,cc,vs,own,tt,hv,gl,hbl,el⟩:=sp.elem hx;cases hv;obtain⟨w,hw⟩:∃r,cr[i]? =some r:=⟨cr[i],List.getElem?_eq_getElem (by omega)⟩;have hww:=wo.ok w (List.mem_of_getElem? hw);obtain⟨b',o',cc',vs',own',tt',hv',gl',hbl',el'⟩:=wo.elem hw;cases hv';have mlt:ah .lss (.int .i64 (i:Nat)) (.int .i64 (ss.length:Nat))=some (.bool true):=dG (by omega);have k1:=iH hxw;have k2:=kn hxw;have k3:=dV hxw;have k4:=jj x;have gl1:=(xJ.old _ hbl).trans gl;refine Y9 ?_;refine aX (E0:=[(0, .func (.func pk) #[] #[]),(2, .pointer (some ⟨b2,0,none⟩)),(4, .pointer (some ⟨h.next,0,none⟩)),(5, .pointer (some ⟨h.next+1,0,none⟩)),(6, .int .i64 (i:Nat)),(7, .pointer (some ⟨J.next,0,none⟩)),(11, .slice (some ⟨b,o,none⟩) ss.length c),(12, .int .i64 (ss.length:Nat)),(13, .int .i64 (i:Nat))]) (P:=λh'=>Ext J h'∧h'.next=J.next+1/\h'.get J.next=some (.cells (spL x) true 1)) ?_ ?_
  ·refine Y6 ?_;refine aA (bh (by exact rfl) (by exact rfl) YG (by assumption) (by exact rfl) (by exact cg _)) ?_;refine aO ?_;refine y1 ?_;exact⟨rfl,rfl,rfl,dI (by omega) _ _,rfl,ef _ _⟩
  rintro J1 ⟨x1,nJ1,g7⟩;have W1:=x1.wf WJ;have hl1:=x1.log.trans hlJ;have xJ1:=xJ.trans x1;have p2:=(xJ1.old b2 hb2).trans g2;have gl2:=(xJ1.old _ hbl').trans gl';have e1:=mU hww;have hcf:crF pf cr i=pf w:=by unfold crF;rw[hw]
  have hfs:=hpf w hww;have C:=hpk (H:={J1 with log:=[]}) (.of W1) hww;have kput:=DJ hxw hfs;have wz1:(Nat.beq (bK (cellsOf (sv (pf w)))) 8&&Nat.ble (0+2+8) (bK (spL x))&&cK (cellsOf (sv (pf w))))=true:=by
   have e:cellsOf (sv (pf w))=us (pf w):=by show(us (pf w)).toArray.toList=_;simp
   rw[e,bM,bM,aI,hfs.len,k3,cg,eT (by omega)];rfl
  have wz2:bZ (spL x) (0+2) (cellsOf (sv (pf w)))=spL ⟨x.id,x.size,pf w⟩:=by
   have e:cellsOf (sv (pf w))=us (pf w):=by show(us (pf w)).toArray.toList=_;simp
   rw[e];exact kput
  skip;refine aX (E0:=[(0, .func (.func pk) #[] #[]),(2, .pointer (some ⟨b2,0,none⟩)),(4, .pointer (some ⟨h.next,0,none⟩)),(5, .pointer (some ⟨h.next+1,0,none⟩)),(7, .pointer (some ⟨J.next,0,none⟩)),(11, .slice (some ⟨b,o,none⟩) ss.length c),(12, .int .i64 (ss.length:Nat)),(13, .int .i64 (i:Nat))]) (P:=λh'=>Ext J h'∧h'.next=J.next+1/\h'.get J.next=some (.cells (spL ⟨x.id,x.size,pf w⟩) true 1)) ?_ ?_
  ·refine Y7 ?_;refine FW.pu C ?_;refine yF ?_;refine aA (dZ (by exact rfl) (by exact rfl) g7 wz1 wz2) ?_;refine aO ?_;refine y1 ?_;exact⟨rfl,rfl,rfl,x1.wr (Nat.le_refl _) (by omega),nJ1,Heap.aB g7⟩
  rintro J2 ⟨x2,nJ2,g72⟩;have W2:=x2.wf WJ;have hl2:=x2.log.trans hlJ;have xJ2:=xJ.trans x2;have wy1:=iH (x:=⟨x.id,x.size,pf w⟩) hfs;have wy2:=kn (x:=⟨x.id,x.size,pf w⟩) hfs;have wy3:=dV (x:=⟨x.id,x.size,pf w⟩) hfs;have wy4:=jj ⟨x.id,x.size,pf w⟩;have wy5:=lu (x:=⟨x.id,x.size,pf w⟩) hfs;have wy6:=aR hfs.len;have wy5':bB 8 (bA (0+2) (spL ⟨x.id,x.size,pf w⟩))=us (pf w):=wy5;have n4:=(x2.old h.next (by omega)).trans m4;have n5:=(x2.old (h.next+1) (by omega)).trans m5;have ow2:=ow.ext x2;have C2:=C9 hp F.wd.f90 (h:={J2 with log:=[]}) (.of W2) hfs;have hst:gY (crF pf cr) ss (i+1)=gY (crF pf cr) ss i++mu (pf w) x:=by
   rw[←hcf];show gY (crF pf cr) ss i++(match ss[i]? with|some x=>mu (crF pf cr i) x|none=>[])=_;rw[hx]
  have hle:=jm (crF pf cr) ss i;clear C wz1 wz2 kput g7 x1 W1 hl1 xJ1 gl1 gl2 m4 m5 ow p2;by_cases hem:pf w=s0
  ·rw[decide_eq_true hem]at C2;rw[show mu (pf w) x=[]from if_pos hem,List.append_nil]at hst;refine Y4 ?_;refine FW.pu C2 ?_;refine Y10 ?_;exact⟨ss.length-(i+1),by omega,i+1,by omega,rfl,rfl,rfl,xJ2,by omega,n4,v,n5,hv1,by rw[hst];exact ow2⟩
  ·rw[decide_eq_false hem]at C2;rw[show mu (pf w) x=[⟨x.id,x.size,pf w⟩]from if_neg hem]at hst;refine Y4 ?_;refine FW.pu C2 ?_;clear C2;refine Y7 ?_;refine aA (qi (uq wy3 rfl (by exact rfl)) rfl) ?_;skip;refine DQ (lo:=h.next+2) (sz:=10) (v:=v) (c1:=spL ⟨x.id,x.size,pf w⟩) (ow2.ext ((Ext.refl J2).push _)) (by omega) (by omega) (by omega) (by show h.next+2<=J2.next+1;omega) (by omega) (by exact rfl) (by exact rfl) (kF (n:=1) (cs:=spL ⟨x.id,x.size,pf w⟩) YG wy2 wy3) wy3 wy4 ?_;intro v' h6 o6 x6;have ey6:Lx (h.next+2) J2 h6:=((Lx.refl (h.next+2) J2).push (by omega) _).trans x6;have r4:=(ey6.old _ (by omega)).trans n4;have r5:=(ey6.old _ (by omega)).trans n5;have n6:=ey6.next
   obtain⟨a6,c6,rfl⟩:=(o6.slice (by omega)).form;refine Y2 ?_;refine aO ?_;refine Y7 ?_;refine⟨ss.length-(i+1),by omega,i+1,by omega,rfl,rfl,rfl,?_,?_,?_,_,Heap.aB r5,rfl,?_⟩
   ·exact(((xJ2.lx (Nat.le_refl _)).trans (ey6.mono (by omega))).ext).wr (by omega) (by omega)
   ·show h.next+2<=h6.next;omega
   ·exact(z5 (by omega)).trans r4
   ·rw[hst,List.length_append,List.flatMap_append,List.length_singleton];rw[show [(⟨x.id,x.size,pf w⟩:Sp)].flatMap spL=spL ⟨x.id,x.size,pf w⟩by simp];refine Own.keep o6 ?_ ?_
    ·exact Nat.le_refl _
    ·intro z hz _;exact z5 (by omega)
 ·obtain rfl:i=ss.length:=by omega
  have mlt:ah .lss (.int .i64 (ss.length:Nat)) (.int .i64 (ss.length:Nat))=some (.bool false):=dJ (by omega);refine Y12 ?_;refine aA (bh (by exact rfl) (by exact rfl) (by assumption) (by exact rfl) (by exact rfl) (by assumption)) ?_;refine Y2 ?_;refine fA ((Heap.aq (Nat.le_refl _)).trans hlJ) (bH (own:=true) (s:=1) rfl (Heap.aB m4) rfl rfl rfl) ⟨v,rfl,Own.low (lo:=h.next+2) (Own.keep ow ?_ ?_) (Nat.zero_le _)⟩
  ·exact Nat.le_refl _
  ·intro z hz _;exact z5 (by omega)
def wNo(cr:List Wd)(ss:List Sp):Bool:=decide (cr.length≠ss.length)||cr.any iW
def wHi(cr:List Wd)(ss:List Sp):List Sp:=JZ (crF (λw=>w.2) cr) ss
def wLo(cr:List Wd)(ss:List Sp):List Sp:=JZ (crF (λw=>w.1) cr) ss
def nmT(os:List Od)(ss:List Sp)(cr:List Wd)(r:Int):Int×Int×Int:=
 if wNo cr ss=true then(0,0,1)else
 if seB os (wHi cr ss) r=false then(0,0,1)else
 if seB os (wLo cr ss) r=false then(0,0,1)else(lsN os (wHi cr ss),lsN os (wLo cr ss),0)
def nmV(p:Int×Int×Int):Value:= .tuple #[.int .i64 p.1, .int .i64 p.2.1, .int .i64 p.2.2]
theorem xO{pf:Wd->List Nat}(hpf:∀w,IsW w->IsS (pf w)){cr:List Wd}(hc:∀w∈cr,IsW w)(j:Nat):IsS (crF pf cr j):=by
 unfold crF;cases h:cr[j]? with
 |none=>exact om
 |some w=>exact hpf w (hc w (List.mem_of_getElem? h))
theorem Et(F:sK T){h:Heap}(hr:Rdy h)(hg:Tab h)(h2:0<h.next){ov sv' cv:Value}{os:List Od}{ss:List Sp}{cr:List Wd}{r:Int}(so:OdS h ov os)(ho:os.length<4611686018427387904)(sp:SpS h sv' ss)(h20:ss.length<=20)(wo:WoS h cv cr)(hc:cr.length<4611686018427387904):
 Pu T 7 [seV ov sv' r,cv] h (nmV (nmT os ss cr r)):=by
 have hp:=F.le.bk.cs.df.rt.p;refine .of hp F.f67 hr rfl ?_;obtain⟨a1,c1,rfl⟩:=so.form;obtain⟨a,c,rfl⟩:=sp.form;obtain⟨a2,c2,rfl⟩:=wo.form;refine aX (E0:=[(2, .pointer (some ⟨h.next,0,none⟩)),(3, .pointer (some ⟨h.next+1,0,none⟩))]) (P:=λh'=>Ext h h'∧h'.next=h.next+2/\h'.get h.next=some (.cells [.slice a1 os.length c1, .slice a ss.length c, .int .i64 r] true 1)/\h'.get (h.next+1)=some (.cells [.slice a2 cr.length c2] true 1)) ?_ ?_
 ·refine Y6 ?_;refine aO ?_;refine y1 ?_;exact⟨rfl,rfl,rfl,((Ext.refl h).push _).push _,rfl,(z4 (Nat.lt_succ_self _)).trans (z3 h _),z3 (h.push _) _⟩
 rintro h1 ⟨x1,n1,g2,g3⟩;have W1:=x1.wf hr.wf;have hl1:=x1.log.trans hr.log;have wo1:=wo.ext x1;have C1:=zY F (h:={h1 with log:=[]}) (.of W1) (wo1.log []) hc;unfold nmT;generalize hov:(.slice a1 os.length c1:Value)=ov at*;have hov1:cK [ov]=true:=by rw[←hov];rfl
 by_cases hlen:cr.length=ss.length;case neg=>
  have m1:ah .neq (.int .i64 (cr.length:Nat)) (.int .i64 (ss.length:Nat))=some (.bool true):=yg (by omega);rw[if_pos (show wNo cr ss=true by unfold wNo;rw[decide_eq_true hlen];rfl)];refine Y25 ?_;exact ak hl1 rfl rfl
 have m1:ah .neq (.int .i64 (cr.length:Nat)) (.int .i64 (ss.length:Nat))=some (.bool false):=BO (by omega);cases hb:cr.any iW with
 |true=>
  rw[hb]at C1;rw[if_pos (show wNo cr ss=true by unfold wNo;rw[hb,Bool.or_true])];refine Y18 ?_;refine FW.pu C1 ?_;refine Y10 ?_;exact ak hl1 rfl rfl
 |false=>
 rw[hb]at C1;rw[if_neg (show¬wNo cr ss=true by unfold wNo;rw[hb,decide_eq_false (λq=>q hlen)];simp)];have okH:=rE (f:=crF (λw=>w.2) cr) (ss:=ss) (i:=ss.length) (λj _=>xO (λw hw=>hw.b) wo.ok j);have okL:=rE (f:=crF (λw=>w.1) cr) (ss:=ss) (i:=ss.length) (λj _=>xO (λw hw=>hw.a) wo.ok j);have leH:=jm (crF (λw=>w.2) cr) ss ss.length;have leL:=jm (crF (λw=>w.1) cr) ss ss.length;have C2:=DS F (h:={h1 with log:=[]}) (.of W1) (pk:=29) (λhr w hw=>Lb F hr hw) (λw hw=>hw.b) g2 g3 hov1 ((sp.ext x1).log []) (wo1.log []) hlen h20;refine Y18 ?_;refine FW.pu C1 ?_;clear C1;refine Y12 ?_;refine FW.al C2 (λv h' m q=>q.log m) ?_;clear C2;rintro _ H x2 hq;obtain⟨v2,rfl,sp2⟩:=hq.spS (Nat.le_trans leH (by omega)) okH;have W2:=x2.wf W1;have hl2:=x2.log.trans hl1;have x02:=x1.trans x2;have C3:=Di F.le (h:={H with log:=[]}) (.of W2) (show Tab H from(x02.old 0 h2).trans hg) (by have:=x02.next;show 0<H.next;omega) (r:=r) ((so.ext x02).log []) ho (sp2.log []) (Nat.lt_of_le_of_lt leH (by omega));have e2:=(x2.old h.next (by omega)).trans g2;have e3:=(x2.old (h.next+1) (by omega)).trans g3;have C4:=DS F (h:={H with log:=[]}) (.of W2) (pk:=30) (λhr w hw=>Lc F hr hw) (λw hw=>hw.a) e2 e3 hov1 ((sp.ext x02).log []) ((wo.ext x02).log []) hlen h20;clear g2 g3 hq;unfold seE at C3;rw[show JZ (crF Prod.snd cr) ss=wHi cr ss from rfl]at C3;cases hb1:seB os (wHi cr ss) r with
 |false=>
  rw[hb1,if_neg (by simp),if_neg (by simp)]at C3;rw[if_pos rfl];have m2:ah .neq (.int .i64 1) (.int .i64 0)=some (.bool true):=rfl;skip;refine yC ?_;refine FW.pu C3 ?_;refine Y20 ?_;exact ak hl2 rfl rfl
 |true=>
 rw[hb1,if_pos rfl,if_pos rfl]at C3;rw[if_neg (by simp)];have m2:ah .neq (.int .i64 0) (.int .i64 0)=some (.bool false):=rfl;skip;refine yC ?_;refine FW.pu C3 ?_;clear C3;refine Y17 ?_;refine FW.al C4 (λv h' m q=>q.log m) ?_;clear C4;rintro _ H3 x3 hq;obtain⟨v3,rfl,sp3⟩:=hq.spS (Nat.le_trans leL (by omega)) okL;have W3:=x3.wf W2;have hl3:=x3.log.trans hl2;have x03:=x02.trans x3;have C3:=Di F.le (h:={H3 with log:=[]}) (.of W3) (show Tab H3 from(x03.old 0 h2).trans hg) (by have:=x03.next;show 0<H3.next;omega) (r:=r) ((so.ext x03).log []) ho (sp3.log []) (Nat.lt_of_le_of_lt leL (by omega));unfold seE at C3;rw[show JZ (crF Prod.fst cr) ss=wLo cr ss from rfl]at C3;cases hb2:seB os (wLo cr ss) r with
 |false=>
  rw[hb2,if_neg (by simp),if_neg (by simp)]at C3;rw[if_pos rfl];have m2:ah .neq (.int .i64 1) (.int .i64 0)=some (.bool true):=rfl;skip;refine yC ?_;refine FW.pu C3 ?_;refine Y20 ?_;exact ak hl3 rfl rfl
 |true=>
  rw[hb2,if_pos rfl,if_pos rfl]at C3;rw[if_neg (by simp)];skip;refine yC ?_;refine FW.pu C3 ?_;refine Y22 ?_;exact ak hl3 rfl rfl
structure xm (T:Nat->Option af):Prop where
 p:aV T
 f268:T 102=some f268
 f269:T 103=some f269
 f270:T 104=some f270
theorem vY(F:xm T){h:Heap}(hr:Rdy h)(n a b:Int):Pu T 102 [.int .i64 n, .int .i64 a, .int .i64 b] h (.bool (inR n a b)):=by
 refine .of F.p F.f268 hr rfl ?_;unfold inR;by_cases h1:a<=n
 ·by_cases h2:n<=b
  ·rw[decide_eq_true ⟨h1,h2⟩];refine Y18 ?_;exact ak hr.log rfl rfl
  ·rw[decide_eq_false (λq=>h2 q.2)];refine Y18 ?_;exact ak hr.log rfl rfl
 ·rw[decide_eq_false (λq=>h1 q.1)];refine Y15 ?_;exact ak hr.log rfl rfl
def spR(x:Sp):Bool:=(inR x.id 1 1000000&&inR x.size 1 1000000)&& !decide (x.cB=s0)
def odR(x:Od):Bool:=(((((inR x.id 1 1000000&&inR x.size 1 1000000)&&inR x.qT 0 1000000)&&decide (0<=x.fr))&&decide (x.fr<=x.to))&&decide (x.to<=100000))&& !decide (x.cB=s0)
theorem OQ(x:Sp):spR x=spB x:=by
 unfold spR spB thB;rw[decide_not]
theorem N9(x:Od):odR x=odB x:=by
 unfold odR odB thB;rw[decide_not];generalize inR x.id 1 1000000=b1;generalize inR x.size 1 1000000=b2;generalize inR x.qT 0 1000000=b3;generalize decide (0<=x.fr)=b4;generalize decide (x.fr<=x.to)=b5;generalize decide (x.to<=100000)=b6;generalize decide (x.cB=s0)=b7;revert b1 b2 b3 b4 b5 b6 b7;decide
theorem Jl(F:xm T){h:Heap}(hr:Rdy h){x:Sp}(hx:IsS x.cB):Pu T 104 [spV x] h (.bool (spB x)):=by
 rw[←OQ];refine .of F.p F.f270 hr rfl ?_;have hc:cellsOf (spV x)=spL x:=by show(spL x).toArray.toList=_;simp
 have x0:Ext h (h.push (.cells (cellsOf (spV x)) true 1)):=(Ext.refl h).push _;have g0:(h.push (.cells (cellsOf (spV x)) true 1)).get h.next=some (.cells (spL x) true 1):=by rw[hc];exact z3 _ _
 refine Y4 ?_;generalize(h.push (.cells (cellsOf (spV x)) true 1))=H at*;have W:=x0.wf hr.wf;have hL:=x0.log.trans hr.log;have k1:aT (spL x) (0+0)=some (.int .i64 x.id):=rfl;have k2:aT (spL x) (0+1)=some (.int .i64 x.size):=rfl;have k3:=lu hx;have k4:=aR hx.len;have C1:=vY F (h:={H with log:=[]}) (.of W) x.id 1 1000000;have C2:=vY F (h:={H with log:=[]}) (.of W) x.size 1 1000000;unfold spR;generalize inR x.id 1 1000000=b1 at*;generalize inR x.size 1 1000000=b2 at*;cases b1 with
 |false=>
  refine Y4 ?_;refine FW.pu C1 ?_;refine Y14 ?_;exact ak hL rfl rfl
 |true=>
 cases b2 with
 |false=>
  refine Y4 ?_;refine FW.pu C1 ?_;refine Y7 ?_;refine FW.pu C2 ?_;refine Y10 ?_;exact ak hL rfl rfl
 |true=>
  refine Y4 ?_;refine FW.pu C1 ?_;refine Y7 ?_;refine FW.pu C2 ?_;refine Y9 ?_;refine aA (j0 (b:=s0) (by exact rfl) (by exact rfl) hx.len rfl) ?_;refine Y4 ?_;exact ak hL rfl rfl
theorem Iy(F:xm T){h:Heap}(hr:Rdy h){x:Od}(hx:IsS x.cB):Pu T 103 [odV x] h (.bool (odB x)):=by
 rw[←N9];refine .of F.p F.f269 hr rfl ?_;have hc:cellsOf (odV x)=odL x:=by show(odL x).toArray.toList=_;simp
 have x0:Ext h (h.push (.cells (cellsOf (odV x)) true 1)):=(Ext.refl h).push _;have g0:(h.push (.cells (cellsOf (odV x)) true 1)).get h.next=some (.cells (odL x) true 1):=by rw[hc];exact z3 _ _
 refine Y4 ?_;generalize(h.push (.cells (cellsOf (odV x)) true 1))=H at*;have W:=x0.wf hr.wf;have hL:=x0.log.trans hr.log;have k0:aT (odL x) (0+0)=some (.int .i64 x.id):=rfl;have k1:aT (odL x) (0+1)=some (.int .i64 x.fr):=rfl;have k2:aT (odL x) (0+2)=some (.int .i64 x.to):=rfl;have k3:aT (odL x) (0+3)=some (.int .i64 x.size):=rfl;have k4:aT (odL x) (0+4)=some (.int .i64 x.qT):=rfl;have k5:=iF hx;have k6:=aR hx.len;have C1:=vY F (h:={H with log:=[]}) (.of W) x.id 1 1000000;have C2:=vY F (h:={H with log:=[]}) (.of W) x.size 1 1000000;have C3:=vY F (h:={H with log:=[]}) (.of W) x.qT 0 1000000;have m4:ah .geq (.int .i64 x.fr) (.int .i64 0)=some (.bool (decide (0<=x.fr))):=Dm;have m5:ah .leq (.int .i64 x.fr) (.int .i64 x.to)=some (.bool (decide (x.fr<=x.to))):=rfl;have m6:ah .leq (.int .i64 x.to) (.int .i64 100000)=some (.bool (decide (x.to<=100000))):=rfl;unfold odR;generalize inR x.id 1 1000000=b1 at*;generalize inR x.size 1 1000000=b2 at*;generalize inR x.qT 0 1000000=b3 at*;generalize decide (0<=x.fr)=b4 at*;generalize decide (x.fr<=x.to)=b5 at*;generalize decide (x.to<=100000)=b6 at*;cases b1 with
 |false=>
  refine Y4 ?_;refine FW.pu C1 ?_;refine Y36 ?_;exact ak hL rfl rfl
 |true=>
 refine Y4 ?_;refine FW.pu C1 ?_;cases b2 with
 |false=>
  refine Y7 ?_;refine FW.pu C2 ?_;refine Y32 ?_;exact ak hL rfl rfl
 |true=>
 refine Y7 ?_;refine FW.pu C2 ?_;cases b3 with
 |false=>
  refine Y8 ?_;refine FW.pu C3 ?_;refine Y27 ?_;exact ak hL rfl rfl
 |true=>
 refine Y8 ?_;refine FW.pu C3 ?_;cases b4 with
 |false=>
  refine Y30 ?_;exact ak hL rfl rfl
 |true=>
 cases b5 with
 |false=>
  refine Y35 ?_;exact ak hL rfl rfl
 |true=>
 cases b6 with
 |false=>
  refine Y38 ?_;exact ak hL rfl rfl
 |true=>
  refine Y37 ?_;refine aA (j0 (b:=s0) (by exact rfl) (by exact rfl) hx.len rfl) ?_;refine Y4 ?_;exact ak hL rfl rfl
def nwB{α:Type}(ok:α->Bool)(id:α->Int)(l:List α)(x:α)(j:Nat):Bool:=ok x&&(l.take j).all λy=> !decide (id y=id x)
theorem Aa{α:Type}{ok:α->Bool}{id:α->Int}{l:List α}{i:Nat}{x:α}(hx:l[i]? =some x)(h:nwB ok id l x i=false):mH ok id [] l=false:=by
 cases hd:mH ok id [] l with
 |false=>rfl
 |true=>
  obtain⟨h1,h2,_⟩:=kI.1 hd;have hm:=h1 x (List.mem_of_getElem? hx);unfold nwB at h;rw[hm,Bool.true_and]at h;obtain⟨y,hy,hyx⟩:=List.all_eq_false.1 h;have he:id y=id x:=by simpa using hyx
  obtain⟨k,hk,rfl⟩:=List.getElem_of_mem hy;have hk2:k<i:=by rw[List.length_take]at hk;omega
  have hi:=(List.getElem?_eq_some_iff.1 hx).1;have e2:x=l[i]:=by rw[List.getElem?_eq_getElem hi]at hx;exact(Option.some.inj hx).symm
  have:=List.pairwise_iff_getElem.1 h2 k i (by rw[List.length_map];omega) (by rw[List.length_map];omega) hk2;rw[List.getElem_map,List.getElem_map]at this;rw[List.getElem_take,e2]at he;exact absurd he this
theorem C8{α:Type}{ok:α->Bool}{id:α->Int}{l:List α}(h:∀i x,l[i]? =some x->nwB ok id l x i=true):mH ok id [] l=true:=by
 refine kI.2 ⟨λx hx=> ?_,List.pairwise_iff_getElem.2 λi j hi hj hij=> ?_,λ_ _=>by simp⟩
 ·obtain⟨i,hi,rfl⟩:=List.getElem_of_mem hx;have:=h i _ (List.getElem?_eq_getElem hi);unfold nwB at this;rw[Bool.and_eq_true]at this;exact this.1
 ·rw[List.length_map]at hi hj;have:=h j _ (List.getElem?_eq_getElem hj);unfold nwB at this;rw[Bool.and_eq_true,List.all_eq_true]at this;have q:=this.2 l[i] (List.mem_take_iff_getElem.2 ⟨i,by omega,rfl⟩);rw[List.getElem_map,List.getElem_map];simpa using q
theorem AI{α:Type}{ok:α->Bool}{id:α->Int}{l:List α}{x y:α}{j:Nat}(hy:l[j]? =some y):nwB ok id l x (j+1)=(nwB ok id l x j&& !decide (id y=id x)):=by
 unfold nwB;rw[List.take_add_one,hy,List.all_append,Bool.and_assoc];simp
theorem MX{α:Type}{ok:α->Bool}{id:α->Int}{l:List α}{x:α}:nwB ok id l x 0=ok x:=by simp[nwB]
structure FA (T:Nat->Option af):Prop where
 r:xm T
 f234:T 60=some f234
theorem Ni(F:FA T){h:Heap}(hr:Rdy h){ov sv':Value}{os:List Od}{ss:List Sp}{r:Int}(so:OdS h ov os)(ho:os.length<4611686018427387904)(sp:SpS h sv' ss)(hs:ss.length<4611686018427387904):
 Pu T 60 [seV ov sv' r] h (.int .i64 (seE os ss r)):=by
 refine .of F.r.p F.f234 hr rfl ?_;obtain⟨a1,c1,rfl⟩:=so.form;obtain⟨a,c,rfl⟩:=sp.form;refine aX (E0:=[(1, .pointer (some ⟨h.next,0,none⟩))]) (P:=λh'=>Ext h h'∧h'.next=h.next+1/\h'.get h.next=some (.cells [.slice a1 os.length c1, .slice a ss.length c, .int .i64 r] true 1)) ?_ ?_
 ·refine Y3 ?_;refine aO ?_;refine y1 ?_;exact⟨rfl,rfl,rfl,(Ext.refl h).push _,rfl,z3 h _⟩
 rintro h1 ⟨x1,n1,g1⟩;have W1:=x1.wf hr.wf;have hl1:=x1.log.trans hr.log;have so1:=so.ext x1;have sp1:=sp.ext x1;have CI:=vY F.r (h:={h1 with log:=[]}) (.of W1) r 0 1000;unfold seE seB;by_cases q1:40<os.length
 ·have m1:ah .gtr (.int .i64 (os.length:Nat)) (.int .i64 40)=some (.bool true):=kP (by omega);rw[decide_eq_false (show¬os.length<=40 by omega),Bool.and_false,Bool.false_and,Bool.false_and,if_neg (by simp)];refine Y25 ?_;exact ak hl1 rfl rfl
 have m1:ah .gtr (.int .i64 (os.length:Nat)) (.int .i64 40)=some (.bool false):=jB (by omega);by_cases q2:20<ss.length
 ·have m2:ah .gtr (.int .i64 (ss.length:Nat)) (.int .i64 20)=some (.bool true):=kP (by omega);rw[decide_eq_false (show¬ss.length<=20 by omega),Bool.and_false,Bool.false_and,if_neg (by simp)];refine Y29 ?_;exact ak hl1 rfl rfl
 have m2:ah .gtr (.int .i64 (ss.length:Nat)) (.int .i64 20)=some (.bool false):=jB (by omega);cases hI:inR r 0 1000 with
 |false=>
  rw[hI]at CI;rw[Bool.and_false,if_neg (by simp)];refine Y23 ?_;refine FW.pu CI ?_;refine Y10 ?_;exact ak hl1 rfl rfl
 |true=>
 rw[hI]at CI;rw[decide_eq_true (show os.length<=40 by omega),decide_eq_true (show ss.length<=20 by omega),Bool.and_true,Bool.and_true,Bool.and_true];refine Y23 ?_;refine FW.pu CI ?_;clear CI;refine Y12 ?_
 refine bW (λm e ds h'=>∃i:Nat,i<=os.length/\os.length-i=m/\e=[(1, .pointer (some ⟨h.next,0,none⟩)),(3, .int .i64 (i:Nat))]/\ds=[]/\h'=h1/\∀k x,k<i->os[k]? =some x->nwB odB Od.id os x k=true)
  ⟨0,by omega,rfl,rfl,rfl,rfl,λk x hk=>absurd hk (Nat.not_lt_zero _)⟩ ?_
 rintro m e ds J ⟨i,hi,rfl,rfl,rfl,rfl,hpre⟩;by_cases hlt:i<os.length
 ·obtain⟨x,hx⟩:∃r,os[i]? =some r:=⟨os[i],List.getElem?_eq_getElem hlt⟩;have hxw:=so.ok x (List.mem_of_getElem? hx);obtain⟨b,o,cc,vs,own,tt,hv,gl,hbl,el⟩:=so1.elem hx;cases hv;have mlt:ah .lss (.int .i64 (i:Nat)) (.int .i64 (os.length:Nat))=some (.bool true):=dG (by omega);have k1:=je hxw;have C:=Iy F.r (h:={J with log:=[]}) (.of W1) hxw;have xid:aT vs (o+i*13+0)=some (.int .i64 x.id):=tN el (by omega) rfl;refine Y20 ?_;refine FW.pu C ?_;clear C;refine Y7 ?_
  refine bW (λm e ds h'=>∃j:Nat,j<=i/\i-j=m/\e=[(1, .pointer (some ⟨h.next,0,none⟩)),(3, .int .i64 (i:Nat)),(4, .bool (nwB odB Od.id os x j)),(5, .int .i64 (j:Nat))]/\ds=[]/\h'=J)
   ⟨0,by omega,rfl,by rw[MX];rfl,rfl,rfl⟩ ?_
  rintro m e ds J' ⟨j,hj,rfl,rfl,rfl,rfl⟩;by_cases hjt:j<i
  ·obtain⟨y,hy⟩:∃r,os[j]? =some r:=⟨os[j],List.getElem?_eq_getElem (by omega)⟩;obtain⟨b',o',cc',vs',own',tt',hv',gl',hbl',el'⟩:=so1.elem hy;cases hv';cases gl.symm.trans gl';clear gl';have yid:aT vs (o+j*13+0)=some (.int .i64 y.id):=tN el' (by omega) rfl;have mlt2:ah .lss (.int .i64 (j:Nat)) (.int .i64 (i:Nat))=some (.bool true):=dG (by omega);have mne:ah .neq (.int .i64 y.id) (.int .i64 x.id)=some (.bool (!decide (y.id=x.id))):=rfl;have hsu:=AI (ok:=odB) (id:=Od.id) (x:=x) hy;cases hb:nwB odB Od.id os x j with
   |false=>
    rw[hb,Bool.false_and]at hsu;refine Y38 ?_;exact⟨i-(j+1),by omega,j+1,by omega,rfl,by rw[hsu],rfl,rfl⟩
   |true=>
    rw[hb,Bool.true_and]at hsu;refine Y38 ?_;exact⟨i-(j+1),by omega,j+1,by omega,rfl,by rw[hsu],rfl,rfl⟩
  obtain rfl:j=i:=by omega
  have mlt2:ah .lss (.int .i64 (j:Nat)) (.int .i64 (j:Nat))=some (.bool false):=dJ (by omega);cases hb:nwB odB Od.id os x j with
  |false=>
   rw[Aa hx hb,Bool.false_and,if_neg (by simp)];refine Y26 ?_;exact ak hl1 rfl rfl
  |true=>
   refine Y25 ?_;exact⟨os.length-(j+1),by omega,j+1,by omega,rfl,rfl,rfl,rfl,λk z hk hz=>by
    rcases Nat.lt_or_eq_of_le (Nat.le_of_lt_succ hk)with q|q
    ·exact hpre k z q hz
    ·subst q;rw[hx]at hz;cases hz;exact hb⟩
 obtain rfl:i=os.length:=by omega
 have mlt:ah .lss (.int .i64 (os.length:Nat)) (.int .i64 (os.length:Nat))=some (.bool false):=dJ (by omega);rw[C8 λk x hx=>hpre k x (List.getElem?_eq_some_iff.1 hx).1 hx,Bool.true_and];clear hpre;refine Y19 ?_
 refine bW (λm e ds h'=>∃i:Nat,i<=ss.length/\ss.length-i=m/\e=[(1, .pointer (some ⟨h.next,0,none⟩)),(6, .int .i64 (i:Nat))]/\ds=[]/\h'=J/\∀k x,k<i->ss[k]? =some x->nwB spB Sp.id ss x k=true)
  ⟨0,by omega,rfl,rfl,rfl,rfl,λk x hk=>absurd hk (Nat.not_lt_zero _)⟩ ?_
 rintro m e ds J2 ⟨i,hi,rfl,rfl,rfl,rfl,hpre⟩;by_cases hlt:i<ss.length
 ·obtain⟨x,hx⟩:∃r,ss[i]? =some r:=⟨ss[i],List.getElem?_eq_getElem hlt⟩;have hxw:=sp.ok x (List.mem_of_getElem? hx);obtain⟨b,o,cc,vs,own,tt,hv,gl,hbl,el⟩:=sp1.elem hx;cases hv;have mlt:ah .lss (.int .i64 (i:Nat)) (.int .i64 (ss.length:Nat))=some (.bool true):=dG (by omega);have k1:=iH hxw;have C:=Jl F.r (h:={J2 with log:=[]}) (.of W1) hxw;have xid:aT vs (o+i*10+0)=some (.int .i64 x.id):=tN el (by omega) rfl;refine Y20 ?_;refine FW.pu C ?_;clear C;refine Y7 ?_
  refine bW (λm e ds h'=>∃j:Nat,j<=i/\i-j=m/\e=[(1, .pointer (some ⟨h.next,0,none⟩)),(6, .int .i64 (i:Nat)),(7, .bool (nwB spB Sp.id ss x j)),(8, .int .i64 (j:Nat))]/\ds=[]/\h'=J2)
   ⟨0,by omega,rfl,by rw[MX];rfl,rfl,rfl⟩ ?_
  rintro m e ds J' ⟨j,hj,rfl,rfl,rfl,rfl⟩;by_cases hjt:j<i
  ·obtain⟨y,hy⟩:∃r,ss[j]? =some r:=⟨ss[j],List.getElem?_eq_getElem (by omega)⟩;obtain⟨b',o',cc',vs',own',tt',hv',gl',hbl',el'⟩:=sp1.elem hy;cases hv';cases gl.symm.trans gl';clear gl';have yid:aT vs (o+j*10+0)=some (.int .i64 y.id):=tN el' (by omega) rfl;have mlt2:ah .lss (.int .i64 (j:Nat)) (.int .i64 (i:Nat))=some (.bool true):=dG (by omega);have mne:ah .neq (.int .i64 y.id) (.int .i64 x.id)=some (.bool (!decide (y.id=x.id))):=rfl;have hsu:=AI (ok:=spB) (id:=Sp.id) (x:=x) hy;cases hb:nwB spB Sp.id ss x j with
   |false=>
    rw[hb,Bool.false_and]at hsu;refine Y38 ?_;exact⟨i-(j+1),by omega,j+1,by omega,rfl,by rw[hsu],rfl,rfl⟩
   |true=>
    rw[hb,Bool.true_and]at hsu;refine Y38 ?_;exact⟨i-(j+1),by omega,j+1,by omega,rfl,by rw[hsu],rfl,rfl⟩
  obtain rfl:j=i:=by omega
  have mlt2:ah .lss (.int .i64 (j:Nat)) (.int .i64 (j:Nat))=some (.bool false):=dJ (by omega);cases hb:nwB spB Sp.id ss x j with
  |false=>
   rw[Aa hx hb,if_neg (by simp)];refine Y26 ?_;exact ak hl1 rfl rfl
  |true=>
   refine Y25 ?_;exact⟨ss.length-(j+1),by omega,j+1,by omega,rfl,rfl,rfl,rfl,λk z hk hz=>by
    rcases Nat.lt_or_eq_of_le (Nat.le_of_lt_succ hk)with q|q
    ·exact hpre k z q hz
    ·subst q;rw[hx]at hz;cases hz;exact hb⟩
 obtain rfl:i=ss.length:=by omega
 have mlt:ah .lss (.int .i64 (ss.length:Nat)) (.int .i64 (ss.length:Nat))=some (.bool false):=dJ (by omega);rw[C8 λk x hx=>hpre k x (List.getElem?_eq_some_iff.1 hx).1 hx,if_pos rfl];refine Y18 ?_;exact ak hl1 rfl rfl
structure tP (T:Nat->Option af):Prop where
 ck:FA T
 rf:FI T
 f271:T 105=some f271
theorem Gv(F:tP T){h:Heap}(hr:Rdy h){a b:List Nat}(ha:IsS a)(hb:IsS b):Pu T 105 [sv a,sv b] h (.bool (iU a b)):=by
 have hp:=F.ck.r.p;refine .of hp F.f271 hr rfl ?_;have k1:=aR ha.len;have k2:=bR ha.len;have k3:=aR hb.len;have k4:=bR hb.len;refine aX (E0:=[(2, .pointer (some ⟨h.next,0,none⟩)),(3, .pointer (some ⟨h.next+1,0,none⟩))]) (P:=λh'=>Ext h h'∧h'.next=h.next+2/\h'.get h.next=some (.cells (us a) true 1)/\h'.get (h.next+1)=some (.cells (us b) true 1)) ?_ ?_
 ·have e1:cellsOf (sv a)=us a:=by show(us a).toArray.toList=_;simp
  have e2:cellsOf (sv b)=us b:=by show(us b).toArray.toList=_;simp
  refine Y4 ?_;refine aO ?_;refine y1 ?_;rw[e1,e2];exact⟨rfl,rfl,rfl,((Ext.refl h).push _).push _,rfl,(z4 (Nat.lt_succ_self _)).trans (z3 h _),z3 (h.push _) _⟩
 rintro h1 ⟨x1,n1,g2,g3⟩;have W1:=x1.wf hr.wf;have hl1:=x1.log.trans hr.log;have C:=Lz F.rf (h:={h1 with log:=[]}) (.of W1) ha hb;refine Y4 ?_;refine FW.al C (λv h' m q=>q) ?_;clear C;rintro _ H x2 ⟨t,x,y,z,rfl⟩;have hl2:=x2.log.trans hl1;refine Y12 ?_;exact ak ((Heap.aq (by have:=x1.next;have:=x2.next;omega)).trans hl2) rfl rfl
theorem Qm(hp:aV T)(hf:T 5=some f66){h:Heap}(hr:Rdy h){ov sv':Value}{os:List Od}{ss:List Sp}{r a b:Int}(so:OdS h ov os)(sp:SpS h sv' ss):
 Pu T 5 [seV ov sv' r, .int .i64 a, .int .i64 b] h (.bool (decide ((os.length:Int)<=a)&&decide ((ss.length:Int)<=b))):=by
 refine .of hp hf hr rfl ?_;obtain⟨a1,c1,rfl⟩:=so.form;obtain⟨a2,c2,rfl⟩:=sp.form;refine aX (E0:=[(1, .int .i64 a),(2, .int .i64 b),(3, .pointer (some ⟨h.next,0,none⟩))]) (P:=λh'=>Ext h h'∧h'.next=h.next+1/\h'.get h.next=some (.cells [.slice a1 os.length c1, .slice a2 ss.length c2, .int .i64 r] true 1)) ?_ ?_
 ·refine Y3 ?_;refine aO ?_;refine y1 ?_;exact⟨rfl,rfl,rfl,(Ext.refl h).push _,rfl,z3 h _⟩
 rintro h1 ⟨x1,n1,g3⟩;have hl1:=x1.log.trans hr.log;have m1:ah .leq (.int .i64 (os.length:Nat)) (.int .i64 a)=some (.bool (decide ((os.length:Int)<=a))):=rfl;have m2:ah .leq (.int .i64 (ss.length:Nat)) (.int .i64 b)=some (.bool (decide ((ss.length:Int)<=b))):=rfl;generalize decide ((os.length:Int)<=a)=d1 at*;generalize decide ((ss.length:Int)<=b)=d2 at*;cases d1 with
 |false=>
  refine Y16 ?_;exact ak hl1 rfl rfl
 |true=>
  refine Y21 ?_;exact ak hl1 rfl rfl
end Go.A.Pk
end
section
namespace Go.A.Pk
theorem kG{f:Nat->List Nat}{ss:List Sp}{n:Nat}{x:Sp}(hx:ss[n]? =some x):gY f ss (n+1)=gY f ss n++mu (f n) x:=by
 show gY f ss n++(match ss[n]? with|some x=>mu (f n) x|none=>[])=_;rw[hx]
theorem tO{f:Nat->List Nat}{ss:List Sp}{i:Nat}{x:Sp}(hi:¬f i=s0)(hx:ss[i]? =some x):∀{n:Nat},i<n->n<=ss.length->(gY f ss n)[(gY f ss i).length]? =some ⟨x.id,x.size,f i⟩
 |0,h,_=>absurd h (Nat.not_lt_zero _)
 |n+1,h,hn=>by
  obtain⟨y,hy⟩:∃y,ss[n]? =some y:=⟨ss[n],List.getElem?_eq_getElem (by omega)⟩;rw[kG hy];by_cases e:i=n
  ·subst e;rw[hx]at hy;cases hy;rw[List.getElem?_append_right (Nat.le_refl _),Nat.sub_self,show mu (f i) x=[⟨x.id,x.size,f i⟩]from if_neg hi];rfl
  ·have ih:=tO hi hx (n:=n) (by omega) (by omega);rw[List.getElem?_append_left (List.getElem?_eq_some_iff.1 ih).1];exact ih
theorem J5{f:Nat->List Nat}{ss:List Sp}:∀{n:Nat},n<=ss.length->∀{j:Nat},j<(gY f ss n).length->∃i x,i<n/\(gY f ss i).length=j/\¬f i=s0/\ss[i]? =some x/\(gY f ss n)[j]? =some ⟨x.id,x.size,f i⟩
 |0,_,j,h=>absurd h (Nat.not_lt_zero _)
 |n+1,hn,j,h=>by
  obtain⟨y,hy⟩:∃y,ss[n]? =some y:=⟨ss[n],List.getElem?_eq_getElem (by omega)⟩;by_cases hj:j<(gY f ss n).length
  ·obtain⟨i,x,h1,h2,h3,h4,_⟩:=J5 (n:=n) (by omega) hj;exact⟨i,x,by omega,h2,h3,h4,by rw[←h2];exact tO h3 h4 (by omega) hn⟩
  ·rw[kG hy,List.length_append]at h;have h0:¬f n=s0:=by
    intro e;rw[show mu (f n) y=[]from if_pos e]at h;simp at h;omega
   rw[show mu (f n) y=[⟨y.id,y.size,f n⟩]from if_neg h0,List.length_singleton]at h;have e:(gY f ss n).length=j:=by omega
   exact⟨n,y,by omega,e,h0,hy,by rw[←e];exact tO h0 hy (by omega) hn⟩
theorem nk{os:List Od}{ss:List Sp}{k s:Nat}:s∈gU os ss k↔(∃i,i<os.length/\iw os i k=true/\s=i)∨∃j,j<ss.length/\iT ss os j k=true/\s=40+j:=by
 unfold gU mZ;rw[List.map_append,List.mem_append];constructor
 ·rintro(h|h)
  ·obtain⟨p,hp,rfl⟩:=List.mem_map.1 h;obtain⟨i,hi,rfl⟩:=List.mem_map.1 hp;obtain⟨h1,h2⟩:=List.mem_filter.1 hi;exact .inl ⟨i,List.mem_range.1 h1,h2,rfl⟩
  ·obtain⟨p,hp,rfl⟩:=List.mem_map.1 h;obtain⟨i,hi,rfl⟩:=List.mem_map.1 hp;obtain⟨h1,h2⟩:=List.mem_filter.1 hi;refine .inr ⟨i,List.mem_range.1 h1,h2,?_⟩;show(40+(i:Int)).toNat=40+i;omega
 ·rintro(⟨i,h1,h2,rfl⟩|⟨j,h1,h2,rfl⟩)
  ·exact .inl (List.mem_map.2 ⟨_,List.mem_map.2 ⟨s,List.mem_filter.2 ⟨List.mem_range.2 h1,h2⟩,rfl⟩,rfl⟩)
  ·refine .inr (List.mem_map.2 ⟨_,List.mem_map.2 ⟨j,List.mem_filter.2 ⟨List.mem_range.2 h1,h2⟩,rfl⟩,?_⟩);show(40+(j:Int)).toNat=40+j;omega
theorem DV{f:Nat->List Nat}{ss:List Sp}:∀{n:Nat},n<=ss.length->((gY f ss n).map Sp.id).Sublist ((ss.take n).map Sp.id)
 |0,_=>by simp[gY]
 |n+1,h=>by
  obtain⟨x,hx⟩:∃x,ss[n]? =some x:=⟨ss[n],List.getElem?_eq_getElem (by omega)⟩;rw[kG hx,List.take_add_one,hx,List.map_append,List.map_append];refine(DV (by omega)).append ?_;unfold mu;split
  ·exact List.nil_sublist _
  ·exact List.Sublist.refl _
theorem DU{f:Nat->List Nat}{ss:List Sp}:∀{n:Nat},n<=ss.length->(∀i,i<n->¬f i=s0)->(gY f ss n).map Sp.id=(ss.take n).map Sp.id
 |0,_,_=>by simp[gY]
 |n+1,h,h0=>by
  obtain⟨x,hx⟩:∃x,ss[n]? =some x:=⟨ss[n],List.getElem?_eq_getElem (by omega)⟩;rw[kG hx,List.take_add_one,hx,List.map_append,List.map_append,DU (by omega) (λi hi=>h0 i (by omega)),show mu (f n) x=[⟨x.id,x.size,f n⟩]from if_neg (h0 n (by omega))];rfl
def tq(os:List Od)(ss:List Sp)(t k:Nat):Bool:=if t<os.length then iw os t k else iT ss os (t-os.length) k
def fO(os:List Od)(ss:List Sp)(k:Nat):List Nat:=(List.range (os.length+ss.length)).filter λt=>tq os ss t k
theorem lX{os:List Od}{ss:List Sp}{k t:Nat}:t∈fO os ss k↔t<os.length+ss.length/\tq os ss t k=true:=by
 unfold fO;rw[List.mem_filter,List.mem_range]
theorem xD{os:List Od}{ss:List Sp}(k:Nat):∀t∈fO os ss k,t<os.length+ss.length:=λt ht=>(lX.1 ht).1
theorem NQ{os:List Od}{ss:List Sp}(h40:os.length<=40)(h20:ss.length<=20):(mtN (fO os ss) os.length (os.length+ss.length) os.length).2=(mtN (gU os ss) 40 60 os.length).2:=by
 have I:=HE (adj:=fO os ss) (A:=os.length) (B:=os.length+ss.length) xD (n:=os.length) (Nat.le_refl _);have J:=HE (adj:=gU os ss) (A:=40) (B:=60) (xE h40 h20) (n:=os.length) h40;have a1:=MtI.le I J (φ:=λt=>if t<os.length then t else 40+(t-os.length)) (λk _ t ht=> ?_) (λk1 _ k2 _ s hs t ht e=> ?_);have a2:=MtI.le J I (φ:=λt=>if t<40 then t else os.length+(t-40)) (λk _ t ht=> ?_) (λk1 _ k2 _ s hs t ht e=> ?_)
 ·omega
 ·rcases nk.1 ht with⟨i,h1,h2,rfl⟩|⟨j,h1,h2,rfl⟩
  ·rw[if_pos (show t<40 by omega)];exact lX.2 ⟨by omega,by unfold tq;rw[if_pos h1];exact h2⟩
  ·rw[if_neg (by omega)];refine lX.2 ⟨by omega,?_⟩;unfold tq;rw[if_neg (by omega),show os.length+(40+j-40)-os.length=j by omega];exact h2
 ·rcases nk.1 hs with⟨i,h1,_,rfl⟩|⟨j,h1,_,rfl⟩<;>rcases nk.1 ht with⟨i2,g1,_,rfl⟩|⟨j2,g1,_,rfl⟩
  ·simp only[if_pos (show s<40 by omega),if_pos (show t<40 by omega)]at e;exact e
  ·simp only[if_pos (show s<40 by omega),if_neg (show¬40+j2<40 by omega)]at e;omega
  ·simp only[if_pos (show t<40 by omega),if_neg (show¬40+j<40 by omega)]at e;omega
  ·simp only[if_neg (show¬40+j<40 by omega),if_neg (show¬40+j2<40 by omega)]at e;omega
 ·obtain⟨h1,h2⟩:=lX.1 ht;unfold tq at h2;by_cases q:t<os.length
  ·rw[if_pos q]at h2⊢;exact nk.2 (.inl ⟨t,q,h2,rfl⟩)
  ·rw[if_neg q]at h2⊢;exact nk.2 (.inr ⟨t-os.length,by omega,h2,rfl⟩)
 ·have h1:=(lX.1 hs).1;have g1:=(lX.1 ht).1;by_cases q:s<os.length<;>by_cases q2:t<os.length
  ·simp only[if_pos q,if_pos q2]at e;exact e
  ·simp only[if_pos q,if_neg q2]at e;omega
  ·simp only[if_neg q,if_pos q2]at e;omega
  ·simp only[if_neg q,if_neg q2]at e;omega
theorem NJ{os:List Od}{ss:List Sp}(h40:os.length<=40)(h20:ss.length<=20):(os.length:Int)-(mtN (fO os ss) os.length (os.length+ss.length) os.length).2=lsN os ss:=by
 unfold lsN;rw[NQ h40 h20]
end Go.A.Pk
end
section
namespace Go.A.Pk
variable {T:Nat->Option af}
structure sN (H:Heap) (v:Value) (n w:Nat) (B:Nat->Nat->Bool):Prop where
 ex:∃rows:List Value,bS H 1 v n rows/\∀t,t<n->∃u,rows[t]? =some u/\bS H 1 u w (bos ((List.range w).map (B t)))
theorem sN.keep{H H':Heap}{v:Value}{n w:Nat}{B:Nat->Nat->Bool}(s:sN H v n w B)(hn:H.next<=H'.next)(ho:∀z,z<H.next->H'.get z=H.get z):sN H' v n w B:=by
 obtain⟨rows,s1,s2⟩:=s.ex;exact⟨rows,bS.Dh s1 hn ho,λt ht=>by
  obtain⟨u,hu,su⟩:=s2 t ht;exact⟨u,hu,bS.Dh su hn ho⟩⟩
theorem sN.at'{H:Heap}{v:Value}{n w:Nat}{B:Nat->Nat->Bool}(s:sN H v n w B){t k:Nat}(ht:t<n)(hk:k<w):
 ∃b o c vs own tt b' o' c' vs' own' tt',v= .slice (some ⟨b,o,none⟩) n c/\H.get b=some (.cells vs own tt)/\aT vs (o+t*1)=some (.slice (some ⟨b',o',none⟩) w c')/\H.get b'=some (.cells vs' own' tt')/\aT vs' (o'+k*1)=some (.bool (B t k)):=by
 obtain⟨rows,s1,s2⟩:=s.ex;obtain⟨u,hu,su⟩:=s2 t ht;rcases bS.inv s1 with⟨_,_,h0,_⟩|⟨b,o,cap,hv,m1,_⟩
 ·omega
 rcases bS.inv su with⟨_,_,h0,_⟩|⟨b',o',cap',hv',m2,_⟩
 ·omega
 obtain⟨vs,own,tt,g1,g2⟩:=m1.obj;obtain⟨vs',own',tt',g3,g4⟩:=m2.obj;refine⟨b,o,cap,vs,own,tt,b',o',cap',vs',own',tt',hv,g1,?_,g3,?_⟩
 ·rw[←hv',←hu,←g2,cA,cZ,cw,Nat.mul_one,Nat.mul_one,List.getElem?_take_of_lt ht,List.getElem?_drop]
 ·have e:(bos ((List.range w).map (B t)))[k]? =some (.bool (B t k)):=by
   unfold bos;rw[List.map_map,List.getElem?_map,List.getElem?_range hk];rfl
  rw[←e,←g4,cA,cZ,cw,Nat.mul_one,Nat.mul_one,List.getElem?_take_of_lt hk,List.getElem?_drop]
structure Mt7 (n N:Nat) (m:Mt):Prop where
 l2:m.2.length=N
 b2:∀x∈m.2, -1<=x/\x<n
theorem Mt7.put{n N:Nat}{m:Mt}(M:Mt7 n N m){k s:Nat}(hk:k<n):Mt7 n N (iz m k s):=by
 refine⟨by unfold iz;rw[List.length_set];exact M.l2,λx hx=> ?_⟩;rcases uH hx with h|h
 ·exact M.b2 x h
 ·omega
theorem Mt7.to{n N:Nat}{m:Mt}(M:Mt7 n N m){s:Nat}(hs:s<N):m.2[s]? =some (toA m s)/\ -1<=toA m s/\toA m s<n:=by
 have hl:=M.l2;have e:m.2[s]? =some (toA m s):=by unfold toA;rw[List.getD_eq_getElem?_getD,List.getElem?_eq_getElem (by omega)];rfl
 exact⟨e,M.b2 _ (List.mem_of_getElem? e)⟩
theorem qm{n N:Nat}{rc:Mt->List Bool->Nat->Bool×Mt×List Bool}{k:Nat}(hk:k<n)(hrc:∀m sn k,Mt7 n N m->k<n->Mt7 n N (rc m sn k).2.1):∀{l:List Nat} {m:Mt} {sn:List Bool},(∀s∈l,s<N)->Mt7 n N m->Mt7 n N (ei rc k l m sn).2.1
 |[],m,sn,_,M=>M
 |s::l,m,sn,hl,M=>by
  have h60:=hl s (List.mem_cons_self ..);have hl':∀s∈l,s<N:=λs h=>hl s (List.mem_cons_of_mem _ h);unfold ei;by_cases h1:snA sn s=true
  ·simp only[if_pos h1];exact qm hk hrc hl' M
  ·simp only[if_neg h1];by_cases h2:toA m s<0
   ·simp only[if_pos h2];exact M.put hk
   ·simp only[if_neg h2];have q:=(M.to h60).2;have M2:=hrc m (sn.set s true) (toA m s).toNat M (by omega);by_cases h3:(rc m (sn.set s true) (toA m s).toNat).1=true
    ·simp only[if_pos h3];exact M2.put hk
    ·simp only[if_neg h3];exact qm hk hrc hl' M2
theorem xI{adj:Nat->List Nat}{N:Nat}(ha:∀k,∀s∈adj k,s<N){n:Nat}:∀{f:Nat} {m:Mt} {sn:List Bool} {k:Nat},Mt7 n N m->k<n->Mt7 n N (aug adj f m sn k).2.1
 |0,m,sn,k,M,_=>M
 |f+1,m,sn,k,M,hk=>qm hk (λm sn k M hk=>xI ha M hk) (ha k) M
def nZ(os:List Od)(ss:List Sp)(k i:Nat):List Nat:=(List.range i).filter λt=>tq os ss t k
theorem wC(os:List Od)(ss:List Sp)(k i:Nat):nZ os ss k (i+1)=nZ os ss k i++(if tq os ss i k=true then [i]else []):=by
 unfold nZ;rw[List.range_succ,List.filter_append];congr 1;cases h:tq os ss i k with
 |true=>simp[List.filter,h]
 |false=>simp[List.filter,h]
theorem IA(os:List Od)(ss:List Sp)(k:Nat){n m:Nat}(h:n<=m):nZ os ss k n<+:nZ os ss k m:=by
 induction h with
 |refl=>exact List.prefix_refl _
 |step _ ih=>rw[wC];exact ih.trans (List.prefix_append _ _)
theorem Gf{rc:Mt->List Bool->Nat->Bool×Mt×List Bool}{k:Nat}{l l2:List Nat}{m:Mt}{sn:List Bool}(h:l<+:l2)(ht:(ei rc k l m sn).1=true):ei rc k l2 m sn=ei rc k l m sn:=by
 obtain⟨r,rfl⟩:=h;rw[nw,if_pos ht]
theorem GX{l:List Int}{s o:Nat}(h:s<l.length)(ho:o=s)(x:Int):bZ (ints l) o (cellsOf (.int .i64 x))=ints (l.set s x):=by
 subst ho;show bZ _ _ [Value.int .i64 x]=_;rw[fW (by rw[dD];exact h)];simp[ints,List.map_set]
theorem E3(hp:aV T)(hT:T 62=some f236){h0:Heap}{v1 v2 sv':Value}{os:List Od}{ss:List Sp}{a:Option Addr}{c:Nat}{r:Int}(hsv:cK [sv']=true)(hv1:cK [v1]=true)(hv2:cK [v2]=true)
 (R1:sN h0 v1 os.length os.length λt k=>iw os t k)(R2:sN h0 v2 ss.length os.length λt k=>iT ss os t k)(h40:os.length<=40)(h20:ss.length<=20){bo bs co cs:Nat}(hbo:h0.next<=bo)(hbs:h0.next<=bs)(hne:bo≠bs):
 ∀(f:Nat) {h:Heap},Rdy h->h0.next<=h.next->(∀z,z<h0.next->h.get z=h0.get z)->∀{m:Mt} {sn:List Bool} {k:Nat},Mt7 os.length (os.length+ss.length) m->sn.length=os.length+ss.length->k<os.length->sn.count false<f->h.get bo=some (.cells (ints m.2) true 1)->h.get bs=some (.cells (bos sn) true 1)→
  Gs T 62 [seV (.slice a os.length c) sv' r, .agg #[v1,v2], .slice (some ⟨bo,0,none⟩) (os.length+ss.length) co, .slice (some ⟨bs,0,none⟩) (os.length+ss.length) cs, .int .i64 (k:Nat)] h (λz=>z=bo∨z=bs) λv h'=>v= .bool (aug (fO os ss) f m sn k).1/\h'.get bo=some (.cells (ints (aug (fO os ss) f m sn k).2.1.2) true 1)/\h'.get bs=some (.cells (bos (aug (fO os ss) f m sn k).2.2) true 1):=by
 intro f;induction f with
 |zero=>intro _ _ _ _ _ _ _ _ _ _ hf;exact absurd hf (Nat.not_lt_zero _)
 |succ f ih=>
 intro h hr hn0 ho0 m sn k M hsn hk hf gm gs;have kbo:=hr.wf.fU gm;have kbs:=hr.wf.fU gs;refine Gs.of hp hT (λv h1 h2 _ hn ha q=>⟨q.1,(ha _ kbo).trans q.2.1,(ha _ kbs).trans q.2.2⟩) ?_;refine aX (E0:=[(2, .slice (some ⟨bo,0,none⟩) (os.length+ss.length) co),(3, .slice (some ⟨bs,0,none⟩) (os.length+ss.length) cs),(4, .int .i64 (k:Nat)),(5, .pointer (some ⟨h.next,0,none⟩)),(6, .pointer (some ⟨h.next+1,0,none⟩))]) (P:=λh'=>Ext h h'∧h'.next=h.next+2/\h'.get h.next=some (.cells [.slice a os.length c,sv', .int .i64 r] true 1)/\h'.get (h.next+1)=some (.cells [v1,v2] true 1)) ?_ ?_
 ·refine Y4 ?_;refine aO ?_;refine y1 ?_;exact⟨rfl,rfl,rfl,((Ext.refl h).push _).push _,rfl,(z4 (Nat.lt_succ_self _)).trans (z3 h _),z3 (h.push _) _⟩
 rintro h1 ⟨x1,n1,g5,g6⟩;have hadj:=λk=>xD (os:=os) (ss:=ss) k;have hrc:∀m sn k,Mt7 os.length (os.length+ss.length) m->k<os.length->Mt7 os.length (os.length+ss.length) (aug (fO os ss) f m sn k).2.1:=λm sn k M hk=>xI hadj M hk;have hrs:∀(m:Mt) (sn:List Bool) (k:Nat),sn.count false<f->xh (fO os ss) m sn k (fO os ss k) (aug (fO os ss) f m sn k):=λm sn k h=>uc h;have hres:aug (fO os ss) (f+1) m sn k=ei (aug (fO os ss) f) k (nZ os ss k (os.length+ss.length)) m sn:=rfl;rw[hres];have hon:cK (bB 3 (bA 0 [.slice a os.length c,sv', .int .i64 r]))=true:=dL (a:=[.slice a os.length c]) rfl (dL (a:=[sv']) hsv rfl);have hon2:cK (bB 2 (bA 0 [v1,v2]))=true:=dL (a:=[v1]) hv1 hv2;refine Y11 ?_;refine bW (λw e ds h'=>∃i:Nat,i<=os.length+ss.length/\os.length+ss.length-i=w/\e=[(2, .slice (some ⟨bo,0,none⟩) (os.length+ss.length) co),(3, .slice (some ⟨bs,0,none⟩) (os.length+ss.length) cs),(4, .int .i64 (k:Nat)),(5, .pointer (some ⟨h.next,0,none⟩)),(6, .pointer (some ⟨h.next+1,0,none⟩)),(11, .int .i64 (os.length:Nat)),(12, .int .i64 (i:Nat))]/\ds=[]/\Ws (λz=>z=bo∨z=bs) h h'∧h.next+2<=h'.next∧
  h'.get h.next=some (.cells [.slice a os.length c,sv', .int .i64 r] true 1)/\h'.get (h.next+1)=some (.cells [v1,v2] true 1)/\(ei (aug (fO os ss) f) k (nZ os ss k i) m sn).1=false/\h'.get bo=some (.cells (ints (ei (aug (fO os ss) f) k (nZ os ss k i) m sn).2.1.2) true 1)/\h'.get bs=some (.cells (bos (ei (aug (fO os ss) f) k (nZ os ss k i) m sn).2.2) true 1))
  ⟨0,by omega,rfl,rfl,rfl,x1.ws,by omega,g5,g6,rfl,(x1.old _ kbo).trans gm,(x1.old _ kbs).trans gs⟩ ?_
 clear g5 g6;rintro w e ds J ⟨i,hi,rfl,rfl,rfl,wJ,nJ,g5,g6,hno,gm,gs⟩;have WJ:=wJ.wf hr.wf;have hlJ:∀z∈J.log,z=bo∨z=bs:=λz hz=>(wJ.log z hz).elim (λq=>by rw[hr.log]at q;cases q) id;by_cases hlt:i<os.length+ss.length;case neg=>
  obtain rfl:i=os.length+ss.length:=by omega
  have mlt:ah .lss (.int .i64 ((os.length+ss.length:Nat):Int)) (.int .i64 ((os.length+ss.length:Nat):Int))=some (.bool false):=dJ (by omega);refine Y17 ?_;exact kJ hlJ rfl ⟨by rw[hno];rfl,gm,gs⟩
 have mlt:ah .lss (.int .i64 (i:Nat)) (.int .i64 ((os.length+ss.length:Nat):Int))=some (.bool true):=dG (by omega);have hold:∀z,z<h0.next->J.get z=h0.get z:=λz hz=>(wJ.old z (by omega) (by omega)).trans (ho0 z hz)
 have hsu:=wC os ss k i;have Q1:=R1.keep (H':=J) (by omega) hold;have Q2:=R2.keep (H':=J) (by omega) hold;refine Y15 ?_;refine aX (E0:=[(2, .slice (some ⟨bo,0,none⟩) (os.length+ss.length) co),(3, .slice (some ⟨bs,0,none⟩) (os.length+ss.length) cs),(4, .int .i64 (k:Nat)),(5, .pointer (some ⟨h.next,0,none⟩)),(6, .pointer (some ⟨h.next+1,0,none⟩)),(11, .int .i64 (os.length:Nat)),(12, .int .i64 (i:Nat)),(13, .bool (tq os ss i k))]) (P:=λh'=>h'=J) ?_ ?_
 ·unfold tq;by_cases hin:i<os.length
  ·rw[if_pos hin];have ml:ah .lss (.int .i64 (i:Nat)) (.int .i64 (os.length:Nat))=some (.bool true):=dG (by omega);obtain⟨b,o,cc,vs,own,tt,b',o',c',vs',own',tt',rfl,e1,e2,e3,e4⟩:=Q1.at' hin hk;refine Y16 ?_;refine aO ?_;refine y1 ?_;exact⟨rfl,rfl,rfl,rfl⟩
  ·rw[if_neg hin];have ml:ah .lss (.int .i64 (i:Nat)) (.int .i64 (os.length:Nat))=some (.bool false):=dJ (by omega);have msub:ah .sub (.int .i64 (i:Nat)) (.int .i64 (os.length:Nat))=some (.int .i64 ((i-os.length:Nat):Int)):=by
    rw[mW (bJ (by omega) (by omega)),show((i:Nat):Int)-(os.length:Nat)=((i-os.length:Nat):Int)by omega]
   obtain⟨b,o,cc,vs,own,tt,b',o',c',vs',own',tt',rfl,e1,e2,e3,e4⟩:=Q2.at' (t:=i-os.length) (by omega) hk;refine Y18 ?_;refine aO ?_;refine y1 ?_;exact⟨rfl,rfl,rfl,rfl⟩
 rintro J rfl;have hpre:∀s∈nZ os ss k i,s<os.length+ss.length:=λs hs=>by
  have:=List.mem_range.1 (List.mem_filter.1 hs).1;omega
 have MM:=qm hk hrc hpre M (sn:=sn);have AS':=ua hrs (k:=k) (l:=nZ os ss k i) (m:=m) (sn:=sn) (by omega);have hfull:=λht=>Gf (rc:=aug (fO os ss) f) (k:=k) (m:=m) (sn:=sn) (IA os ss k (show i+1<=os.length+ss.length by omega)) ht;have hstep:ei (aug (fO os ss) f) k (nZ os ss k (i+1)) m sn=ei (aug (fO os ss) f) k (if tq os ss i k=true then [i]else []) (ei (aug (fO os ss) f) k (nZ os ss k i) m sn).2.1 (ei (aug (fO os ss) f) k (nZ os ss k i) m sn).2.2:=by
  rw[hsu,nw,if_neg (by rw[hno];simp)]
 have hsl:=AS'.Av;have hcn:=AS'.cnt;generalize ei (aug (fO os ss) f) k (nZ os ss k i) m sn=RD at*;obtain⟨rb,m',sn'⟩:=RD;dsimp only at*;cases hcut:tq os ss i k with
 |false=>
  rw[hcut,if_neg (by simp)]at hstep;refine Y21 ?_;exact⟨os.length+ss.length-(i+1),by omega,i+1,by omega,rfl,rfl,rfl,wJ,nJ,g5,g6,by rw[hstep];rfl,by rw[hstep];exact gm,by rw[hstep];exact gs⟩
 |true=>
 rw[hcut,if_pos rfl,rO]at hstep;have kb:=Gi (sn:=sn') (s:=i) (by omega);cases hse:snA sn' i with
 |true=>
  rw[if_pos hse]at hstep;rw[hse]at kb;refine Y25 ?_;exact⟨os.length+ss.length-(i+1),by omega,i+1,by omega,rfl,rfl,rfl,wJ,nJ,g5,g6,by rw[hstep];rfl,by rw[hstep];exact gm,by rw[hstep];exact gs⟩
 |false=>
 rw[if_neg (by rw[hse];simp)]at hstep;rw[hse]at kb;have kto:=MM.to (s:=i) hlt;have kl:=MM.l2;have kt:aT (ints m'.2) (0+i*1)=some (.int .i64 (toA m' i)):=by rw[cA,show 0+i*1=i by omega];exact ints_at kto.1
 have kc:=CV (sn:=sn') (s:=i) (by omega) true;have kw:=CX (sn:=sn') (s:=i) (by omega) true;refine Y22 ?_;refine aA (dZ (by exact rfl) (by exact rfl) gs kc kw) ?_;refine y3 ?_;have gsB:(J.wr h.next bs (.cells (bos (sn'.set i true)) true 1)).get bs=some (.cells (bos (sn'.set i true)) true 1):=Heap.aB gs;have oB:∀z,z≠bs->(J.wr h.next bs (.cells (bos (sn'.set i true)) true 1)).get z=J.get z:=λz hz=>z5 hz;have nB:(J.wr h.next bs (.cells (bos (sn'.set i true)) true 1)).next=J.next:=rfl
 have WB:WF (J.wr h.next bs (.cells (bos (sn'.set i true)) true 1)):=WJ.as (AS.wr _ _ _ _);have LB:∀z∈(J.wr h.next bs (.cells (bos (sn'.set i true)) true 1)).log,z=bo∨z=bs:=λz hz=>(dx hz).elim .inr (hlJ z);generalize(J.wr h.next bs (.cells (bos (sn'.set i true)) true 1))=hB at*;have e5:=(oB _ (by omega)).trans g5;have e6:=(oB _ (by omega)).trans g6;have em:=(oB _ hne).trans gm;clear g5 g6 gm gs kc kw kb Q1 Q2;have kcO:∀m2:List Int,m2.length=os.length+ss.length->(Nat.beq (bK (cellsOf (.int .i64 (k:Nat)))) 1&&Nat.ble (0+i*1+1) (bK (ints m2))&&cK (cellsOf (.int .i64 (k:Nat))))=true:=λm2 h2=>by
  rw[bM (ints m2),dD,eT (by omega)];rfl
 have kwO:∀m2:List Int,m2.length=os.length+ss.length->bZ (ints m2) (0+i*1) (cellsOf (.int .i64 (k:Nat)))=ints (m2.set i (k:Nat)):=λm2 h2=>GX (by omega) (by omega) _;by_cases hn1:toA m' i<0
 ·rw[if_pos hn1]at hstep;have hfin:ei (aug (fO os ss) f) k (nZ os ss k (os.length+ss.length)) m sn=(true,iz m' k i,sn'.set i true):=by rw[hfull (by rw[hstep]),hstep]
  rw[hfin];have ml:ah .lss (.int .i64 (toA m' i)) (.int .i64 0)=some (.bool true):=dG hn1;refine Y27 ?_;refine aA (dZ (by exact rfl) (by exact rfl) em (kcO _ kl) (kwO _ kl)) ?_;refine Y10 ?_;exact kJ (λz hz=>(dx hz).elim .inl (LB z)) rfl ⟨rfl,Heap.aB em,(z5 (λq=>hne q.symm)).trans gsB⟩
 ·rw[if_neg hn1]at hstep;have ml:ah .lss (.int .i64 (toA m' i)) (.int .i64 0)=some (.bool false):=dJ (by omega);obtain⟨t,ht⟩:∃t:Nat,toA m' i=(t:Int):=⟨(toA m' i).toNat,by omega⟩;have hM2:=hrc m' (sn'.set i true) t MM (by omega);have hcs:=mF hse;have I:=ih (h:={hB with log:=[]}) (.of WB) (by show h0.next<=hB.next;omega) (λz hz=>(oB z (by omega)).trans (hold z hz)) MM (by rw[List.length_set];omega) (k:=t) (by omega) (by omega) em gsB;rw[ht]at kt ml;rw[show(toA m' i).toNat=t by omega]at hstep;refine Y17 ?_;refine FW.gsD I (λv h' lg q=>q) ?_;clear I;rintro _ hC lg xC hlg ⟨rfl,gmC,gsC⟩;have oC:∀z,z<hB.next->z≠bo->z≠bs->hC.get z=hB.get z:=λz h1 h2 h3=>xC.old z h1 (λq=>q.elim h2 h3)
  have nC:=xC.next
  have LC:∀z∈hC.log,z=bo∨z=bs:=λz hz=>(xC.log z hz).elim (LB z) id;have c5:=(oC _ (by omega) (by omega) (by omega)).trans e5;have c6:=(oC _ (by omega) (by omega) (by omega)).trans e6;refine⟨_,by(repeat apply aK rfl);exact bV,?_⟩;generalize aug (fO os ss) f m' (sn'.set i true) t=rr at*;obtain⟨rb2,rm,rs⟩:=rr;dsimp only at*;cases rb2 with
  |true=>
   rw[if_pos rfl]at hstep;have hfin:ei (aug (fO os ss) f) k (nZ os ss k (os.length+ss.length)) m sn=(true,iz rm k i,rs):=by rw[hfull (by rw[hstep]),hstep]
   rw[hfin];refine Y10 ?_;refine aA (dZ (by exact rfl) (by exact rfl) gmC (kcO _ hM2.l2) (kwO _ hM2.l2)) ?_;refine Y10 ?_;exact kJ (λz hz=>(dx hz).elim .inl (LC z)) rfl ⟨rfl,Heap.aB gmC,(z5 (λq=>hne q.symm)).trans gsC⟩
  |false=>
   rw[if_neg (by simp)]at hstep;refine Y13 ?_;exact⟨os.length+ss.length-(i+1),by omega,i+1,by omega,rfl,rfl,rfl,⟨by omega,λz hz=> .inr (LC z hz),λz hz hn=>(oC z (by omega) (λq=>hn (.inl q)) (λq=>hn (.inr q))).trans ((oB z (λq=>hn (.inr q))).trans (wJ.old z hz hn)),λ_=>xC.wf WB⟩,by omega,c5,c6,by rw[hstep];rfl,by rw[hstep];exact gmC,by rw[hstep];exact gsC⟩
end Go.A.Pk
end
section
namespace Go.A.Pk
theorem HB{os:List Od}{ss:List Sp}:∀{n:Nat},n<=os.length->Mt7 os.length (os.length+ss.length) (mtN (fO os ss) os.length (os.length+ss.length) n).1
 |0,_=>⟨List.length_replicate,λx hx=>by rw[List.eq_of_mem_replicate hx];omega⟩
 |n+1,h=>by
  have ih:=HB (os:=os) (ss:=ss) (n:=n) (by omega);unfold mtN at ih⊢;rw[List.range_succ,List.foldl_append];exact xI (λk=>xD k) ih (by omega)
theorem AG(adj:Nat->List Nat)(A B n:Nat):mtN adj A B (n+1)=lS adj B (mtN adj A B n) n:=by
 unfold mtN;rw[List.range_succ,List.foldl_append];rfl
def opN(os:List Od)(ss:List Sp)(i:Nat):Int:=(i:Int)-(mtN (fO os ss) os.length (os.length+ss.length) i).2
theorem Im(os:List Od)(ss:List Sp)(i:Nat):opN os ss (i+1)=if(aug (fO os ss) (os.length+ss.length+1) (mtN (fO os ss) os.length (os.length+ss.length) i).1 (List.replicate (os.length+ss.length) false) i).1=true then opN os ss i else opN os ss i+1:=by
 unfold opN;rw[AG];unfold lS;dsimp only;split<;>omega
theorem KY{os:List Od}{ss:List Sp}(h40:os.length<=40)(h20:ss.length<=20):opN os ss os.length=lsN os ss:=NJ h40 h20
theorem Oc(os:List Od)(ss:List Sp)(i:Nat):0<=opN os ss i/\opN os ss i<=i:=by
 have:=yw (fO os ss) os.length (os.length+ss.length) i;unfold opN;omega
def rwL(w:Nat)(B:Nat->Bool)(j:Nat):List Bool:=(List.range j).map B++List.replicate (w-j) false
theorem vh{w:Nat}{B:Nat->Bool}{j:Nat}(h:j<=w):(rwL w B j).length=w:=by unfold rwL;simp;omega
theorem M1(w:Nat)(B:Nat->Bool):rwL w B 0=List.replicate w false:=by simp[rwL]
theorem DF(w:Nat)(B:Nat->Bool):rwL w B w=(List.range w).map B:=by simp[rwL]
theorem DH{w:Nat}{B:Nat->Bool}{j o:Nat}(h:j<w)(ho:o=j):bZ (bos (rwL w B j)) o (cellsOf (.bool (B j)))=bos (rwL w B (j+1)):=by
 subst ho;show bZ _ _ [Value.bool (B o)]=_;rw[fW (by rw[dS,vh (by omega)];exact h),tC];congr 1;unfold rwL;have hl:((List.range o).map B).length=o:=by simp
 rw[List.set_append_right _ _ (by omega),hl,Nat.sub_self,show w-o=(w-(o+1))+1 by omega,List.replicate_succ,List.set_cons_zero,List.range_succ,List.map_append,List.append_assoc];rfl
theorem DG{w:Nat}{B:Nat->Bool}{j o:Nat}(h:j<w)(ho:o=j)(b:Bool):(Nat.beq (bK (cellsOf (.bool b))) 1&&Nat.ble (o+1) (bK (bos (rwL w B j)))&&cK (cellsOf (.bool b)))=true:=by
 rw[bM (bos _),dS,vh (by omega),eT (by omega)];rfl
structure Ua (H:Heap) (u:Value) (w:Nat) (l:List Bool) (v:Value):Prop where
 ex:∃b,u= .slice (some ⟨b,0,none⟩) w w/\b<H.next/\H.get b=some (.cells (bos l) true 1)/\∀q a c,v= .slice (some ⟨q,0,none⟩) a c->b≠q
end Go.A.Pk
end
section
namespace Go.A.Pk
variable {T:Nat->Option af} {base:Nat} {rnd:Option Nat} {Q:XQ} {e:Env} {ds:Dfs} {h:Heap}
theorem yd:∀n,fR n [Value.bool false]=bos (List.replicate n false)
 |0=>rfl
 |n+1=>by
  rw[List.replicate_succ,show bos (false::List.replicate n false)= .bool false::bos (List.replicate n false)from rfl,←yd n];rfl
theorem oz{lo sz bytes n:Nat}{dst:Option Nat}{os:List bg}{x y:Operand}{v u:Value}{cs c1:List Value}(s:Own lo h sz v n cs)(hlo:base<=lo)(hn:n<1000000)(hsz:0<sz)(hb:bytes<=100000)
 (hx:ev h e x=some v)(hy:ev h e y=some u)(hs:fE h sz u=some (c1,1))(hl1:c1.length=sz)(h1:cK c1=true)
 (hK:∀h',Own h.next h' sz (.slice (some ⟨h.next,0,none⟩) (n+1) UNK) (n+1) (cs++c1)->h'.next=h.next+1->h'.log=h.log->(WF h->WF h')->(∀z,z<h.next->(∀q a c,v= .slice (some ⟨q,0,none⟩) a c->z≠q)->h'.get z=h.get z)->WO T base rnd Q os (cI e dst (.slice (some ⟨h.next,0,none⟩) (n+1) UNK)) ds h'):WO T base rnd Q (⟨dst, .append sz bytes x y,none⟩::os) e ds h:=by
 have hbd:(2*(n+1)+768)*bytes<=281474976710656:=by
  have:(2*(n+1)+768)*bytes<=2000768*100000:=Nat.mul_le_mul (by omega) hb;omega
 cases s with
 |nil=>
  refine aA (rM (n:=1) hx hy hs (by omega) (by simpa using hbd) rfl) ?_;exact hK _ (Own.full (lo:=h.next) (h:=h.push (.cells c1 true sz)) (sz:=sz) (q:=h.next) (n:=1) (cs:=c1) (Nat.le_refl _) (Nat.lt_succ_self _) (z3 _ _) (by omega) (by omega)) rfl rfl (λw=>w.push _) (λz hz _=>z4 hz)
 | @full q _ _ q1 q2 q3 q4 q5=>
   refine aA (pF (n:=1) (vs:=cs) (ws:=cs++c1) hx hy hs (by omega) q3 q4 hsz h1 hbd (dQ _ _)) ?_;exact hK _ (.full (Nat.le_refl _) (Nat.lt_succ_self _) (z3 _ _) (by rw[List.length_append,q4,hl1,Nat.add_mul,Nat.one_mul]) (by omega)) rfl (show((h.wr base q .dead).push (.cells (cs++c1) true sz)).log=h.log from Heap.aq (o:= .dead) (by omega)) (λw=>(w.as (AS.wr base _ q .dead)).push _) (λz hz hne=>(z4 (by exact hz)).trans (z5 (hne q _ _ rfl)))
structure hM (lo:Nat) (H:Heap) (v:Value) (n w:Nat) (B:Nat->Nat->Bool):Prop where
 ex:∃rows:List Value,Own lo H 1 v n rows/\rows.length=n/\∀t,t<n->∃b,rows[t]? =some (.slice (some ⟨b,0,none⟩) w w)/\lo<=b/\b<H.next/\H.get b=some (.cells (bos ((List.range w).map (B t))) true 1)/\∀q a c,v= .slice (some ⟨q,0,none⟩) a c->b≠q
theorem hM.zero(lo:Nat)(H:Heap)(w:Nat)(B:Nat->Nat->Bool):hM lo H (.slice none 0 0) 0 w B:=⟨[], .nil,rfl,λt ht=>absurd ht (Nat.not_lt_zero _)⟩
theorem hM.keep{lo:Nat}{H H':Heap}{v:Value}{n w:Nat}{B:Nat->Nat->Bool}(s:hM lo H v n w B)(hn:H.next<=H'.next)(ho:∀z,lo<=z->z<H.next->H'.get z=H.get z):hM lo H' v n w B:=by
 obtain⟨rows,s1,s2,s3⟩:=s.ex;refine⟨rows,s1.keep hn ho,s2,λt ht=> ?_⟩;obtain⟨b,e1,e2,e3,e4,e5⟩:=s3 t ht;exact⟨b,e1,e2,by omega,(ho b e2 e3).trans e4,e5⟩
theorem hM.cK{lo:Nat}{H:Heap}{v:Value}{n w:Nat}{B:Nat->Nat->Bool}(s:hM lo H v n w B):cK [v]=true:=by
 obtain⟨rows,s1,_⟩:=s.ex;cases s1<;>rfl
theorem hM.own{lo:Nat}{H:Heap}{v:Value}{n w:Nat}{B:Nat->Nat->Bool}(s:hM lo H v n w B):∃rows,Own lo H 1 v n rows:=by
 obtain⟨rows,s1,_⟩:=s.ex;exact⟨rows,s1⟩
theorem hM.push{lo:Nat}{H H':Heap}{v:Value}{n w b:Nat}{B:Nat->Nat->Bool}{rows:List Value}(s1:Own lo H 1 v n rows)(s2:rows.length=n)(s3:∀t,t<n->∃b,rows[t]? =some (.slice (some ⟨b,0,none⟩) w w)/\lo<=b/\b<H.next/\H.get b=some (.cells (bos ((List.range w).map (B t))) true 1)/\∀q a c,v= .slice (some ⟨q,0,none⟩) a c->b≠q)
 (hlo:lo<=H.next)(hb:lo<=b)(hb2:b<H.next)(hg:H.get b=some (.cells (bos ((List.range w).map (B n))) true 1))(hv:∀q a c,v= .slice (some ⟨q,0,none⟩) a c->b≠q)
 (o:Own H.next H' 1 (.slice (some ⟨H.next,0,none⟩) (n+1) UNK) (n+1) (rows++[.slice (some ⟨b,0,none⟩) w w]))(hn:H'.next=H.next+1)(ho:∀z,z<H.next->(∀q a c,v= .slice (some ⟨q,0,none⟩) a c->z≠q)->H'.get z=H.get z):hM lo H' (.slice (some ⟨H.next,0,none⟩) (n+1) UNK) (n+1) w B:=by
 refine⟨rows++[.slice (some ⟨b,0,none⟩) w w],o.low hlo,by rw[List.length_append,s2];rfl,λt ht=> ?_⟩;by_cases hlt:t<n
 ·obtain⟨c,e1,e2,e3,e4,e5⟩:=s3 t hlt;refine⟨c,by rw[List.getElem?_append_left (by omega)];exact e1,e2,by omega,(ho c e3 e5).trans e4,λq _ _ hq=> ?_⟩;cases hq;omega
 ·obtain rfl:t=n:=by omega
  refine⟨b,by rw[List.getElem?_append_right (by omega),s2,Nat.sub_self];rfl,hb,by omega,(ho b hb2 hv).trans hg,λq _ _ hq=> ?_⟩;cases hq;omega
theorem hM.DE{lo:Nat}{H:Heap}{v:Value}{n w:Nat}{B:Nat->Nat->Bool}(s:hM lo H v n w B)(hn:n<4000000)(hw:w<4000000):sN H v n w B:=by
 obtain⟨rows,s1,s2,s3⟩:=s.ex;refine⟨rows,s1.slice hn,λt ht=> ?_⟩;obtain⟨b,e1,e2,e3,e4,e5⟩:=s3 t ht;refine⟨_,e1, .mem ⟨e3,⟨_,true,1,e4,?_⟩,?_⟩ (Nat.le_refl _)⟩
 ·rw[cZ,cw,List.drop_zero,Nat.mul_one,List.take_of_length_le (by rw[dS,List.length_map,List.length_range];omega)]
 ·rw[dS,List.length_map,List.length_range];omega
theorem hM.flat{lo lo':Nat}{H H':Heap}{v:Value}{n w:Nat}{B:Nat->Nat->Bool}(s:hM lo H v n w B)(hv:jV v=true):hM lo' H' v n w B:=by
 obtain⟨rows,s1,s2,s3⟩:=s.ex;cases s1 with
 |nil=>exact .zero _ _ _ _
 |full _ _ _ _ _=>simp[jV,ji]at hv
structure Bq (os:List Od) (ss:List Sp) (v:Value) (H:Heap):Prop where
 ex:∃v1 v2,v= .agg #[v1,v2]/\hM 0 H v1 os.length os.length (iw os)/\hM 0 H v2 ss.length os.length (iT ss os)
theorem hM.low{lo lo':Nat}{H:Heap}{v:Value}{n w:Nat}{B:Nat->Nat->Bool}(s:hM lo H v n w B)(h:lo'≤lo):hM lo' H v n w B:=by
 obtain⟨rows,s1,s2,s3⟩:=s.ex;exact⟨rows,s1.low h,s2,λt ht=>by
  obtain⟨b,e1,e2,e3⟩:=s3 t ht;exact⟨b,e1,by omega,e3⟩⟩
theorem Bq.log{os:List Od}{ss:List Sp}{v:Value}{H:Heap}(q:Bq os ss v H)(l:List Nat):Bq os ss v {H with log:=l}:=by
 obtain⟨v1,v2,e,q1,q2⟩:=q.ex;exact⟨v1,v2,e,q1.keep (H':={H with log:=l}) (Nat.le_refl _) (λ_ _ _=>rfl),q2.keep (H':={H with log:=l}) (Nat.le_refl _) (λ_ _ _=>rfl)⟩
theorem Bq.flat{os:List Od}{ss:List Sp}{v:Value}{H H':Heap}(hv:cT v=true)(q:Bq os ss v H):Bq os ss v H':=by
 obtain⟨v1,v2,rfl,q1,q2⟩:=q.ex;have hv':cU [v1,v2]=true:=hv;have h1:jV v1=true:=by
  cases hs:jV v1 with
  |true=>rfl
  |false=>simp[cU,hs]at hv'
 have h2:jV v2=true:=by
  cases hs:jV v2 with
  |true=>rfl
  |false=>simp[cU,hs]at hv'
 exact⟨v1,v2,rfl,q1.flat h1,q2.flat h2⟩
end Go.A.Pk
end
