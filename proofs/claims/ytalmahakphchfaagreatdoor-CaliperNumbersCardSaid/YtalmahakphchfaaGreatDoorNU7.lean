/- Walks of functions, plain laws, the table. -/
import Derived.Test.YtalmahakphchfaaGreatDoorNU6
import Derived.Test.YtalmahakphchfaaGreatDoorNU5
import Derived.Test.YtalmahakphchfaaGreatDoorNU2
import Derived.Test.YtalmahakphchfaaGreatDoorNU4
import Derived.Test.YtalmahakphchfaaGreatDoorNU3
import Derived.Test.YtalmahakphchfaaGreatDoorNU0
import Derived.Test.YtalmahakphchfaaGreatDoorNH
import Derived.Test.YtalmahakphchfaaGreatDoorNT
import Derived.KernelRfl
import Derived.Test.YtalmahakphchfaaGreatDoorND
set_option linter.all false
set_option maxHeartbeats 16000000
set_option maxRecDepth 100000
section
namespace Go.A.Pk
variable {T:Nat->Option af}
structure TbI (h H:Heap) (p1 p2 pt lo:Nat) (sl:List Value) (v1 v2:Value):Prop where
 wf:WF H
 log:H.log=[]
 old:∀z,z<h.next->H.get z=h.get z
 g1:H.get p1=some (.cells sl true 1)
 g2:H.get p2=some (.cells [.slice none 0 0, .slice none 0 0] true 1)
 gt:H.get pt=some (.cells [v1,v2] true 1)
 nlo:lo<=H.next
theorem TbI.lx{h H H':Heap}{p1 p2 pt lo:Nat}{sl:List Value}{v1 v2:Value}(I:TbI h H p1 p2 pt lo sl v1 v2)(x:Lx lo H H')(d:h.next<=lo/\p1<lo/\p2<lo/\pt<lo):TbI h H' p1 p2 pt lo sl v1 v2:=
 ⟨x.wf I.wf,x.log.trans I.log,λz hz=>(x.old z (by omega)).trans (I.old z hz),(x.old _ (by omega)).trans I.g1,(x.old _ (by omega)).trans I.g2,(x.old _ (by omega)).trans I.gt,by have:=x.next;have:=I.nlo;omega⟩
theorem TbI.put{h H:Heap}{p1 p2 pt lo:Nat}{sl:List Value}{v1 v2 w1 w2:Value}(I:TbI h H p1 p2 pt lo sl v1 v2)(d:h.next<=pt/\p1≠pt/\p2≠pt):TbI h (H.wr h.next pt (.cells [w1,w2] true 1)) p1 p2 pt lo sl w1 w2:=
 ⟨I.wf.as (AS.wr _ _ _ _),(Heap.aq (by omega)).trans I.log,λz hz=>(z5 (by omega)).trans (I.old z hz),(z5 (by omega)).trans I.g1,(z5 (by omega)).trans I.g2,Heap.aB I.gt,I.nlo⟩
def tbA:aQ:=hdQ (tlC (tlC (cdF f235)))
def tbB:aQ:=hdQ (tlC (tlC (tlC (cdF f235))))
theorem O5(F:tP T){h G:Heap}{a:Option Addr}{c:Nat}{sv':Value}{os:List Od}{r:Int}(so:OdS h (.slice a os.length c) os)(hsv1:cK [sv']=true)(h40:os.length<=40)
 {p1 p2 pt lo:Nat}(d:h.next<=p1/\p1<p2/\p2<pt/\pt<lo)(I:TbI h G p1 p2 pt lo (seL (.slice a os.length c) sv' r) (.slice none 0 0) (.slice none 0 0)):
 WE T h.next none tbA (λx e' ds' h'=>x= .normal/\(∃r,e'=(1, .pointer (some ⟨p1,0,none⟩))::(2, .pointer (some ⟨p2,0,none⟩))::(3, .pointer (some ⟨pt,0,none⟩))::r)/\ds'=[]/\∃v1,TbI h h' p1 p2 pt lo (seL (.slice a os.length c) sv' r) v1 (.slice none 0 0)/\hM lo h' v1 os.length os.length (iw os)) [(1, .pointer (some ⟨p1,0,none⟩)),(2, .pointer (some ⟨p2,0,none⟩)),(3, .pointer (some ⟨pt,0,none⟩))] [] G:=by
 have s0:aT (seL (.slice a os.length c) sv' r) (0+0)=some (.slice a os.length c):=rfl;unfold tbA hdQ tlC cdF f235;dsimp only;refine Y4 ?_
 refine bW (λm e ds h'=>∃(i:Nat) (v1:Value),i<=os.length/\os.length-i=m/\e=[(1, .pointer (some ⟨p1,0,none⟩)),(2, .pointer (some ⟨p2,0,none⟩)),(3, .pointer (some ⟨pt,0,none⟩)),(4, .int .i64 (i:Nat))]/\ds=[]/\TbI h h' p1 p2 pt lo (seL (.slice a os.length c) sv' r) v1 (.slice none 0 0)/\hM lo h' v1 i os.length (iw os))
  ⟨0,_,Nat.zero_le _,rfl,rfl,rfl,I, .zero _ _ _ _⟩ ?_
 clear I;rintro m e ds G1 ⟨i,v1,hi,rfl,rfl,rfl,I1,R1⟩;have g1:=I1.g1;by_cases hlt:i<os.length;case neg=>
  obtain rfl:i=os.length:=by omega
  have mlt:ah .lss (.int .i64 (os.length:Nat)) (.int .i64 (os.length:Nat))=some (.bool false):=dJ (by omega);refine Y13 ?_;exact⟨rfl,⟨_,rfl⟩,rfl,v1,I1,R1⟩
 have W1:=I1.wf;have hL1:=I1.log;have c1:=I1.nlo;obtain⟨x,hx⟩:∃r,os[i]? =some r:=⟨os[i],List.getElem?_eq_getElem hlt⟩;have hxw:=so.ok x (List.mem_of_getElem? hx);obtain⟨b,o,cc,vs,own,tt,hv,gl,hbl,el⟩:=so.elem hx;cases hv;have gl1:=(I1.old _ hbl).trans gl;have mlt:ah .lss (.int .i64 (i:Nat)) (.int .i64 (os.length:Nat))=some (.bool true):=dG (by omega);have k1:=je hxw;have k2:=lH hxw;have k3:=eY hxw;have k4:=jT x;refine Y13 ?_;refine aX (E0:=[(1, .pointer (some ⟨p1,0,none⟩)),(2, .pointer (some ⟨p2,0,none⟩)),(3, .pointer (some ⟨pt,0,none⟩)),(4, .int .i64 (i:Nat)),(5, .pointer (some ⟨G1.next,0,none⟩))]) (P:=λh'=>Ext G1 h'∧h'.next=G1.next+1/\h'.get G1.next=some (.cells (odL x) true 1)) ?_ ?_
 ·refine Y7 ?_;refine aA (bh (by exact rfl) (by exact rfl) YG (by assumption) (by exact rfl) (by exact cg _)) ?_;refine aO ?_;refine y1 ?_;exact⟨rfl,rfl,rfl,dI (by omega) _ _,rfl,ef _ _⟩
 rintro G2 ⟨x2,n2,g5⟩;have I2:=I1.lx (x2.lx (by omega)) (by omega);have R2:=R1.keep x2.next (λz _ hz=>x2.old z hz)
 clear k1 k2 k3 k4 I1 gl1 hL1 W1 g1 R1;have W2:=I2.wf;have hL2:=I2.log;have g1:=I2.g1;refine aX (E0:=[(1, .pointer (some ⟨p1,0,none⟩)),(2, .pointer (some ⟨p2,0,none⟩)),(3, .pointer (some ⟨pt,0,none⟩)),(4, .int .i64 (i:Nat)),(5, .pointer (some ⟨G1.next,0,none⟩)),(6, .slice (some ⟨G2.next,0,none⟩) os.length os.length)]) (P:=λh'=>h'=G2.push (.cells (bos (rwL os.length (iw os i) 0)) true 1)) ?_ ?_
 ·refine Y4 ?_;refine aA (oJ (by exact rfl) (by exact rfl) (Nat.le_refl _) (by omega) (by omega) rfl) ?_;rw[yd,←M1 _ (iw os i)];refine yM ?_;refine aO ?_;refine y1 ?_;exact⟨rfl,rfl,rfl,rfl⟩
 rintro _ rfl;refine sG (E0:=λr=>(1, .pointer (some ⟨p1,0,none⟩))::(2, .pointer (some ⟨p2,0,none⟩))::(3, .pointer (some ⟨pt,0,none⟩))::(4, .int .i64 (i:Nat))::(5, .pointer (some ⟨G1.next,0,none⟩))::(6, .slice (some ⟨G2.next,0,none⟩) os.length os.length)::r) (P:=λh'=>Ext G2 h'∧G2.next<h'.next/\h'.get G2.next=some (.cells (bos ((List.range os.length).map (iw os i))) true 1)) ?_ ?_
 ·refine Y4 ?_
  refine bW (λm e ds h'=>∃k:Nat,k<=os.length/\os.length-k=m/\e=[(1, .pointer (some ⟨p1,0,none⟩)),(2, .pointer (some ⟨p2,0,none⟩)),(3, .pointer (some ⟨pt,0,none⟩)),(4, .int .i64 (i:Nat)),(5, .pointer (some ⟨G1.next,0,none⟩)),(6, .slice (some ⟨G2.next,0,none⟩) os.length os.length),(7, .int .i64 (k:Nat))]/\ds=[]/\Ext G2 h'∧G2.next<h'.next/\h'.get G2.next=some (.cells (bos (rwL os.length (iw os i) k)) true 1))
   ⟨0,Nat.zero_le _,rfl,rfl,rfl,(Ext.refl G2).push _,Nat.lt_succ_self _,z3 _ _⟩ ?_
  rintro m e ds J ⟨k,hk,rfl,rfl,rfl,xJ,nJ,gR⟩;have IJ:=I2.lx (xJ.lx (by omega)) (by omega);have WJ:=IJ.wf;have hLJ:=IJ.log;have g1J:=IJ.g1;clear g1;by_cases hkt:k<os.length;case neg=>
   obtain rfl:k=os.length:=by omega
   have mlt:ah .lss (.int .i64 (os.length:Nat)) (.int .i64 (os.length:Nat))=some (.bool false):=dJ (by omega);rw[DF]at gR;refine Y13 ?_;exact⟨rfl,⟨_,rfl⟩,rfl,xJ,nJ,gR⟩
  obtain⟨y,hy⟩:∃r,os[k]? =some r:=⟨os[k],List.getElem?_eq_getElem hkt⟩;have hyw:=so.ok y (List.mem_of_getElem? hy);obtain⟨b',o',cc',vs',own',tt',hv,gl',hbl',el'⟩:=so.elem hy;cases hv;have gl1:=(IJ.old _ hbl').trans gl';have mlt2:ah .lss (.int .i64 (k:Nat)) (.int .i64 (os.length:Nat))=some (.bool true):=dG (by omega);have k1:=je hyw;have k2:=lH hyw;have k3:=eY hyw;have k4:=jT y;refine Y13 ?_;refine aX (E0:=[(1, .pointer (some ⟨p1,0,none⟩)),(2, .pointer (some ⟨p2,0,none⟩)),(3, .pointer (some ⟨pt,0,none⟩)),(4, .int .i64 (i:Nat)),(5, .pointer (some ⟨G1.next,0,none⟩)),(6, .slice (some ⟨G2.next,0,none⟩) os.length os.length),(7, .int .i64 (k:Nat)),(8, .pointer (some ⟨J.next,0,none⟩))]) (P:=λh'=>Ext J h'∧h'.next=J.next+1/\h'.get J.next=some (.cells (odL y) true 1)) ?_ ?_
  ·refine Y7 ?_;refine aA (bh (by exact rfl) (by exact rfl) YG (by assumption) (by exact rfl) (by exact cg _)) ?_;refine aO ?_;refine y1 ?_;exact⟨rfl,rfl,rfl,dI (by omega) _ _,rfl,ef _ _⟩
  rintro J2 ⟨xJ2,nJ2,g8⟩;have W3:=xJ2.wf WJ;have hL3:=xJ2.log.trans hLJ;have gR2:=(xJ2.old _ nJ).trans gR;have g52:=(xJ2.old _ (by omega)).trans ((xJ.old G1.next (by omega)).trans g5);have xA:=xJ.trans xJ2;clear k1 k2 k3 k4 IJ gl1 hLJ WJ gR g1J xJ;have hf:iw os i k=pI x y:=by unfold iw;rw[hx,hy]
  have kw:=DH (w:=os.length) (B:=iw os i) (o:=0+k*1) hkt (by omega);have kc:=λbb=>DG (w:=os.length) (B:=iw os i) (o:=0+k*1) hkt (by omega) bb;rw[hf]at kw;have wy1:aT (odL y) (0+1)=some (.int .i64 y.fr):=rfl;have x2':aT (odL x) (0+2)=some (.int .i64 x.to):=rfl;have wy3:aT (odL y) (0+3)=some (.int .i64 y.size):=rfl;have x3':aT (odL x) (0+3)=some (.int .i64 x.size):=rfl;have wy5:=iF hyw;have x5:=iF hxw;have yl:=aR hyw.len;have xl:=aR hxw.len;have C:=Gv F (h:={J2 with log:=[]}) (.of W3) hxw hyw;by_cases h1:y.fr>x.to;case neg=>
   have m1:ah .gtr (.int .i64 y.fr) (.int .i64 x.to)=some (.bool false):=jB (by omega);rw[show pI x y=false by unfold pI;rw[decide_eq_false h1];rfl]at kw;refine Y23 ?_;refine aA (dZ (by exact rfl) (by exact rfl) gR2 (kc false) kw) ?_;refine aO ?_;refine Y8 ?_;exact⟨os.length-(k+1),by omega,k+1,by omega,rfl,rfl,rfl,xA.wr (by omega) (by omega),by show G2.next<J2.next;omega,Heap.aB gR2⟩
  have m1:ah .gtr (.int .i64 y.fr) (.int .i64 x.to)=some (.bool true):=kP (by omega);by_cases h2:x.size=y.size;case neg=>
   have m2:ah .eql (.int .i64 x.size) (.int .i64 y.size)=some (.bool false):=pN h2;rw[show pI x y=false by unfold pI;rw[decide_eq_false h2,Bool.and_false];rfl]at kw;refine Y28 ?_;refine aA (dZ (by exact rfl) (by exact rfl) gR2 (kc false) kw) ?_;refine aO ?_;refine Y8 ?_;exact⟨os.length-(k+1),by omega,k+1,by omega,rfl,rfl,rfl,xA.wr (by omega) (by omega),by show G2.next<J2.next;omega,Heap.aB gR2⟩
  have m2:ah .eql (.int .i64 x.size) (.int .i64 y.size)=some (.bool true):=nU h2;rw[show pI x y=iU x.cB y.cB by unfold pI;rw[decide_eq_true h1,decide_eq_true h2];rfl]at kw;refine Y31 ?_;refine FW.pu C ?_;clear C;refine Y2 ?_;refine aA (dZ (by exact rfl) (by exact rfl) gR2 (kc (iU x.cB y.cB)) kw) ?_;refine aO ?_;refine Y8 ?_;exact⟨os.length-(k+1),by omega,k+1,by omega,rfl,rfl,rfl,xA.wr (by omega) (by omega),by show G2.next<J2.next;omega,Heap.aB gR2⟩
 rintro er H ⟨xH,nH,gR⟩;have IH:=I2.lx (xH.lx (by omega)) (by omega);have WH:=IH.wf;have hLH:=IH.log;have gtH:=IH.gt;have RH:=R2.keep xH.next (λz _ hz=>xH.old z hz)
 have cH:=IH.nlo;have hv1:=RH.cK;have hv2:cK [(.slice none 0 0:Value)]=true:=rfl;obtain⟨rows,r1,r2,r3⟩:=(RH.keep (H':=H.push (.cells [.slice (some ⟨G2.next,0,none⟩) os.length os.length] true 1)) (Nat.le_succ _) (λz _ hz=>z4 hz)).ex;have hvq:∀q a c,v1= .slice (some ⟨q,0,none⟩) a c->G2.next≠q:=λq a c hq=>by
  subst hq;obtain⟨rows',ow⟩:=R2.own;cases ow with
  |full _ q2 _ _ _=>omega
 refine Y5 ?_;refine oz (lo:=lo) (sz:=1) (v:=v1) (c1:=[.slice (some ⟨G2.next,0,none⟩) os.length os.length]) r1 (by omega) (by omega) (by omega) (by omega) (by exact rfl) (by exact rfl) (kF (n:=1) (cs:=[.slice (some ⟨G2.next,0,none⟩) os.length os.length]) YG rfl rfl) rfl rfl ?_;intro h6 o6 n6 l6 w6 k6;have xL:Lx lo H h6:=⟨by rw[n6];show H.next<=H.next+1+1;omega,l6,λz hz=>(k6 z (by show z<H.next+1;omega) (λq a c hq=>by
  subst hq;cases r1 with
  |full q1 _ _ _ _=>omega)).trans (z4 (by omega)),λw=>w6 (w.push _)⟩
 have I6:=IH.lx xL (by omega);have R6:=hM.push r1 r2 r3 (by show lo<=H.next+1;omega) (b:=G2.next) (by omega) (by show G2.next<H.next+1;omega) ((z4 nH).trans gR) hvq o6 n6 k6;have gt6:=I6.gt;clear RH R2 r1 r2 r3 k6 w6 o6 gtH;refine Y2 ?_;refine aO ?_;refine Y8 ?_;refine⟨os.length-(i+1),by omega,i+1,_,by omega,rfl,rfl,rfl,I6.put (by omega),R6.keep (Nat.le_refl _) ?_⟩;intro z hz _;exact z5 (by omega)
theorem O6(F:tP T){h G:Heap}{a a2:Option Addr}{c c2:Nat}{os:List Od}{ss:List Sp}{r:Int}(so:OdS h (.slice a os.length c) os)(sp:SpS h (.slice a2 ss.length c2) ss)(h40:os.length<=40)(h20:ss.length<=20)
 {p1 p2 pt lo:Nat}{v1:Value}(hv1:cK [v1]=true){er:Env}(d:h.next<=p1/\p1<p2/\p2<pt/\pt<lo)(I:TbI h G p1 p2 pt lo (seL (.slice a os.length c) (.slice a2 ss.length c2) r) v1 (.slice none 0 0))(RF:hM lo G v1 os.length os.length (iw os)):
 WE T h.next none tbB (λx e' ds' h'=>x= .normal/\(∃r,e'=(1, .pointer (some ⟨p1,0,none⟩))::(2, .pointer (some ⟨p2,0,none⟩))::(3, .pointer (some ⟨pt,0,none⟩))::r)/\ds'=[]/\∃v2,TbI h h' p1 p2 pt lo (seL (.slice a os.length c) (.slice a2 ss.length c2) r) v1 v2/\hM lo h' v1 os.length os.length (iw os)/\hM lo h' v2 ss.length os.length (iT ss os)) ((1, .pointer (some ⟨p1,0,none⟩))::(2, .pointer (some ⟨p2,0,none⟩))::(3, .pointer (some ⟨pt,0,none⟩))::er) [] G:=by
 have s0:aT (seL (.slice a os.length c) (.slice a2 ss.length c2) r) (0+0)=some (.slice a os.length c):=rfl;have s1:aT (seL (.slice a os.length c) (.slice a2 ss.length c2) r) (0+1)=some (.slice a2 ss.length c2):=rfl;unfold tbB hdQ tlC cdF f235;dsimp only;obtain⟨rF,oF,lF,eF⟩:=RF.ex;refine Y4 ?_
 refine bW (λm e ds h'=>∃(i:Nat) (v2:Value),i<=ss.length/\ss.length-i=m/\e=[(1, .pointer (some ⟨p1,0,none⟩)),(2, .pointer (some ⟨p2,0,none⟩)),(3, .pointer (some ⟨pt,0,none⟩)),(9, .int .i64 (i:Nat))]/\ds=[]/\TbI h h' p1 p2 pt lo (seL (.slice a os.length c) (.slice a2 ss.length c2) r) v1 v2/\G.next<=h'.next/\(∀z,lo<=z->z<G.next->h'.get z=G.get z)/\hM G.next h' v2 i os.length (iT ss os))
  ⟨0,_,Nat.zero_le _,rfl,rfl,rfl,I,Nat.le_refl _,λ_ _ _=>rfl, .zero _ _ _ _⟩ ?_
 have cG:=I.nlo;clear I;rintro m e ds G1 ⟨i,v2,hi,rfl,rfl,rfl,I1,nG,oG,R1⟩;have g1:=I1.g1;by_cases hlt:i<ss.length;case neg=>
  obtain rfl:i=ss.length:=by omega
  have mlt:ah .lss (.int .i64 (ss.length:Nat)) (.int .i64 (ss.length:Nat))=some (.bool false):=dJ (by omega);refine Y13 ?_;exact⟨rfl,⟨_,rfl⟩,rfl,v2,I1,RF.keep nG oG,R1.low cG⟩
 have W1:=I1.wf;have hL1:=I1.log;have c1:=I1.nlo;obtain⟨x,hx⟩:∃r,ss[i]? =some r:=⟨ss[i],List.getElem?_eq_getElem hlt⟩;have hxw:=sp.ok x (List.mem_of_getElem? hx);obtain⟨b,o,cc,vs,own,tt,hv,gl,hbl,el⟩:=sp.elem hx;cases hv;have gl1:=(I1.old _ hbl).trans gl;have mlt:ah .lss (.int .i64 (i:Nat)) (.int .i64 (ss.length:Nat))=some (.bool true):=dG (by omega);have k1:=iH hxw;have k2:=kn hxw;have k3:=dV hxw;have k4:=jj x;refine Y13 ?_;refine aX (E0:=[(1, .pointer (some ⟨p1,0,none⟩)),(2, .pointer (some ⟨p2,0,none⟩)),(3, .pointer (some ⟨pt,0,none⟩)),(9, .int .i64 (i:Nat)),(10, .pointer (some ⟨G1.next,0,none⟩))]) (P:=λh'=>Ext G1 h'∧h'.next=G1.next+1/\h'.get G1.next=some (.cells (spL x) true 1)) ?_ ?_
 ·refine Y7 ?_;refine aA (bh (by exact rfl) (by exact rfl) YG (by assumption) (by exact rfl) (by exact cg _)) ?_;refine aO ?_;refine y1 ?_;exact⟨rfl,rfl,rfl,dI (by omega) _ _,rfl,ef _ _⟩
 rintro G2 ⟨x2,n2,g5⟩;have I2:=I1.lx (x2.lx (by omega)) (by omega);have R2:=R1.keep x2.next (λz _ hz=>x2.old z hz)
 have oG2:∀z,lo<=z->z<G.next->G2.get z=G.get z:=λz h1 h2=>(x2.old z (by omega)).trans (oG z h1 h2)
 clear k1 k2 k3 k4 I1 gl1 hL1 W1 g1 R1 oG;have W2:=I2.wf;have hL2:=I2.log;have g1:=I2.g1;refine aX (E0:=[(1, .pointer (some ⟨p1,0,none⟩)),(2, .pointer (some ⟨p2,0,none⟩)),(3, .pointer (some ⟨pt,0,none⟩)),(9, .int .i64 (i:Nat)),(10, .pointer (some ⟨G1.next,0,none⟩)),(11, .slice (some ⟨G2.next,0,none⟩) os.length os.length)]) (P:=λh'=>h'=G2.push (.cells (bos (rwL os.length (iT ss os i) 0)) true 1)) ?_ ?_
 ·refine Y4 ?_;refine aA (oJ (by exact rfl) (by exact rfl) (Nat.le_refl _) (by omega) (by omega) rfl) ?_;rw[yd,←M1 _ (iT ss os i)];refine yM ?_;refine aO ?_;refine y1 ?_;exact⟨rfl,rfl,rfl,rfl⟩
 rintro _ rfl;refine sG (E0:=λr=>(1, .pointer (some ⟨p1,0,none⟩))::(2, .pointer (some ⟨p2,0,none⟩))::(3, .pointer (some ⟨pt,0,none⟩))::(9, .int .i64 (i:Nat))::(10, .pointer (some ⟨G1.next,0,none⟩))::(11, .slice (some ⟨G2.next,0,none⟩) os.length os.length)::r) (P:=λh'=>Ext G2 h'∧G2.next<h'.next/\h'.get G2.next=some (.cells (bos ((List.range os.length).map (iT ss os i))) true 1)) ?_ ?_
 ·refine Y4 ?_
  refine bW (λm e ds h'=>∃k:Nat,k<=os.length/\os.length-k=m/\e=[(1, .pointer (some ⟨p1,0,none⟩)),(2, .pointer (some ⟨p2,0,none⟩)),(3, .pointer (some ⟨pt,0,none⟩)),(9, .int .i64 (i:Nat)),(10, .pointer (some ⟨G1.next,0,none⟩)),(11, .slice (some ⟨G2.next,0,none⟩) os.length os.length),(12, .int .i64 (k:Nat))]/\ds=[]/\Ext G2 h'∧G2.next<h'.next/\h'.get G2.next=some (.cells (bos (rwL os.length (iT ss os i) k)) true 1))
   ⟨0,Nat.zero_le _,rfl,rfl,rfl,(Ext.refl G2).push _,Nat.lt_succ_self _,z3 _ _⟩ ?_
  rintro m e ds J ⟨k,hk,rfl,rfl,rfl,xJ,nJ,gR⟩;have IJ:=I2.lx (xJ.lx (by omega)) (by omega);have WJ:=IJ.wf;have hLJ:=IJ.log;have g1J:=IJ.g1;clear g1;by_cases hkt:k<os.length;case neg=>
   obtain rfl:k=os.length:=by omega
   have mlt:ah .lss (.int .i64 (os.length:Nat)) (.int .i64 (os.length:Nat))=some (.bool false):=dJ (by omega);rw[DF]at gR;refine Y13 ?_;exact⟨rfl,⟨_,rfl⟩,rfl,xJ,nJ,gR⟩
  obtain⟨y,hy⟩:∃r,os[k]? =some r:=⟨os[k],List.getElem?_eq_getElem hkt⟩;have hyw:=so.ok y (List.mem_of_getElem? hy);obtain⟨b',o',cc',vs',own',tt',hv,gl',hbl',el'⟩:=so.elem hy;cases hv;have gl1:=(IJ.old _ hbl').trans gl';have mlt2:ah .lss (.int .i64 (k:Nat)) (.int .i64 (os.length:Nat))=some (.bool true):=dG (by omega);have k1:=je hyw;have k2:=lH hyw;have k3:=eY hyw;have k4:=jT y;refine Y13 ?_;refine aX (E0:=[(1, .pointer (some ⟨p1,0,none⟩)),(2, .pointer (some ⟨p2,0,none⟩)),(3, .pointer (some ⟨pt,0,none⟩)),(9, .int .i64 (i:Nat)),(10, .pointer (some ⟨G1.next,0,none⟩)),(11, .slice (some ⟨G2.next,0,none⟩) os.length os.length),(12, .int .i64 (k:Nat)),(13, .pointer (some ⟨J.next,0,none⟩))]) (P:=λh'=>Ext J h'∧h'.next=J.next+1/\h'.get J.next=some (.cells (odL y) true 1)) ?_ ?_
  ·refine Y7 ?_;refine aA (bh (by exact rfl) (by exact rfl) YG (by assumption) (by exact rfl) (by exact cg _)) ?_;refine aO ?_;refine y1 ?_;exact⟨rfl,rfl,rfl,dI (by omega) _ _,rfl,ef _ _⟩
  rintro J2 ⟨xJ2,nJ2,g8⟩;have W3:=xJ2.wf WJ;have hL3:=xJ2.log.trans hLJ;have gR2:=(xJ2.old _ nJ).trans gR;have g52:=(xJ2.old _ (by omega)).trans ((xJ.old G1.next (by omega)).trans g5);have xA:=xJ.trans xJ2;clear k1 k2 k3 k4 IJ gl1 hLJ WJ gR g1J xJ;have hf:iT ss os i k=ud x y:=by unfold iT;rw[hx,hy]
  have kw:=DH (w:=os.length) (B:=iT ss os i) (o:=0+k*1) hkt (by omega);have kc:=λbb=>DG (w:=os.length) (B:=iT ss os i) (o:=0+k*1) hkt (by omega) bb;rw[hf]at kw;have wy3:aT (odL y) (0+3)=some (.int .i64 y.size):=rfl;have x3':aT (spL x) (0+1)=some (.int .i64 x.size):=rfl;have wy5:=iF hyw;have x5:=lu hxw;have yl:=aR hyw.len;have xl:=aR hxw.len;have C:=Gv F (h:={J2 with log:=[]}) (.of W3) hxw hyw;by_cases h2:x.size=y.size;case neg=>
   have m2:ah .eql (.int .i64 x.size) (.int .i64 y.size)=some (.bool false):=pN h2;rw[show ud x y=false by unfold ud;rw[decide_eq_false h2];rfl]at kw;refine Y16 ?_;refine aA (dZ (by exact rfl) (by exact rfl) gR2 (kc false) kw) ?_;refine aO ?_;refine Y8 ?_;exact⟨os.length-(k+1),by omega,k+1,by omega,rfl,rfl,rfl,xA.wr (by omega) (by omega),by show G2.next<J2.next;omega,Heap.aB gR2⟩
  have m2:ah .eql (.int .i64 x.size) (.int .i64 y.size)=some (.bool true):=nU h2;rw[show ud x y=iU x.cB y.cB by unfold ud;rw[decide_eq_true h2];rfl]at kw;refine Y19 ?_;refine FW.pu C ?_;clear C;refine Y2 ?_;refine aA (dZ (by exact rfl) (by exact rfl) gR2 (kc (iU x.cB y.cB)) kw) ?_;refine aO ?_;refine Y8 ?_;exact⟨os.length-(k+1),by omega,k+1,by omega,rfl,rfl,rfl,xA.wr (by omega) (by omega),by show G2.next<J2.next;omega,Heap.aB gR2⟩
 rintro er H ⟨xH,nH,gR⟩;have IH:=I2.lx (xH.lx (by omega)) (by omega);have oH:∀z,lo<=z->z<G.next->H.get z=G.get z:=λz h1 h2=>(xH.old z (by omega)).trans (oG2 z h1 h2)
 have WH:=IH.wf;have hLH:=IH.log;have gtH:=IH.gt;have RH:=R2.keep xH.next (λz _ hz=>xH.old z hz)
 have cH:=IH.nlo;have hv2:=RH.cK;have hxn:=xH.next
 obtain⟨rows,r1,r2,r3⟩:=(RH.keep (H':=H.push (.cells [.slice (some ⟨G2.next,0,none⟩) os.length os.length] true 1)) (Nat.le_succ _) (λz _ hz=>z4 hz)).ex;have hvq:∀q a c,v2= .slice (some ⟨q,0,none⟩) a c->G2.next≠q:=λq a c hq=>by
  subst hq;obtain⟨rows',ow⟩:=R2.own;cases ow with
  |full _ q2 _ _ _=>omega
 refine Y5 ?_;refine oz (lo:=G.next) (sz:=1) (v:=v2) (c1:=[.slice (some ⟨G2.next,0,none⟩) os.length os.length]) r1 (by omega) (by omega) (by omega) (by omega) (by exact rfl) (by exact rfl) (kF (n:=1) (cs:=[.slice (some ⟨G2.next,0,none⟩) os.length os.length]) YG rfl rfl) rfl rfl ?_;intro h6 o6 n6 l6 w6 k6;have xL:Lx G.next H h6:=⟨by rw[n6];show H.next<=H.next+1+1;omega,l6,λz hz=>(k6 z (by show z<H.next+1;omega) (λq a c hq=>by
  subst hq;cases r1 with
  |full q1 _ _ _ _=>omega)).trans (z4 (by omega)),λw=>w6 (w.push _)⟩
 have I6:=IH.lx (xL.mono cG) (by omega);have R6:=hM.push r1 r2 r3 (by show G.next<=H.next+1;omega) (b:=G2.next) (by omega) (by show G2.next<H.next+1;omega) ((z4 nH).trans gR) hvq o6 n6 k6;have gt6:=I6.gt;have n66:G.next<=h6.next:=by have:=xL.next;omega
 have o66:∀z,lo<=z->z<G.next->h6.get z=G.get z:=λz h1 h2=>(xL.old z (by omega)).trans (oH z h1 h2)
 clear RH R2 r1 r2 r3 k6 w6 o6 gtH xL;refine Y2 ?_;refine aO ?_;refine Y8 ?_;refine⟨ss.length-(i+1),by omega,i+1,_,by omega,rfl,rfl,rfl,I6.put (by omega),n66,λz h1 h2=>(z5 (by omega)).trans (o66 z h1 h2),R6.keep (Nat.le_refl _) ?_⟩;intro z hz _;exact z5 (by omega)
theorem Fj(F:tP T)(hT:T 61=some f235){h:Heap}(hr:Rdy h){ov sv':Value}{os:List Od}{ss:List Sp}{r:Int}(so:OdS h ov os)(sp:SpS h sv' ss)(h40:os.length<=40)(h20:ss.length<=20):
 Al T 61 [seV ov sv' r] h (Bq os ss):=by
 have hp:=F.ck.r.p;refine .of hp hT hr (λv h1 hv q=>q.flat hv) ?_;obtain⟨a,c,rfl⟩:=so.form;obtain⟨a2,c2,rfl⟩:=sp.form;refine aX (E0:=[(1, .pointer (some ⟨h.next,0,none⟩)),(2, .pointer (some ⟨h.next+1,0,none⟩))]) (P:=λh'=>h'=(h.push (.cells (seL (.slice a os.length c) (.slice a2 ss.length c2) r) true 1)).push (.cells [.slice none 0 0, .slice none 0 0] true 1)) ?_ ?_
 ·refine Y3 ?_;refine aO ?_;refine y1 ?_;exact⟨rfl,rfl,rfl,rfl⟩
 rintro _ rfl;refine aX (E0:=[(1, .pointer (some ⟨h.next,0,none⟩)),(2, .pointer (some ⟨h.next+1,0,none⟩)),(3, .pointer (some ⟨h.next+2,0,none⟩))]) (P:=λh'=>TbI h h' h.next (h.next+1) (h.next+2) (h.next+3) (seL (.slice a os.length c) (.slice a2 ss.length c2) r) (.slice none 0 0) (.slice none 0 0)) ?_ ?_
 ·refine Y2 ?_;refine aO ?_;refine y1 ?_;refine⟨rfl,rfl,rfl,⟨((hr.wf.push _).push _).push _,hr.log,λz hz=> ?_,?_,?_,z3 _ _,Nat.le_refl _⟩⟩
  ·exact(z4 (by show z<h.next+2;omega)).trans ((z4 (by show z<h.next+1;omega)).trans (z4 hz))
  ·exact(z4 (by show h.next<h.next+2;omega)).trans ((z4 (by show h.next<h.next+1;omega)).trans (z3 _ _))
  ·exact(z4 (by show h.next+1<h.next+2;omega)).trans (z3 (h.push _) _)
 rintro G I;refine sG (E0:=λr=>(1, .pointer (some ⟨h.next,0,none⟩))::(2, .pointer (some ⟨h.next+1,0,none⟩))::(3, .pointer (some ⟨h.next+2,0,none⟩))::r) (P:=λh'=>∃v1,TbI h h' h.next (h.next+1) (h.next+2) (h.next+3) (seL (.slice a os.length c) (.slice a2 ss.length c2) r) v1 (.slice none 0 0)/\hM (h.next+3) h' v1 os.length os.length (iw os)) ?_ ?_
 ·exact O5 F so rfl h40 (by omega) I
 rintro er G1 ⟨v1,I1,R1⟩;refine sG (E0:=λr=>(1, .pointer (some ⟨h.next,0,none⟩))::(2, .pointer (some ⟨h.next+1,0,none⟩))::(3, .pointer (some ⟨h.next+2,0,none⟩))::r) (P:=λh'=>∃v2,TbI h h' h.next (h.next+1) (h.next+2) (h.next+3) (seL (.slice a os.length c) (.slice a2 ss.length c2) r) v1 v2/\hM (h.next+3) h' v1 os.length os.length (iw os)/\hM (h.next+3) h' v2 ss.length os.length (iT ss os)) ?_ ?_
 ·exact O6 F so sp h40 h20 R1.cK (by omega) I1 R1
 rintro er2 G2 ⟨v2,I2,Q1,Q2⟩;have hv1:=Q1.cK;have hv2:=Q2.cK;have W:=I2.wf;have hL:=I2.log;have g2:=I2.g2;have gt:=I2.gt;have hon2:cK (bB 2 (bA 0 [v1,v2]))=true:=dL (a:=[v1]) hv1 hv2;have hon3:cK [v1,v2]=true:=dL (a:=[v1]) hv1 hv2;clear I I1 R1;refine Y2 ?_;refine aA (bh (by exact rfl) (by exact rfl) (by assumption) (by exact rfl) (by exact rfl) (by assumption)) ?_;refine Y2 ?_;refine fA ((Heap.aq (by omega)).trans hL) (bH (own:=true) (s:=1) rfl (Heap.aB g2) rfl rfl rfl) ⟨v1,v2,rfl,(Q1.keep ?_ ?_).low (Nat.zero_le _),(Q2.keep ?_ ?_).low (Nat.zero_le _)⟩
 ·exact Nat.le_refl _
 ·intro z hz _;exact z5 (by omega)
 ·exact Nat.le_refl _
 ·intro z hz _;exact z5 (by omega)
def flN(N i:Nat):List Value:=ints (List.replicate i (-1)++List.replicate (N-i) 0)
theorem ur{N i:Nat}(h:i<=N):(flN N i).length=N:=by unfold flN;rw[dD,List.length_append,List.length_replicate,List.length_replicate];omega
theorem Hp:∀n,fR n [Value.int .i64 0]=ints (List.replicate n 0)
 |0=>rfl
 |n+1=>by
  rw[List.replicate_succ,show ints (0::List.replicate n 0)= .int .i64 0::ints (List.replicate n 0)from rfl,←Hp n];rfl
theorem Qo(N:Nat):fR N [Value.int .i64 0]=flN N 0:=by unfold flN;rw[Hp];simp
theorem Ku(N:Nat):flN N N=ints (List.replicate N (-1)):=by unfold flN;simp
theorem Kw{N i o:Nat}(h:i<N)(ho:o=i):bZ (flN N i) o (cellsOf (.int .i64 (-1)))=flN N (i+1):=by
 subst ho;show bZ _ _ [Value.int .i64 (-1)]=_;rw[fW (by rw[ur (by omega)];omega)];unfold flN ints;rw[show Value.int .i64 (-1)=(λx:Int=>Value.int .i64 x) (-1)from rfl,←List.map_set,List.set_append_right _ _ (by rw[List.length_replicate];omega),List.length_replicate,Nat.sub_self,show N-o=(N-(o+1))+1 by omega,List.replicate_succ,List.set_cons_zero,List.replicate_succ',List.append_assoc];rfl
theorem Kv{N i o:Nat}(h:i<N)(ho:o=i):(Nat.beq (bK (cellsOf (.int .i64 (-1)))) 1&&Nat.ble (o+1) (bK (flN N i))&&cK (cellsOf (.int .i64 (-1))))=true:=by
 rw[bM (flN N i),ur (by omega),eT (by omega)];rfl
theorem L7{α:Type}{base:Nat}{rnd:Option Nat}{Q:XQ}{e:Env}{E0:α->Env}{ds:Dfs}{h:Heap}{a b:aQ}{P:α->Heap->Prop}(H1:WE T base rnd a (λx e' ds' h'=>x= .normal/\ds'=[]/\∃i,e'=E0 i/\P i h') e ds h)(H2:∀i h',P i h'→WE T base rnd b Q (E0 i) [] h'):WE T base rnd (.seq a b) Q e ds h:=by
 refine vz (H1.mono ?_);rintro x e' ds' h' ⟨rfl,rfl,i,rfl,hp⟩;exact vE (H2 i h' hp)
structure FF (T:Nat->Option af):Prop where
 cu:tP T
 f235:T 61=some f235
 f236:T 62=some f236
 f163:T 32=some f163
theorem Au(F:FF T){h:Heap}(hr:Rdy h){ov sv:Value}{os:List Od}{ss:List Sp}{r:Int}(so:OdS h ov os)(ho:os.length<4611686018427387904)(sp:SpS h sv ss)(hs:ss.length<4611686018427387904):
 Pu T 32 [seV ov sv r] h (.tuple #[.int .i64 (if seB os ss r=true then lsN os ss else 0), .int .i64 (seE os ss r)]):=by
 have hp:=F.cu.ck.r.p;refine .of hp F.f163 hr rfl ?_;obtain⟨a,c,rfl⟩:=so.form;obtain⟨a2,c2,rfl⟩:=sp.form;generalize hov:(.slice a os.length c:Value)=ov at*;generalize hsv:(.slice a2 ss.length c2:Value)=sv at*;have hov1:cK [ov]=true:=by rw[←hov];rfl
 have hsv1:cK [sv]=true:=by rw[←hsv];rfl
 have hon3:cK (bB 3 (bA 0 [ov,sv, .int .i64 r]))=true:=dL (a:=[ov]) hov1 (dL (a:=[sv]) hsv1 rfl);refine aX (E0:=[(1, .pointer (some ⟨h.next,0,none⟩))]) (P:=λh'=>Ext h h'∧h'.next=h.next+1/\h'.get h.next=some (.cells [ov,sv, .int .i64 r] true 1)) ?_ ?_
 ·refine Y4 ?_;refine aO ?_;refine y1 ?_;exact⟨rfl,rfl,rfl,(Ext.refl h).push _,rfl,z3 _ _⟩
 rintro h1 ⟨x1,n1,g1⟩;have W1:=x1.wf hr.wf;have hl1:=x1.log.trans hr.log;have so1:=so.ext x1;have sp1:=sp.ext x1;have C:=Ni F.cu.ck (h:={h1 with log:=[]}) (.of W1) (r:=r) (so1.log []) ho (sp1.log []) hs;unfold seE at*;cases hb:seB os ss r with
 |false=>
  rw[hb,if_neg (by simp)]at C;rw[if_neg (by simp),if_neg (by simp)];refine Y3 ?_;refine FW.pu C ?_;refine Y15 ?_;exact ak hl1 rfl rfl
 |true=>
 rw[hb,if_pos rfl]at C;rw[if_pos rfl,if_pos rfl];obtain⟨h40,h20,_⟩:=Jh hb;have C2:=Fj F.cu F.f235 (h:={h1 with log:=[]}) (.of W1) (r:=r) (so1.log []) (sp1.log []) h40 h20;refine Y3 ?_;refine FW.pu C ?_;clear C;refine Y10 ?_;refine L7 (E0:=λq:Nat=>[(1, .pointer (some ⟨h.next,0,none⟩)),(5, .pointer (some ⟨q,0,none⟩))]) (P:=λq h'=>∃v1 v2 H,Ext h1 H/\q=H.next/\Ext H h'∧h'.next=H.next+1/\h'.get q=some (.cells [v1,v2] true 1)/\hM 0 H v1 os.length os.length (iw os)/\hM 0 H v2 ss.length os.length (iT ss os)) ?_ ?_
 ·refine Y3 ?_;refine FW.al C2 (λv h' m q=>q.log m) ?_;clear C2;rintro _ H x2 ⟨v1,v2,rfl,Q1,Q2⟩;have hv:cK [v1,v2]=true:=dL (a:=[v1]) Q1.cK Q2.cK;have hc2:=x2.next
  refine aA (sO) ?_;refine aA (bh (by exact rfl) (by exact rfl) YG (by exact rfl) (by exact rfl) (by assumption)) ?_;refine aO ?_;refine y1 ?_;exact⟨rfl,rfl,_,rfl,v1,v2,H,x2,rfl,(((Ext.refl H).push _).wr (Nat.le_refl _) (by omega)),rfl,Heap.aB (z3 _ _),Q1,Q2⟩
 rintro q H1 ⟨v1,v2,H,x2,rfl,x3,n3,g5,Q1,Q2⟩;clear C2;obtain⟨fa,fc,rfl⟩:∃a c,v1= .slice a os.length c:=by
  obtain⟨rows,s1,_⟩:=(Q1.DE (by omega) (by omega)).ex;exact bS.form s1
 obtain⟨ga,gc,rfl⟩:∃a c,v2= .slice a ss.length c:=by
  obtain⟨rows,s1,_⟩:=(Q2.DE (by omega) (by omega)).ex;exact bS.form s1
 have hc2:=x2.next
 subst hov;subst hsv;have x03:=x2.trans x3;have W3:=x03.wf W1;have hL3:=x03.log.trans hl1;have f1:=(x03.old h.next (by omega)).trans g1;have hv1:=Q1.cK;have hv2:=Q2.cK;have hon2:cK (bB 2 (bA 0 [.slice fa os.length fc, .slice ga ss.length gc]))=true:=dL (a:=[.slice fa os.length fc]) hv1 hv2;have R1:=Q1.DE (by omega) (by omega);have R2:=Q2.DE (by omega) (by omega);have mad:ah .add (.int .i64 (os.length:Nat)) (.int .i64 (ss.length:Nat))=some (.int .i64 ((os.length+ss.length:Nat):Int)):=by
  rw[iD (bJ (by omega) (by omega)),show((os.length:Nat):Int)+(ss.length:Nat)=((os.length+ss.length:Nat):Int)by omega]
 refine aX (E0:=[(1, .pointer (some ⟨h.next,0,none⟩)),(5, .pointer (some ⟨H.next,0,none⟩)),(6, .slice (some ⟨H1.next,0,none⟩) (os.length+ss.length) (os.length+ss.length))]) (P:=λh'=>h'=H1.push (.cells (flN (os.length+ss.length) 0) true 1)) ?_ ?_
 ·refine Y8 ?_;refine aA (oJ (by exact rfl) (by exact rfl) (Nat.le_refl _) (by omega) (by omega) rfl) ?_;rw[Qo];refine yM ?_;refine aO ?_;refine y1 ?_;exact⟨rfl,rfl,rfl,rfl⟩
 rintro _ rfl;refine Y5 ?_
 refine bW (λm e ds h'=>∃i:Nat,i<=os.length+ss.length/\os.length+ss.length-i=m/\e=[(1, .pointer (some ⟨h.next,0,none⟩)),(5, .pointer (some ⟨H.next,0,none⟩)),(6, .slice (some ⟨H1.next,0,none⟩) (os.length+ss.length) (os.length+ss.length)),(7, .int .i64 (i:Nat))]/\ds=[]/\Ext H1 h'∧h'.next=H1.next+1/\h'.get H1.next=some (.cells (flN (os.length+ss.length) i) true 1))
  ⟨0,by omega,rfl,rfl,rfl,(Ext.refl H1).push _,rfl,z3 _ _⟩ ?_
 rintro m e ds J ⟨i,hi,rfl,rfl,rfl,xJ,nJ,g6⟩;by_cases hlt:i<os.length+ss.length
 ·have mlt:ah .lss (.int .i64 (i:Nat)) (.int .i64 ((os.length+ss.length:Nat):Int))=some (.bool true):=dG (by omega);have kc:=Kv (N:=os.length+ss.length) (i:=i) (o:=0+i*1) hlt (by omega);have kw:=Kw (N:=os.length+ss.length) (i:=i) (o:=0+i*1) hlt (by omega);refine Y16 ?_;refine aA (dZ (by exact rfl) (by exact rfl) g6 kc kw) ?_;refine aO ?_;refine Y8 ?_;exact⟨os.length+ss.length-(i+1),by omega,i+1,by omega,rfl,rfl,rfl,xJ.wr (Nat.le_refl _) (by omega),nJ,Heap.aB g6⟩
 obtain rfl:i=os.length+ss.length:=by omega
 have mlt:ah .lss (.int .i64 ((os.length+ss.length:Nat):Int)) (.int .i64 ((os.length+ss.length:Nat):Int))=some (.bool false):=dJ (by omega);have gb1:=(xJ.old h.next (by omega)).trans f1;have gb5:=(xJ.old H.next (by omega)).trans g5;rw[Ku]at g6;have WJ:=xJ.wf W3;have hLJ:=xJ.log.trans hL3;clear f1 g5;have hM0:(mtN (fO os ss) os.length (os.length+ss.length) 0).1.2=List.replicate (os.length+ss.length) (-1):=rfl;rw[←hM0]at g6;refine Y21 ?_
 refine bW (λm e ds h'=>∃t:Nat,t<=os.length/\os.length-t=m/\e=[(1, .pointer (some ⟨h.next,0,none⟩)),(5, .pointer (some ⟨H.next,0,none⟩)),(6, .slice (some ⟨H1.next,0,none⟩) (os.length+ss.length) (os.length+ss.length)),(8, .int .i64 (opN os ss t)),(9, .int .i64 (t:Nat))]/\ds=[]/\WF h'∧h'.log=[]/\J.next<=h'.next/\(∀z,z<H1.next->h'.get z=J.get z)/\h'.get H1.next=some (.cells (ints (mtN (fO os ss) os.length (os.length+ss.length) t).1.2) true 1))
  ⟨0,by omega,rfl,rfl,rfl,WJ,hLJ,Nat.le_refl _,λ_ _=>rfl,g6⟩ ?_
 clear g6 mlt;rintro m e ds G ⟨t,ht,rfl,rfl,rfl,WG,LG,nG,oG,g6⟩;have gbA:=(oG h.next (by omega)).trans gb1;have gbB:=(oG H.next (by omega)).trans gb5;have hbd:=Oc os ss t;by_cases hlt:t<os.length;case neg=>
  obtain rfl:t=os.length:=by omega
  have mlt:ah .lss (.int .i64 (os.length:Nat)) (.int .i64 (os.length:Nat))=some (.bool false):=dJ (by omega);rw[←KY h40 h20];clear gb1 gb5;refine Y20 ?_;exact ak LG rfl rfl
 have mlt:ah .lss (.int .i64 (t:Nat)) (.int .i64 (os.length:Nat))=some (.bool true):=dG (by omega);have MM:=HB (os:=os) (ss:=ss) (n:=t) (by omega);have hsu:=Im os ss t;have hst:mtN (fO os ss) os.length (os.length+ss.length) (t+1)=lS (fO os ss) (os.length+ss.length) (mtN (fO os ss) os.length (os.length+ss.length) t) t:=AG _ _ _ _;have hst1:(mtN (fO os ss) os.length (os.length+ss.length) (t+1)).1=(aug (fO os ss) (os.length+ss.length+1) (mtN (fO os ss) os.length (os.length+ss.length) t).1 (List.replicate (os.length+ss.length) false) t).2.1:=by rw[hst];rfl
 have CS:=λ(G':Heap) (hG:WF G') (n':G.next<=G'.next) (o':∀z,z<G.next->G'.get z=G.get z) (bs:Nat) (hbs:G.next<=bs) (gs:G'.get bs=some (.cells (bos (List.replicate (os.length+ss.length) false)) true 1))=>
  E3 hp F.f236 (h0:=H) (v1:= .slice fa os.length fc) (v2:= .slice ga ss.length gc) (sv':= .slice a2 ss.length c2) (os:=os) (ss:=ss) (a:=a) (c:=c) (r:=r) hsv1 hv1 hv2 R1 R2 h40 h20 (bo:=H1.next) (bs:=bs) (co:=os.length+ss.length) (cs:=os.length+ss.length) (by omega) (by omega) (by omega) (os.length+ss.length+1) (h:={G' with log:=[]}) (.of hG) (by show H.next<=G'.next;omega)
   (λz hz=>(o' z (by omega)).trans ((oG z (by omega)).trans ((xJ.old z (by omega)).trans (x3.old z hz)))) (m:=(mtN (fO os ss) os.length (os.length+ss.length) t).1) (sn:=List.replicate (os.length+ss.length) false) (k:=t) MM List.length_replicate hlt (by rw[List.count_replicate_self];omega) ((o' _ (by omega)).trans g6) gs
 rw[←hst1]at CS;clear gb1 gb5;refine Y20 ?_;refine zG rfl rfl rfl (by exact rfl) (by exact rfl) (by exact rfl) (oJ (m:=1) (by exact rfl) (by exact rfl) (Nat.le_refl _) (by omega) (by omega) rfl) (by refine dR (aG rfl (Br (by exact rfl)) (by exact eR _ _)) ?_;refine dR (aG rfl (gG (by exact rfl)) (by exact ru _ _ _)) ?_;refine dR (aG rfl (gG (by exact rfl)) (by exact ru _ _ _)) ?_;refine dR (aG rfl (cQ (by exact rfl) YG (by exact rfl) (by exact rfl)) (by refine lB ?_;refine dg (qX _ _ _) ?_;refine dg (qX _ _ _) ?_;exact zq)) ?_;refine dR (aG rfl (cQ (by exact rfl) YG (by exact rfl) (by exact rfl)) (by refine lB ?_;refine dg (qX _ _ _) ?_;refine dg (qX _ _ _) ?_;exact dg (ej _ _) (by assumption))) ?_;exact zj) ?_;rw[yd];refine Y2 ?_;refine FW.Nu (CS (G.push (.cells (bos (List.replicate (os.length+ss.length) false)) true 1)) (WG.push _) (Nat.le_succ _) (λz hz=>z4 hz) G.next (Nat.le_refl _) (z3 _ _)) (λv h' lg q=>q) ?_;clear CS;rintro _ G2 lg xC hlg ⟨rfl,gm2,gs2⟩;refine⟨_,by(repeat apply aK rfl);exact bV,?_⟩;have LG2:G2.log=[]:=List.eq_nil_iff_forall_not_mem.2 λz hz=>(xC.QD z hz).elim (λq=>by rw[show(G.push (.cells (bos (List.replicate (os.length+ss.length) false)) true 1)).log=G.log from rfl,LG]at q;cases q) (λq=>by omega);have nC:G.next+1<=G2.next:=xC.next
 have oC:∀z,z<H1.next->G2.get z=J.get z:=λz hz=>(xC.old z (by show z<G.next+1;omega) (by omega)).trans ((z4 (by omega)).trans (oG z hz))
 have WG2:=xC.wf (WG.push _);cases hbo:(aug (fO os ss) (os.length+ss.length+1) (mtN (fO os ss) os.length (os.length+ss.length) t).1 (List.replicate (os.length+ss.length) false) t).1 with
 |true=>
  rw[hbo,if_pos rfl]at hsu;refine Y17 ?_;exact⟨os.length-(t+1),by omega,t+1,by omega,rfl,by rw[hsu],rfl,WG2,LG2,by omega,oC,gm2⟩
 |false=>
  rw[hbo,if_neg (by simp)]at hsu;have mad2:ah .add (.int .i64 (opN os ss t)) (.int .i64 1)=some (.int .i64 (opN os ss (t+1))):=by
   rw[iD (bJ (by omega) (by omega)),hsu]
  refine Y13 ?_;refine aO ?_;refine Y8 ?_;exact⟨os.length-(t+1),by omega,t+1,by omega,rfl,rfl,rfl,WG2,LG2,by omega,oC,gm2⟩
theorem se{lo sz n:Nat}{h h':Heap}{v:Value}{cs:List Value}(s:Own lo h sz v n cs)(hn:h.next<=h'.next)(ha:∀q a c,v= .slice (some ⟨q,0,none⟩) a c->q<h.next->h'.get q=h.get q):Own lo h' sz v n cs:=by
 cases s with
 |nil=>exact .nil
 |full h1 h2 h3 h4 h5=>exact .full h1 (by omega) ((ha _ _ _ rfl h2).trans h3) h4 h5
theorem tK{lo sz n:Nat}{h:Heap}{v:Value}{cs:List Value}(s:Own lo h sz v n cs){q a c:Nat}(hv:v= .slice (some ⟨q,0,none⟩) a c):lo<=q/\q<h.next:=by
 subst hv;cases s with
 |full h1 h2 _ _ _=>exact⟨h1,h2⟩
theorem wA{lo sz n:Nat}{h:Heap}{v:Value}{cs:List Value}(s:Own lo h sz v n cs):cK [v]=true:=by cases s<;>rfl
structure pE (lo:Nat) (H:Heap) (v w:Value) (ls ws:List Sp):Prop where
 a:Own lo H 10 v ls.length (ls.flatMap spL)
 b:Own lo H 10 w ws.length (ws.flatMap spL)
 ne:∀q a c q' a' c',v= .slice (some ⟨q,0,none⟩) a c->w= .slice (some ⟨q',0,none⟩) a' c'→q≠q'
theorem pE.keep{lo:Nat}{H H':Heap}{v w:Value}{ls ws:List Sp}(t:pE lo H v w ls ws)(hn:H.next<=H'.next)(ho:∀z,lo<=z->z<H.next->H'.get z=H.get z):pE lo H' v w ls ws:=⟨t.a.keep hn ho,t.b.keep hn ho,t.ne⟩
theorem pE.swap{lo:Nat}{H:Heap}{v w:Value}{ls ws:List Sp}(t:pE lo H v w ls ws):pE lo H w v ws ls:=⟨t.b,t.a,λq a c q' a' c' h1 h2=>(t.ne q' a' c' q a c h2 h1).symm⟩
theorem pE.push{lo:Nat}{H H':Heap}{v w:Value}{ls ws:List Sp}{x:Sp}(t:pE lo H v w ls ws)(hlo:lo<=H.next)(o:Own H.next H' 10 (.slice (some ⟨H.next,0,none⟩) (ls.length+1) UNK) (ls.length+1) (ls.flatMap spL++spL x))(hn:H'.next=H.next+1)
 (ho:∀z,z<H.next->(∀q a c,v= .slice (some ⟨q,0,none⟩) a c->z≠q)->H'.get z=H.get z):pE lo H' (.slice (some ⟨H.next,0,none⟩) (ls.length+1) UNK) w (ls++[x]) ws:=by
 refine⟨?_,se t.b (by omega) λq a c hw hq=>ho q hq λq' a' c' hv=>(t.ne q' a' c' q a c hv hw).symm,λq a c q' a' c' hv hw=> ?_⟩
 ·rw[List.length_append,List.flatMap_append,List.length_singleton,show [x].flatMap spL=spL x by simp];exact o.low hlo
 ·cases hv;have:=(tK t.b hw).2;omega
theorem pE.back{lo:Nat}{H H':Heap}{v w:Value}{ls ws:List Sp}(t:pE lo H v w ls ws)(hn:H.next<=H'.next)(h1:∀q a c,v= .slice (some ⟨q,0,none⟩) a c->q<H.next->H'.get q=H.get q)(h2:∀q a c,w= .slice (some ⟨q,0,none⟩) a c->q<H.next->H'.get q=H.get q):pE lo H' v w ls ws:=⟨se t.a hn h1,se t.b hn h2,t.ne⟩
theorem Hq{lo:Nat}{H H':Heap}{v:Value}{n:Nat}{cs:List Value}(s:Own lo H 10 v n cs)(hn:H'.next=H.next+1)(hl:H'.log=H.log)(hw:WF H->WF H')(ho:∀z,z<H.next->(∀q a c,v= .slice (some ⟨q,0,none⟩) a c->z≠q)->H'.get z=H.get z)(hlo:lo<=H.next):Lx lo H H':=
 ⟨by omega,hl,λz hz=>ho z (by omega) λq a c hv=>by have:=(tK s hv).1;omega,hw⟩
theorem Pa{cr:List Wd}{ss:List Sp}(hl:cr.length=ss.length)(h:cr.any iW=false):wNo cr ss=false:=by
 unfold wNo;rw[decide_eq_false (by simpa using hl),h];rfl
theorem Me{cr:List Wd}{ss:List Sp}(hl:cr.length≠ss.length):wNo cr ss=true:=by
 unfold wNo;rw[decide_eq_true hl];rfl
theorem DP{cr:List Wd}{ss:List Sp}{i:Nat}{w:Wd}(hw:cr[i]? =some w)(h:iW w=true):wNo cr ss=true:=by
 unfold wNo;rw[List.any_eq_true.2 ⟨w,List.mem_of_getElem? hw,h⟩,Bool.or_true]
theorem any_succ{cr:List Wd}{i:Nat}{w:Wd}(hw:cr[i]? =some w)(h:(cr.take i).any iW=false)(hb:iW w=false):(cr.take (i+1)).any iW=false:=by
 rw[List.take_add_one,hw,List.any_append,h];show(false||(iW w||false))=false;rw[hb];rfl
theorem OO{os:List Od}{ss:List Sp}{cr:List Wd}{r:Int}(hl:cr.length=ss.length)(hno:cr.any iW=false)(h:seB os (wHi cr ss) r=true):seB os (wLo cr ss) r=true:=by
 have hgood:∀w∈cr,¬w.2=s0:=λw hw=>by
  have:=List.any_eq_false.1 hno w hw;unfold iW at this;simp at this;exact this.2
 have hat:∀i,i<ss.length->∃w,w∈cr/\crF (λw=>w.2) cr i=w.2:=λi hi=>by
  have hw:cr[i]? =some cr[i]:=List.getElem?_eq_getElem (by omega);refine⟨cr[i],List.getElem_mem (by omega),?_⟩;unfold crF;rw[hw]
 unfold seB at h;simp only[Bool.and_eq_true,decide_eq_true_eq]at h;obtain⟨⟨⟨⟨o1,s1⟩,o2⟩,s2⟩,r1⟩:=h;obtain⟨t1,t2,_⟩:=kI.1 s1;have hall:=DU (f:=crF (λw=>w.2) cr) (ss:=ss) (Nat.le_refl _) (λi hi=>by
  obtain⟨w,hw,q1⟩:=hat i hi;rw[q1];exact hgood w hw)
 rw[List.take_length]at hall;have hlH:(wHi cr ss).length=ss.length:=by have:=congrArg List.length hall;rwa [List.length_map,List.length_map]at this
 unfold seB;simp only[Bool.and_eq_true,decide_eq_true_eq];refine⟨⟨⟨⟨o1,kI.2 ⟨λx hx=> ?_,?_,λ_ _=>by simp⟩⟩,o2⟩,Nat.le_trans (jm _ _ _) (by omega)⟩,r1⟩
 ·obtain⟨j,hj,rfl⟩:=List.getElem_of_mem hx;obtain⟨i,x,a1,a2,a3,a4,a5⟩:=J5 (Nat.le_refl _) hj;have ex:(wLo cr ss)[j]=⟨x.id,x.size,crF (λw=>w.1) cr i⟩:=by
   have q:(wLo cr ss)[j]? =some ⟨x.id,x.size,crF (λw=>w.1) cr i⟩:=a5;rw[List.getElem?_eq_getElem hj]at q;exact Option.some.inj q
  rw[ex];obtain⟨w,hw,q1⟩:=hat i a1;have hm:=tO (f:=crF (λw=>w.2) cr) (by rw[q1];exact hgood w hw) a4 a1 (Nat.le_refl _);have:=t1 _ (List.mem_of_getElem? hm);unfold spB thB at this⊢;simp only[Bool.and_eq_true,decide_eq_true_eq]at this⊢;exact⟨this.1,a3⟩
 ·refine List.Sublist.nodup (DV (Nat.le_refl _)) ?_;rw[List.take_length,←hall];exact t2
structure FH (T:Nat->Option af):Prop where
 le:FF T
 rs:MA T
 f68:T 8=some f68
theorem Eu(F:FH T){h:Heap}(hr:Rdy h){ov sv' cv:Value}{os:List Od}{ss:List Sp}{cr:List Wd}{r:Int}(so:OdS h ov os)(ho:os.length<4611686018427387904)(sp:SpS h sv' ss)(h20:ss.length<=20)(wo:WoS h cv cr)(hc:cr.length<4611686018427387904):
 Pu T 8 [seV ov sv' r,cv] h (nmV (nmT os ss cr r)):=by
 have hp:=F.le.cu.ck.r.p;refine .of hp F.f68 hr rfl ?_;obtain⟨a1,c1,rfl⟩:=so.form;obtain⟨a,c,rfl⟩:=sp.form;obtain⟨a2,c2,rfl⟩:=wo.form;refine aX (E0:=[(1, .slice a2 cr.length c2),(2, .pointer (some ⟨h.next,0,none⟩))]) (P:=λh'=>Ext h h'∧h'.next=h.next+1/\h'.get h.next=some (.cells [.slice a1 os.length c1, .slice a ss.length c, .int .i64 r] true 1)) ?_ ?_
 ·refine Y5 ?_;refine aO ?_;refine y1 ?_;exact⟨rfl,rfl,rfl,(Ext.refl h).push _,rfl,z3 h _⟩
 rintro h1 ⟨x1,n1,g2⟩;have W1:=x1.wf hr.wf;have hl1:=x1.log.trans hr.log;have so1:=so.ext x1;have sp1:=sp.ext x1;have wo1:=wo.ext x1;unfold nmT;by_cases hlen:cr.length=ss.length;case neg=>
  rw[if_pos (Me hlen)];have m1:ah .neq (.int .i64 (cr.length:Nat)) (.int .i64 (ss.length:Nat))=some (.bool true):=yg (by omega);refine Y17 ?_;exact ak hl1 rfl rfl
 have m1:ah .neq (.int .i64 (cr.length:Nat)) (.int .i64 (ss.length:Nat))=some (.bool false):=BO (by omega);refine Y12 ?_;refine aX (E0:=[(1, .slice a2 cr.length c2),(2, .pointer (some ⟨h.next,0,none⟩)),(7, .pointer (some ⟨h1.next,0,none⟩))]) (P:=λh'=>Ext h1 h'∧h'.next=h1.next+1/\h'.get h1.next=some (.cells [.slice a1 os.length c1, .slice a ss.length c, .int .i64 r] true 1)) ?_ ?_
 ·refine Y4 ?_;refine aO ?_;refine y1 ?_;exact⟨rfl,rfl,rfl,dI (by omega) _ _,rfl,ef _ _⟩
 rintro h2 ⟨x2,n2,g7⟩;have e2:=(x2.old h.next (by omega)).trans g2;refine aX (E0:=[(1, .slice a2 cr.length c2),(2, .pointer (some ⟨h.next,0,none⟩)),(7, .pointer (some ⟨h1.next,0,none⟩)),(8, .pointer (some ⟨h1.next+1,0,none⟩))]) (P:=λh'=>Ext h2 h'∧h'.next=h2.next+1/\h'.get (h1.next+1)=some (.cells [.slice a1 os.length c1, .slice a ss.length c, .int .i64 r] true 1)) ?_ ?_
 ·refine Y4 ?_;refine aO ?_;refine y1 ?_;rw[←n2];exact⟨rfl,rfl,rfl,dI (by omega) _ _,rfl,ef _ _⟩
 rintro h3 ⟨x3,n3,g8⟩;have e7:=(x3.old h1.next (by omega)).trans g7;have x13:=x2.trans x3;refine aX (E0:=[(1, .slice a2 cr.length c2),(2, .pointer (some ⟨h.next,0,none⟩)),(7, .pointer (some ⟨h1.next,0,none⟩)),(8, .pointer (some ⟨h1.next+1,0,none⟩))]) (P:=λh'=>Ext h1 h'∧h'.next=h1.next+2/\h'.get h1.next=some (.cells [.slice a1 os.length c1, .slice none 0 0, .int .i64 r] true 1)/\h'.get (h1.next+1)=some (.cells [.slice a1 os.length c1, .slice a ss.length c, .int .i64 r] true 1)) ?_ ?_
 ·refine Y3 ?_;refine aO ?_;refine y1 ?_;exact⟨rfl,rfl,rfl,x13.wr (by omega) (by omega),by show h3.next=h1.next+2;omega,Heap.aB e7,(z5 (by omega)).trans g8⟩
 clear e7 g8 x3 n3 x13 e2 g7 x2 n2;rintro h4 ⟨x4,n4,f7,f8⟩;refine aX (E0:=[(1, .slice a2 cr.length c2),(2, .pointer (some ⟨h.next,0,none⟩)),(7, .pointer (some ⟨h1.next,0,none⟩)),(8, .pointer (some ⟨h1.next+1,0,none⟩))]) (P:=λh'=>Ext h1 h'∧h'.next=h1.next+2/\h'.get h1.next=some (.cells [.slice a1 os.length c1, .slice none 0 0, .int .i64 r] true 1)/\h'.get (h1.next+1)=some (.cells [.slice a1 os.length c1, .slice none 0 0, .int .i64 r] true 1)) ?_ ?_
 ·refine Y3 ?_;refine aO ?_;refine y1 ?_;exact⟨rfl,rfl,rfl,x4.wr (by omega) (by omega),n4,(z5 (by omega)).trans f7,Heap.aB f8⟩
 clear f7 f8 x4 n4 h4;rintro h5 ⟨x5,n5,g7,g8⟩;refine Y5 ?_
 refine bW (λm e ds h'=>∃i:Nat,i<=ss.length/\ss.length-i=m/\e=[(1, .slice a2 cr.length c2),(2, .pointer (some ⟨h.next,0,none⟩)),(7, .pointer (some ⟨h1.next,0,none⟩)),(8, .pointer (some ⟨h1.next+1,0,none⟩)),(9, .int .i64 (i:Nat))]/\ds=[]/\(cr.take i).any iW=false/\Ext h1 h'∧h1.next+2<=h'.next/\∃v w,h'.get h1.next=some (.cells [.slice a1 os.length c1,v, .int .i64 r] true 1)/\h'.get (h1.next+1)=some (.cells [.slice a1 os.length c1,w, .int .i64 r] true 1)/\pE (h1.next+2) h' v w (gY (crF (λw=>w.2) cr) ss i) (gY (crF (λw=>w.1) cr) ss i))
  ⟨0,by omega,rfl,rfl,rfl,rfl,x5,by omega,_,_,g7,g8, .nil, .nil,λ_ _ _ _ _ _ h=>by cases h⟩ ?_
 clear x5 n5 g7 g8 h5;rintro m e ds J ⟨i,hi,rfl,rfl,rfl,hno,xJ,nJ,v,w,g7,g8,two⟩;have WJ:=xJ.wf W1;have hlJ:=xJ.log.trans hl1;have hv1:=wA two.a;have hw1:=wA two.b;have hon7:cK (bB 3 (bA 0 [.slice a1 os.length c1,v, .int .i64 r]))=true:=dL (a:=[.slice a1 os.length c1]) rfl (dL (a:=[v]) hv1 rfl);have hon8:cK (bB 3 (bA 0 [.slice a1 os.length c1,w, .int .i64 r]))=true:=dL (a:=[.slice a1 os.length c1]) rfl (dL (a:=[w]) hw1 rfl);have q2:=(xJ.old h.next (by omega)).trans g2;by_cases hlt:i<ss.length;case neg=>
  obtain rfl:i=ss.length:=by omega
  have mlt:ah .lss (.int .i64 (cr.length:Nat)) (.int .i64 (cr.length:Nat))=some (.bool false):=dJ (by omega);have mlt':ah .lss (.int .i64 (ss.length:Nat)) (.int .i64 (cr.length:Nat))=some (.bool false):=dJ (by omega);rw[←hlen,List.take_length]at hno;rw[if_neg (by rw[Pa hlen hno];simp)];have leH:=jm (crF (λw=>w.2) cr) ss ss.length;have leL:=jm (crF (λw=>w.1) cr) ss ss.length;have okH:=rE (f:=crF (λw=>w.2) cr) (ss:=ss) (i:=ss.length) (λj _=>xO (λw hw=>hw.b) wo.ok j);have okL:=rE (f:=crF (λw=>w.1) cr) (ss:=ss) (i:=ss.length) (λj _=>xO (λw hw=>hw.a) wo.ok j);have x1J:=x1.trans xJ;have C1:=Au F.le (h:={J with log:=[]}) (.of WJ) (ov:= .slice a1 os.length c1) (sv:=v) (ss:=wHi cr ss) (r:=r) ((so.ext x1J).log []) ho ⟨(two.a.slice (by omega)).log [],okH⟩ (Nat.lt_of_le_of_lt leH (by omega));have C2:=Au F.le (h:={J with log:=[]}) (.of WJ) (ov:= .slice a1 os.length c1) (sv:=w) (ss:=wLo cr ss) (r:=r) ((so.ext x1J).log []) ho ⟨(two.b.slice (by omega)).log [],okL⟩ (Nat.lt_of_le_of_lt leL (by omega));unfold seE at C1 C2;cases hH:seB os (wHi cr ss) r with
  |false=>
   rw[hH,if_neg (by simp),if_neg (by simp)]at C1;rw[if_pos rfl];refine Y16 ?_;refine FW.pu C1 ?_;refine Y20 ?_;exact ak hlJ rfl rfl
  |true=>
  have hL:=OO hlen hno hH;rw[hH,if_pos rfl,if_pos rfl]at C1;rw[hL,if_pos rfl,if_pos rfl]at C2;rw[if_neg (by simp),hL,if_neg (by simp)];generalize lsN os (wHi cr ss)=wz1 at*;generalize lsN os (wLo cr ss)=wz2 at*;refine Y16 ?_;refine FW.pu C1 ?_;refine Y17 ?_;refine FW.pu C2 ?_;refine Y15 ?_;exact ak hlJ rfl rfl
 obtain⟨x,hx⟩:∃r,ss[i]? =some r:=⟨ss[i],List.getElem?_eq_getElem hlt⟩;have hxw:=sp.ok x (List.mem_of_getElem? hx);obtain⟨b,o,cc,vs,own,tt,hv,gl,hbl,el⟩:=sp1.elem hx;cases hv;obtain⟨u,hu⟩:∃r,cr[i]? =some r:=⟨cr[i],List.getElem?_eq_getElem (by omega)⟩;have huw:=wo.ok u (List.mem_of_getElem? hu);obtain⟨b',o',cc',vs',own',tt',hv',gl',hbl',el'⟩:=wo1.elem hu;cases hv';have mlt:ah .lss (.int .i64 (i:Nat)) (.int .i64 (cr.length:Nat))=some (.bool true):=dG (by omega);have gl1:=(xJ.old _ hbl).trans gl;have gl2:=(xJ.old _ hbl').trans gl';have k1:=mU huw;have k2:=iq huw;have k3:=DO u;have k5:=zi el' (by omega) (JK huw);rw[←Nat.add_assoc]at k5;have k4:=aR huw.b.len;have C:=Pq F.rs (h:={J with log:=[]}) (.of WJ) huw;have hfH:crF (λw=>w.2) cr i=u.2:=by unfold crF;rw[hu]
 have hfL:crF (λw=>w.1) cr i=u.1:=by unfold crF;rw[hu]
 refine Y12 ?_;cases hs:sIn u.1 u.2 with
 |false=>
  have hb:iW u=true:=by unfold iW;rw[hs];rfl
  rw[if_pos (DP hu hb)];rw[hs,if_neg (by simp)]at C;refine Y7 ?_;refine FW.pu C ?_;refine Y24 ?_;exact ak hlJ rfl rfl
 |true=>
 rw[hs,if_pos rfl]at C;by_cases hem:u.2=s0
 ·have hb:iW u=true:=by unfold iW;rw[decide_eq_true hem,Bool.or_true]
  rw[if_pos (DP hu hb)];refine Y7 ?_;refine FW.pu C ?_;refine Y15 ?_;refine aA (j0 (b:=s0) (by exact rfl) (by exact rfl) huw.b.len rfl) ?_;rw[decide_eq_true hem];refine Y15 ?_;exact ak hlJ rfl rfl
 have hb:iW u=false:=by unfold iW;rw[hs,decide_eq_false hem];rfl
 have hno1:=any_succ hu hno hb;refine Y7 ?_;refine FW.pu C ?_;clear C;refine Y15 ?_;refine aA (j0 (b:=s0) (by exact rfl) (by exact rfl) huw.b.len rfl) ?_;rw[decide_eq_false hem];have p1:=iH hxw;have p2:=kn hxw;have p3:=dV hxw;have p4:=jj x;refine Y5 ?_;refine aX (E0:=[(1, .slice (some ⟨b',o',none⟩) cr.length c2),(2, .pointer (some ⟨h.next,0,none⟩)),(7, .pointer (some ⟨h1.next,0,none⟩)),(8, .pointer (some ⟨h1.next+1,0,none⟩)),(9, .int .i64 (i:Nat)),(10, .pointer (some ⟨J.next,0,none⟩))]) (P:=λh'=>Ext J h'∧h'.next=J.next+1/\h'.get J.next=some (.cells (spL x) true 1)) ?_ ?_
 ·refine Y7 ?_;refine aA (bh (by exact rfl) (by exact rfl) YG (by assumption) (by exact rfl) (by exact cg _)) ?_;refine aO ?_;refine y1 ?_;exact⟨rfl,rfl,rfl,dI (by omega) _ _,rfl,ef _ _⟩
 rintro J1 ⟨wy1',nJ1,g10⟩;have W1':=wy1'.wf WJ;have gl3:=(wy1'.old _ (by have:=xJ.next;omega)).trans gl2;clear p1 p2 p4 k1 k2 k3 gl1;have zz:∀(y:Sp) (s:List Nat),IsS y.cB->IsS s->(Nat.beq (bK (cellsOf (sv s))) 8&&Nat.ble (0+2+8) (bK (spL y))&&cK (cellsOf (sv s)))=true:=λy s hy hs'=>by
  have e:cellsOf (sv s)=us s:=by show(us s).toArray.toList=_;simp
  rw[e,bM,bM,aI,hs'.len,dV hy,cg,eT (by omega)];rfl
 have zw:∀(y:Sp) (s:List Nat),IsS y.cB->IsS s->bZ (spL y) (0+2) (cellsOf (sv s))=spL ⟨y.id,y.size,s⟩:=λy s hy hs'=>by
  have e:cellsOf (sv s)=us s:=by show(us s).toArray.toList=_;simp
  rw[e];exact DJ hy hs'
 refine aX (E0:=[(1, .slice (some ⟨b',o',none⟩) cr.length c2),(2, .pointer (some ⟨h.next,0,none⟩)),(7, .pointer (some ⟨h1.next,0,none⟩)),(8, .pointer (some ⟨h1.next+1,0,none⟩)),(9, .int .i64 (i:Nat)),(10, .pointer (some ⟨J.next,0,none⟩))]) (P:=λh'=>Ext J h'∧h'.next=J.next+1/\h'.get J.next=some (.cells (spL ⟨x.id,x.size,u.2⟩) true 1)) ?_ ?_
 ·refine Y7 ?_;refine aA (dZ (by exact rfl) (by exact rfl) g10 (zz x u.2 hxw huw.b) (zw x u.2 hxw huw.b)) ?_;refine aO ?_;refine y1 ?_;exact⟨rfl,rfl,rfl,wy1'.wr (Nat.le_refl _) (by omega),nJ1,Heap.aB g10⟩
 clear g10 nJ1 wy1' W1' gl3 J1;rintro J2 ⟨wy2',nJ2,g10⟩;have W2:=wy2'.wf WJ;have hl2:=wy2'.log.trans hlJ;have xJ2:=xJ.trans wy2';have q1:=iH (x:=⟨x.id,x.size,u.2⟩) huw.b;have q2':=kn (x:=⟨x.id,x.size,u.2⟩) huw.b;have q3:=dV (x:=⟨x.id,x.size,u.2⟩) huw.b;have q4:=jj ⟨x.id,x.size,u.2⟩;have two2:=two.keep (H':=J2) wy2'.next (λz _ hz=>wy2'.old z hz)
 have g72:=(wy2'.old _ (by omega)).trans g7;have g82:=(wy2'.old _ (by omega)).trans g8;have leH:=jm (crF (λw=>w.2) cr) ss i;have leL:=jm (crF (λw=>w.1) cr) ss i;have hvl:=λq a c hq=>(tK (q:=q) (a:=a) (c:=c) two.a hq).2;have hwl:=λq a c hq=>(tK (q:=q) (a:=a) (c:=c) two.b hq).2;have hstH:gY (crF (λw=>w.2) cr) ss (i+1)=gY (crF (λw=>w.2) cr) ss i++[⟨x.id,x.size,u.2⟩]:=by
  rw[kG hx,hfH,show mu u.2 x=[⟨x.id,x.size,u.2⟩]from if_neg hem]
 have hstL:gY (crF (λw=>w.1) cr) ss (i+1)=gY (crF (λw=>w.1) cr) ss i++mu u.1 x:=by
  rw[kG hx,hfL]
 clear two g7 g8 hfH hfL;refine aX (E0:=[(1, .slice (some ⟨b',o',none⟩) cr.length c2),(2, .pointer (some ⟨h.next,0,none⟩)),(7, .pointer (some ⟨h1.next,0,none⟩)),(8, .pointer (some ⟨h1.next+1,0,none⟩)),(9, .int .i64 (i:Nat)),(10, .pointer (some ⟨J.next,0,none⟩))]) (P:=λh'=>∃v',Ext h1 h'∧J.next+1<=h'.next/\h'.get J.next=some (.cells (spL ⟨x.id,x.size,u.2⟩) true 1)/\h'.get h1.next=some (.cells [.slice a1 os.length c1,v', .int .i64 r] true 1)/\h'.get (h1.next+1)=some (.cells [.slice a1 os.length c1,w, .int .i64 r] true 1)/\pE (h1.next+2) h' v' w (gY (crF (λw=>w.2) cr) ss (i+1)) (gY (crF (λw=>w.1) cr) ss i)/\∀q a c,v'= .slice (some ⟨q,0,none⟩) a c->q≠J.next) ?_ ?_
 ·rw[hstH];have twoP:=two2.keep (H':=J2.push (.cells (spL ⟨x.id,x.size,u.2⟩) true 10)) (Nat.le_succ _) (λz _ hz=>z4 hz);refine Y4 ?_;refine aA (qi (m:=10) (uq q3 rfl (by exact rfl)) rfl) ?_;skip;refine oz (lo:=h1.next+2) (sz:=10) (v:=v) (c1:=spL ⟨x.id,x.size,u.2⟩) twoP.a (by omega) (by omega) (by omega) (by omega) (by exact rfl) (by exact rfl) (kF (n:=1) (cs:=spL ⟨x.id,x.size,u.2⟩) YG q2' q3) q3 q4 ?_;intro h6 o6 n6 l6 w6 k6;have ey6:Lx (h1.next+2) J2 h6:=((Lx.refl (h1.next+2) J2).push (by omega) _).trans (Hq twoP.a n6 l6 w6 k6 (by show h1.next+2<=J2.next+1;omega));have t6:=twoP.push (by show h1.next+2<=J2.next+1;omega) o6 n6 k6;have r7:=(ey6.old _ (by omega)).trans g72;have r8:=(ey6.old _ (by omega)).trans g82;have r10:h6.get J.next=some (.cells (spL ⟨x.id,x.size,u.2⟩) true 1):=(k6 J.next (by show J.next<J2.next+1;omega) (λq a c hq=>by have:=hvl q a c hq;omega)).trans ((z4 (by omega)).trans g10)
  have n66:h6.next=J2.next+2:=n6
  clear k6 twoP two2 o6 w6;refine Y2 ?_;refine aO ?_;refine y1 ?_;refine⟨rfl,rfl,rfl,_,(((xJ2.lx (Nat.le_refl _)).trans (ey6.mono (by omega))).ext).wr (by omega) (by omega),by show J.next+1<=h6.next;omega,(z5 (by omega)).trans r10,Heap.aB r7,(z5 (by omega)).trans r8,t6.keep ?_ ?_,λq a c hq=> ?_⟩
  ·exact Nat.le_refl _
  ·intro z hz _;exact z5 (by omega)
  ·cases hq;show J2.next+1≠J.next;omega
 clear g72 g82 two2 g10 xJ2 W2 hl2 q1 q2' q3 q4 nJ2 wy2' J2 hvl hv1 hon7;rintro J3 ⟨v',x3,nJ3,g10,g7,g8,two,hne⟩;have W3:=x3.wf W1;have hl3:=x3.log.trans hl1;have gl3:=(x3.old _ hbl').trans gl';have k5:=zi el' (by omega) (Mb huw);rw[←Nat.add_assoc]at k5;have k4:=aR huw.a.len;refine aX (E0:=[(1, .slice (some ⟨b',o',none⟩) cr.length c2),(2, .pointer (some ⟨h.next,0,none⟩)),(7, .pointer (some ⟨h1.next,0,none⟩)),(8, .pointer (some ⟨h1.next+1,0,none⟩)),(9, .int .i64 (i:Nat)),(10, .pointer (some ⟨J.next,0,none⟩))]) (P:=λh'=>Ext h1 h'∧J.next+1<=h'.next/\h'.get J.next=some (.cells (spL ⟨x.id,x.size,u.1⟩) true 1)/\h'.get h1.next=some (.cells [.slice a1 os.length c1,v', .int .i64 r] true 1)/\h'.get (h1.next+1)=some (.cells [.slice a1 os.length c1,w, .int .i64 r] true 1)/\pE (h1.next+2) h' v' w (gY (crF (λw=>w.2) cr) ss (i+1)) (gY (crF (λw=>w.1) cr) ss i)) ?_ ?_
 ·refine Y7 ?_;refine aA (dZ (by exact rfl) (by exact rfl) g10 (zz ⟨x.id,x.size,u.2⟩ u.1 huw.b huw.a) (zw ⟨x.id,x.size,u.2⟩ u.1 huw.b huw.a)) ?_;refine aO ?_;refine y1 ?_;refine⟨rfl,rfl,rfl,x3.wr (by omega) (by omega),nJ3,Heap.aB g10,(z5 (by omega)).trans g7,(z5 (by omega)).trans g8,two.back (Nat.le_refl _) (λq a c hq _=>z5 (hne q a c hq)) (λq a c hq _=>z5 (by have:=hwl q a c hq;omega))⟩
 clear g10 g7 g8 two hne gl3 k4 k5 W3 hl3 x3 nJ3 J3;rintro J4 ⟨x4,nJ4,g10,g7,g8,two⟩;have W4:=x4.wf W1;have hl4:=x4.log.trans hl1;have q1:=iH (x:=⟨x.id,x.size,u.1⟩) huw.a;have q2':=kn (x:=⟨x.id,x.size,u.1⟩) huw.a;have q3:=dV (x:=⟨x.id,x.size,u.1⟩) huw.a;have q4:=jj ⟨x.id,x.size,u.1⟩;have q5:=lu (x:=⟨x.id,x.size,u.1⟩) huw.a;have q6:=aR huw.a.len;have q5':bB 8 (bA (0+2) (spL ⟨x.id,x.size,u.1⟩))=us u.1:=q5;have leL:=jm (crF (λw=>w.1) cr) ss i;have leH:=jm (crF (λw=>w.2) cr) ss (i+1);by_cases hsz:u.1=s0
 ·rw[show mu u.1 x=[]from if_pos hsz,List.append_nil]at hstL;refine Y4 ?_;refine aA (j0 (b:=s0) (by exact rfl) (by exact rfl) huw.a.len rfl) ?_;rw[decide_eq_true hsz];refine Y10 ?_;exact⟨ss.length-(i+1),by omega,i+1,by omega,rfl,rfl,rfl,hno1,x4,by omega,v',w,g7,g8,by rw[hstL];exact two⟩
 rw[show mu u.1 x=[⟨x.id,x.size,u.1⟩]from if_neg hsz]at hstL;have twoP:=(two.keep (H':=J4.push (.cells (spL ⟨x.id,x.size,u.1⟩) true 10)) (Nat.le_succ _) (λz _ hz=>z4 hz)).swap;refine Y4 ?_;refine aA (j0 (b:=s0) (by exact rfl) (by exact rfl) huw.a.len rfl) ?_;rw[decide_eq_false hsz];refine Y6 ?_;refine aA (qi (m:=10) (uq q3 rfl (by exact rfl)) rfl) ?_;skip;refine oz (lo:=h1.next+2) (sz:=10) (v:=w) (c1:=spL ⟨x.id,x.size,u.1⟩) twoP.a (by omega) (by omega) (by omega) (by omega) (by exact rfl) (by exact rfl) (kF (n:=1) (cs:=spL ⟨x.id,x.size,u.1⟩) YG q2' q3) q3 q4 ?_;intro h6 o6 n6 l6 w6 k6;have ey6:Lx (h1.next+2) J4 h6:=((Lx.refl (h1.next+2) J4).push (by omega) _).trans (Hq twoP.a n6 l6 w6 k6 (by show h1.next+2<=J4.next+1;omega));have t6:=(twoP.push (by show h1.next+2<=J4.next+1;omega) o6 n6 k6).swap;have r7:=(ey6.old _ (by omega)).trans g7;have r8:=(ey6.old _ (by omega)).trans g8;have n66:h6.next=J4.next+2:=n6
 clear k6 twoP two o6 w6;refine Y2 ?_;refine aO ?_;refine Y8 ?_;refine⟨ss.length-(i+1),by omega,i+1,by omega,rfl,rfl,rfl,hno1,(((x4.lx (Nat.le_refl _)).trans (ey6.mono (by omega))).ext).wr (by omega) (by omega),by show h1.next+2<=h6.next;omega,v',_,(z5 (by omega)).trans r7,Heap.aB r8,?_⟩;rw[hstL];refine t6.keep ?_ ?_
 ·exact Nat.le_refl _
 ·intro z hz _;exact z5 (by omega)
structure FE (T:Nat->Option af):Prop where
 nu:sK T
 n7:FH T
 f15:T 3=some f15
 f21:T 6=some (.mQ pSd)
 f66:T 5=some f66
theorem QB(F:FE T){h:Heap}(hr:Rdy h)(hg:Tab h)(h2:0<h.next){ov sv' cv:Value}{os:List Od}{ss:List Sp}{cr:List Wd}{r:Int}(so:OdS h ov os)(ho:os.length<4611686018427387904)(sp:SpS h sv' ss)(hs:ss.length<4611686018427387904)(wo:WoS h cv cr)(hc:cr.length<4611686018427387904):
 Pu T 3 [seV ov sv' r,cv] h (.bool true):=by
 have hp:=F.nu.le.bk.cs.df.rt.p;refine .of hp F.f15 hr rfl ?_;obtain⟨a1,c1,rfl⟩:=so.form;obtain⟨a,c,rfl⟩:=sp.form;obtain⟨a2,c2,rfl⟩:=wo.form;refine aX (E0:=[(1, .slice a2 cr.length c2),(2, .pointer (some ⟨h.next,0,none⟩))]) (P:=λh'=>Ext h h'∧h'.next=h.next+1/\h'.get h.next=some (.cells [.slice a1 os.length c1, .slice a ss.length c, .int .i64 r] true 1)) ?_ ?_
 ·refine Y3 ?_;refine aO ?_;refine y1 ?_;exact⟨rfl,rfl,rfl,(Ext.refl h).push _,rfl,z3 h _⟩
 rintro h1 ⟨x1,n1,g2⟩;have W1:=x1.wf hr.wf;have hl1:=x1.log.trans hr.log;have CS:Pu T 6 [] {h1 with log:=[]} (.bool true):=TV F.f21 (show Tab h1 from(x1.old 0 h2).trans hg);have so1:=so.ext x1;have sp1:=sp.ext x1;have wo1:=wo.ext x1;have C6:=Qm hp F.f66 (h:={h1 with log:=[]}) (.of W1) (r:=r) (a:=5) (b:=3) (so1.log []) (sp1.log []);by_cases hfew:(decide ((os.length:Int)<=5)&&decide ((ss.length:Int)<=3))=true;case neg=>
  rw[show(decide ((os.length:Int)<=5)&&decide ((ss.length:Int)<=3))=false by simpa using hfew]at C6;refine Y4 ?_;refine FW.pu C6 ?_;refine Y10 ?_;refine FW.pu CS ?_;refine Y4 ?_;exact ak hl1 rfl rfl
 rw[hfew]at C6;have hss:ss.length<=3:=by
  rw[Bool.and_eq_true]at hfew;have:=of_decide_eq_true hfew.2;omega
 by_cases q3:5<cr.length
 ·have m3:ah .gtr (.int .i64 (cr.length:Nat)) (.int .i64 5)=some (.bool true):=kP (by omega);refine Y4 ?_;refine FW.pu C6 ?_;refine Y13 ?_;refine FW.pu CS ?_;refine Y4 ?_;exact ak hl1 rfl rfl
 have m3:ah .gtr (.int .i64 (cr.length:Nat)) (.int .i64 5)=some (.bool false):=jB (by omega);have C1:=Et F.nu (h:={h1 with log:=[]}) (.of W1) (show Tab h1 from(x1.old 0 h2).trans hg) (by show 0<h1.next;omega) (r:=r) (so1.log []) ho (sp1.log []) (by omega) (wo1.log []) hc;have C2:=Eu F.n7 (h:={h1 with log:=[]}) (.of W1) (r:=r) (so1.log []) ho (sp1.log []) (by omega) (wo1.log []) hc;generalize nmT os ss cr r=p at*;obtain⟨wz1,wz2,wz3⟩:=p;have p1:ah .eql (.int .i64 wz1) (.int .i64 wz1)=some (.bool true):=nU rfl;have p2:ah .eql (.int .i64 wz2) (.int .i64 wz2)=some (.bool true):=nU rfl;have p3:ah .eql (.int .i64 wz3) (.int .i64 wz3)=some (.bool true):=nU rfl;unfold nmV at C1 C2;dsimp only at C1 C2;refine Y4 ?_;refine FW.pu C6 ?_;refine Y17 ?_;refine FW.pu C1 ?_;refine Y12 ?_;refine FW.pu C2 ?_;refine Y10 ?_;refine FW.pu CS ?_;refine Y27 ?_;exact ak hl1 rfl rfl
end Go.A.Pk
end
section
namespace Go.A.Pk
open Go Go.Proofs Go.Joins Go.ChangeShapes Go.WideShapes Go.RowKit Go.Deep
end Go.A.Pk
end
section
namespace Go.A.Pk
open Go Go.Proofs Go.Joins Go.ChangeShapes Go.WideShapes Go.RowKit Go.Deep
section
variable {H:Type} {enc:TypeId×Value->H} {W:World} {base:Nat} {spare:Nat->Bool} {held:Bool}
theorem CZ:Tryz.prog.cellsOf 41=16:=by kernel_rfl
theorem CA{fuel:Nat}{cs:List Value}{x:DataW H×List MemPlace}(h:DataW.trod enc Tryz.prog W base spare held fuel 41 cs=some x):∃w:List Nat×List Nat,IsW w/\cs=wL w:=by
 obtain⟨xs,n,_,hx,hcl,hlen,hg⟩:=DataW.trod_struct Tryz.underlying41 h;rw[CZ]at hcl
 match cs,hcl with
 |[c0,c1,c2,c3,c4,c5,c6,c7,c8,c9,c10,c11,c12,c13,c14,c15],_=>
  match xs,hlen with
  |[yq0,yq1],_=>
   have g0:DataW.trod enc Tryz.prog W base spare held n 36 [c0,c1,c2,c3,c4,c5,c6,c7]=some yq0:=by have:=hg 0 _ rfl;simpa[qq]using this
   have g1:DataW.trod enc Tryz.prog W base spare held n 36 [c8,c9,c10,c11,c12,c13,c14,c15]=some yq1:=by have:=hg 1 _ rfl;simpa[qq]using this
   obtain⟨s0,h0,e0⟩:=lK g0;obtain⟨s1,h1,e1⟩:=lK g1;refine⟨(s0,s1),⟨h0,h1⟩,?_⟩;show _=us s0++us s1;rw[←e0,←e1];rfl
end
end Go.A.Pk
end
section
namespace Go.A.Pk
open Go Go.Proofs Go.Joins Go.ChangeShapes Go.WideShapes Go.RowKit Go.Deep
theorem Ak{α:Type}{cL:α->List Value}{k:Nat}:∀{l:List α},(∀a∈l,(cL a).length=k)->(l.flatMap cL).length=l.length*k
 |[],_=>by simp
 |a::l,h=>by
  rw[List.flatMap_cons,List.length_append,h a List.mem_cons_self,Ak λx hx=>h x (List.mem_cons_of_mem _ hx),List.length_cons,Nat.add_mul];omega
theorem Aj{α:Type}{cL:α->List Value}{k:Nat}:∀{l:List α} {i j:Nat} {a:α},(∀a∈l,(cL a).length=k)->l[i]? =some a->j<k->(l.flatMap cL)[i*k+j]? =(cL a)[j]?
 |[],i,j,a,_,h,_=>by simp at h
 |b::l,0,j,a,hl,h,hj=>by
  simp at h;subst h;rw[List.flatMap_cons,Nat.zero_mul,Nat.zero_add,List.getElem?_append_left (by rw[hl b List.mem_cons_self];exact hj)]
 |b::l,i+1,j,a,hl,h,hj=>by
  have hb:=hl b List.mem_cons_self;rw[List.flatMap_cons,List.getElem?_append_right (by rw[hb,Nat.add_mul];omega),hb,show(i+1)*k+j-k=i*k+j by rw[Nat.add_mul];omega];exact Aj (λx hx=>hl x (List.mem_cons_of_mem _ hx)) (by simpa using h) hj
section
variable {H:Type} {enc:TypeId×Value->H} {W:World} {base:Nat} {held:Bool}
theorem pR{α:Type}[Inhabited α]{st et k bsz:Nat}(hu:Tryz.prog.underlying st=some (.slice et))(hk:Tryz.prog.cellsOf et=k)(hk0:0<k)(hbs:Tryz.prog.bytesOf et=bsz)(hb0:0<bsz)(ok:α->Prop)(cL:α->List Value)(hlen:∀a,ok a->(cL a).length=k)(hno:∀a,∀v∈cL a,cT v=true)
 (hel:∀{fuel:Nat} {cs:List Value} {x:DataW H×List MemPlace},DataW.trod enc Tryz.prog W 0 (λ_=>true) held fuel et cs=some x->∃a,ok a/\cs=cL a)
 {v:Value}{d:DataW H}{p:List MemPlace}(hv:Value.okWide Tryz.prog W .any base st v)(h:DataW.Trod enc Tryz.prog W 0 (λ_=>true) held st v d p)(hz:∀n∈d.weights Tryz.prog st,n<=reachBytes):∃l:List α,iI W k v l.length (l.flatMap cL)/\∀a∈l,ok a:=by
 have hcell:Cell.okWide Tryz.prog W .any base st v:=by
  simpa only[Value.okWide,hu]using hv
 obtain⟨a0,len0,cap0,rfl⟩:=okWide_slice hu hv;obtain⟨fuel,hf⟩:=h;have hf:DataW.trod enc Tryz.prog W 0 (λ_=>true) held fuel st [.slice a0 len0 cap0]=some (d,p):=by simpa[Value.cells]using hf
 rcases open_slice hu hf with⟨h2,_⟩|⟨a,len,cap,m,n',D,Pl,h2,_,hl,hcap,hm,hy,hx⟩
 ·cases h2;exact⟨[], .nil,λx hx=>by cases hx⟩
 ·cases h2;simp only[Cell.okWide,Cell.ok,hu,World.has]at hcell;obtain⟨_,_,_,hspot,row,cells,hsh,_⟩:=hcell;obtain⟨b,o,sp⟩:=a;simp only at hspot hsh;subst hspot;rw[if_pos rfl]at hm;subst hm;have hcapU:m*bsz<=reachBytes:=by
   refine hz (m*bsz) ?_;cases hy;simp only[DataW.weights,hu,hbs,List.length_map,List.length_range,show len0+(m-len0)=m by omega];simp
  have hmU:m<UNK:=by
   have:m*1<=m*bsz:=Nat.mul_le_mul_left _ hb0;unfold reachBytes at hcapU;unfold UNK;omega
  obtain⟨c,el,fz,hheap⟩:∃c el fz,W.heap[b]? =some (.cells c el fz):=by
   unfold World.shape? at hsh;split at hsh
   ·rename_i c el fz he;exact⟨c,el,fz,he⟩
   ·cases hsh
  obtain⟨f,hf⟩:=choose_lt (α:=α) (n:=len0) (p:=λi x=>ok x/\∀j,j<k->c[o+(i*k+j)]? =(cL x)[j]?) (λi hi=>by
   obtain⟨cs',hc,ht⟩:=hx i (by omega);obtain⟨x,hx2,hxk⟩:=hel ht;subst hxk;refine⟨x,hx2,λj hj=> ?_⟩;rw[hk]at hc;obtain⟨_,_,hat⟩:=World.cells?_some hc;have:=hat j hj;rw[add_eq,add_eq]at this;rw[←this,Nat.add_assoc];unfold World.cell?;simp only[hheap];rfl)
  by_cases h0:len0=0
  ·subst h0;exact⟨[], .empty hheap hmU,λx hx=>by cases hx⟩
  ·have hll:((List.range len0).map f).length=len0:=by simp
   have hok:∀r∈(List.range len0).map f,ok r:=λx hx=>by
    obtain⟨i,hi,rfl⟩:=List.mem_map.1 hx;exact(hf i (List.mem_range.1 hi)).1
   refine⟨(List.range len0).map f,?_,hok⟩;rw[hll];refine .full hheap h0 (by rw[Ak λa ha=>hlen a (hok a ha),hll]) hk0 hl hmU (λj hj=> ?_) (λv hv=> ?_)
   ·have h5:j / k<len0:=by rw[Nat.div_lt_iff_lt_mul hk0];exact hj
    have e1:j=j / k*k+j % k:=(Nat.div_add_mod' j k).symm;have g1:=(hf (j / k) h5).2 (j % k) (Nat.mod_lt _ hk0);have g2:=Aj (cL:=cL) (k:=k) (l:=(List.range len0).map f) (i:=j / k) (j:=j % k) (a:=f (j / k)) (λa ha=>hlen a (hok a ha)) (by simp[h5]) (Nat.mod_lt _ hk0);rw[←e1]at g1 g2;rw[g1,g2]
   ·obtain⟨a,_,ha⟩:=List.mem_flatMap.1 hv;exact hno a v ha
theorem qP(s:List Nat):∀v∈us s,cT v=true:=λv hv=>by
 obtain⟨n,_,rfl⟩:=List.mem_map.1 hv;rfl
instance:Inhabited Pb:=⟨⟨[],0⟩⟩
end
theorem ND{W:World}{G:Gl}(hG:tR W G){z1 n1 z2 n2 z3 n3:Nat}{s1 s2 s3:Value}{c1 c2 c3:List Value}(h1:iI W z1 s1 n1 c1)(h2:iI W z2 s2 n2 c2)(h3:iI W z3 s3 n3 c3):
 ∃(h:Heap) (μ:Mu),R Tryz.prog μ h W/\(∀b o,h.get b=some o->o.ro=true∨o.live=false)/\Rdy h/\1000<=h.next/\(∀g vs,(g,vs)∈G->h.get g=some (.cells vs false 1))∧
 (∃a c,VR μ (.slice a n1 c) s1/\bS h z1 (.slice a n1 c) n1 c1/\c<UNK)/\(∃a c,VR μ (.slice a n2 c) s2/\bS h z2 (.slice a n2 c) n2 c2/\c<UNK)/\(∃a c,VR μ (.slice a n3 c) s3/\bS h z3 (.slice a n3 c) n3 c3/\c<UNK):=by
 obtain⟨o1,k1,q1⟩:=h1.lay hG;obtain⟨o2,k2,q2⟩:=h2.lay hG;obtain⟨o3,k3,q3⟩:=h3.lay hG;have hat:∀(A B C:List Ob) (o:Ob),B[0]? =some o->(A++B++C)[A.length]? =some o:=λA B C o ho=>by
  have hl:=(List.getElem?_eq_some_iff.1 ho).1;rw[List.append_assoc,List.getElem?_append_right (Nat.le_refl _),Nat.sub_self,List.getElem?_append_left hl];exact ho
 refine⟨obH G (o1++o2++o3),obM G (o1++o2++o3),R.obs hG λo ho=> ?_,N8 hG,KW hG _,Nat.le_add_right _ _,λg vs h=>N7 hG _ h,q1 _ 0 λo ho=> ?_,q2 _ o1.length (hat o1 o2 o3),q3 _ (o1++o2).length λo ho=> ?_⟩
 ·rcases List.mem_append.1 ho with ho|ho
  ·rcases List.mem_append.1 ho with ho|ho
   ·exact k1 _ o ho
   ·exact k2 _ o ho
  ·exact k3 _ o ho
 ·have:=hat [] o1 (o2++o3) o ho
  rwa [List.nil_append,←List.append_assoc]at this
 ·have:=hat (o1++o2) o3 [] o ho
  rwa [List.append_nil]at this
end Go.A.Pk
end
section
namespace Go.A.Pk
open Go Go.Proofs Go.Joins Go.ChangeShapes Go.WideShapes Go.RowKit Go.Deep
section
variable {H:Type} {enc:TypeId×Value->H} {W:World} {base:Nat} {held:Bool}
instance:Inhabited Od:=⟨⟨0,0,0,0,0,[]⟩⟩
instance:Inhabited Sp:=⟨⟨0,0,[]⟩⟩
theorem zW:Tryz.prog.cellsOf 135=13:=by kernel_rfl
theorem zU:Tryz.prog.cellsOf 38=10:=by kernel_rfl
theorem Gt:Tryz.prog.cellsOf 25=3:=by kernel_rfl
theorem Ki:Tryz.prog.cellsOf 22=1:=by kernel_rfl
theorem Gr:Tryz.prog.cellsOf 23=1:=by kernel_rfl
theorem Kj:Tryz.prog.cellTypes Tryz.prog.depth 25=some [22,23,3]:=by kernel_rfl
theorem AT{fuel:Nat}{cs:List Value}{spare:Nat->Bool}{x:DataW H×List MemPlace}(h:DataW.trod enc Tryz.prog W base spare held fuel 135 cs=some x):∃p:Od,IsS p.cB/\cs=odL p:=by
 obtain⟨xs,n,_,hx,hcl,hlen,hg⟩:=DataW.trod_struct Tryz.underlying135 h;rw[zW]at hcl
 match cs,hcl with
 |[c0,c1,c2,c3,c4,c5,c6,c7,c8,c9,c10,c11,c12],_=>
  match xs,hlen with
  |[y0,y1,y2,y3,y4,y5],_=>
   have g0:DataW.trod enc Tryz.prog W base spare held n 3 [c0]=some y0:=by have:=hg 0 _ rfl;simpa[nE]using this
   have g1:DataW.trod enc Tryz.prog W base spare held n 3 [c1]=some y1:=by have:=hg 1 _ rfl;simpa[nE]using this
   have g2:DataW.trod enc Tryz.prog W base spare held n 3 [c2]=some y2:=by have:=hg 2 _ rfl;simpa[nE]using this
   have g3:DataW.trod enc Tryz.prog W base spare held n 3 [c3]=some y3:=by have:=hg 3 _ rfl;simpa[nE]using this
   have g4:DataW.trod enc Tryz.prog W base spare held n 3 [c4]=some y4:=by have:=hg 4 _ rfl;simpa[nE]using this
   have g5:DataW.trod enc Tryz.prog W base spare held n 36 [c5,c6,c7,c8,c9,c10,c11,c12]=some y5:=by have:=hg 5 _ rfl;simpa[qq]using this
   obtain⟨a0,h0,_⟩:=DataW.trod_int Tryz.underlying3 g0;obtain⟨a1,h1,_⟩:=DataW.trod_int Tryz.underlying3 g1;obtain⟨a2,h2,_⟩:=DataW.trod_int Tryz.underlying3 g2;obtain⟨a3,h3,_⟩:=DataW.trod_int Tryz.underlying3 g3;obtain⟨a4,h4,_⟩:=DataW.trod_int Tryz.underlying3 g4;cases h0;cases h1;cases h2;cases h3;cases h4;obtain⟨pl,hp,h5⟩:=lK g5;refine⟨⟨a0,a1,a2,a3,a4,pl⟩,hp,?_⟩;show _=[_,_,_,_,_]++us pl;rw[←h5];rfl
theorem Bb{fuel:Nat}{cs:List Value}{spare:Nat->Bool}{x:DataW H×List MemPlace}(h:DataW.trod enc Tryz.prog W base spare held fuel 38 cs=some x):∃p:Sp,IsS p.cB/\cs=spL p:=by
 obtain⟨xs,n,_,hx,hcl,hlen,hg⟩:=DataW.trod_struct Tryz.underlying38 h;rw[zU]at hcl
 match cs,hcl with
 |[c0,c1,c5,c6,c7,c8,c9,c10,c11,c12],_=>
  match xs,hlen with
  |[y0,y1,y5],_=>
   have g0:DataW.trod enc Tryz.prog W base spare held n 3 [c0]=some y0:=by have:=hg 0 _ rfl;simpa[nE]using this
   have g1:DataW.trod enc Tryz.prog W base spare held n 3 [c1]=some y1:=by have:=hg 1 _ rfl;simpa[nE]using this
   have g5:DataW.trod enc Tryz.prog W base spare held n 36 [c5,c6,c7,c8,c9,c10,c11,c12]=some y5:=by have:=hg 2 _ rfl;simpa[qq]using this
   obtain⟨a0,h0,_⟩:=DataW.trod_int Tryz.underlying3 g0;obtain⟨a1,h1,_⟩:=DataW.trod_int Tryz.underlying3 g1;cases h0;cases h1;obtain⟨pl,hp,h5⟩:=lK g5;refine⟨⟨a0,a1,pl⟩,hp,?_⟩;show _=[_,_]++us pl;rw[←h5];rfl
theorem Er(p:Od):∀v∈odL p,cT v=true:=λv hv=>by
 rcases List.mem_append.1 hv with q|q
 ·simp only[List.mem_cons,List.not_mem_nil,or_false]at q;rcases q with rfl|rfl|rfl|rfl|rfl<;>rfl
 ·exact qP _ v q
theorem Es(p:Sp):∀v∈spL p,cT v=true:=λv hv=>by
 rcases List.mem_append.1 hv with q|q
 ·simp only[List.mem_cons,List.not_mem_nil,or_false]at q;rcases q with rfl|rfl<;>rfl
 ·exact qP _ v q
theorem HW(p:Wd):∀v∈wL p,cT v=true:=λv hv=>by
 rcases List.mem_append.1 hv with q|q
 ·exact qP _ v q
 ·exact qP _ v q
def MD(W:World)(v:Value)(l:List Od):Prop:=iI W 13 v l.length (l.flatMap odL)/\∀p∈l,IsS p.cB
def MF(W:World)(v:Value)(l:List Sp):Prop:=iI W 10 v l.length (l.flatMap spL)/\∀p∈l,IsS p.cB
def MG(W:World)(v:Value)(l:List Wd):Prop:=iI W 16 v l.length (l.flatMap wL)/\∀p∈l,IsW p
theorem AP{v:Value}{d:DataW H}{p:List MemPlace}(hv:Value.okWide Tryz.prog W .any base 22 v)(h:DataW.Trod enc Tryz.prog W 0 (λ_=>true) held 22 v d p)(hz:∀n∈d.weights Tryz.prog 22,n<=reachBytes):∃l,MD W v l:=
 pR (α:=Od) Tryz.underlying22 zW (by decide) (show Tryz.prog.bytesOf 135=104 by kernel_rfl) (by decide) (λp=>IsS p.cB) odL (λp h=>eY h) Er (λh=>AT h) hv h hz
theorem AR{v:Value}{d:DataW H}{p:List MemPlace}(hv:Value.okWide Tryz.prog W .any base 23 v)(h:DataW.Trod enc Tryz.prog W 0 (λ_=>true) held 23 v d p)(hz:∀n∈d.weights Tryz.prog 23,n<=reachBytes):∃l,MF W v l:=
 pR (α:=Sp) Tryz.underlying23 zU (by decide) (show Tryz.prog.bytesOf 38=80 by kernel_rfl) (by decide) (λp=>IsS p.cB) spL (λp h=>dV h) Es (λh=>Bb h) hv h hz
theorem B9{v:Value}{d:DataW H}{p:List MemPlace}(hv:Value.okWide Tryz.prog W .any base 26 v)(h:DataW.Trod enc Tryz.prog W 0 (λ_=>true) held 26 v d p)(hz:∀n∈d.weights Tryz.prog 26,n<=reachBytes):∃l,MG W v l:=
 pR (α:=Wd) Tryz.underlying26 CZ (by decide) (show Tryz.prog.bytesOf 41=128 by kernel_rfl) (by decide) IsW wL (λp h=>iq h) HW (λh=>CA h) hv h hz
structure ME (W:World) (v:Value) (ov sv:Value) (os:List Od) (ss:List Sp) (r:Int):Prop where
 v:v=seV ov sv r
 so:MD W ov os
 sp:MF W sv ss
theorem AQ{v:Value}{d:DataW H}{p:List MemPlace}(hv:Value.okWide Tryz.prog W .any base 25 v)(h:DataW.Trod enc Tryz.prog W 0 (λ_=>true) held 25 v d p)(hz:∀n∈d.weights Tryz.prog 25,n<=reachBytes):∃ov sv os ss r,ME W v ov sv os ss r:=by
 simp only[Value.okWide,Tryz.underlying25]at hv;obtain⟨cs,rfl,hsz,ts,hts,_,hcell⟩:=hv;rw[Kj]at hts;cases hts;obtain⟨fuel,hf⟩:=h;have hf:DataW.trod enc Tryz.prog W 0 (λ_=>true) held fuel 25 cs.toList=some (d,p):=by simpa[Value.cells]using hf
 obtain⟨xs,n,_,hx,hcl,hlen,hg⟩:=DataW.trod_struct Tryz.underlying25 hf;rw[Gt]at hcl;obtain⟨l,rfl⟩:∃l:List Value,cs=l.toArray:=⟨cs.toList,by simp⟩;rw[List.toList_toArray]at hcl hg
 match l,hcl with
 |[c0,c1,c2],_=>
  match xs,hlen with
  |[y0,y1,y2],_=>
   have g0:DataW.trod enc Tryz.prog W 0 (λ_=>true) held n 22 [c0]=some y0:=by have:=hg 0 _ rfl;simpa[Ki]using this
   have g1:DataW.trod enc Tryz.prog W 0 (λ_=>true) held n 23 [c1]=some y1:=by have:=hg 1 _ rfl;simpa[Gr]using this
   have g2:DataW.trod enc Tryz.prog W 0 (λ_=>true) held n 3 [c2]=some y2:=by have:=hg 2 _ rfl;simpa[nE]using this
   obtain⟨r,h2,_⟩:=DataW.trod_int Tryz.underlying3 g2;cases h2;have v0:Value.okWide Tryz.prog W .any base 22 c0:=by
    obtain⟨u,hu,hc⟩:=hcell 0 c0 (by simp);have e:u=22:=by simpa using hu.symm
    rw[e]at hc;simp only[Value.okWide,Tryz.underlying22];exact hc
   have v1:Value.okWide Tryz.prog W .any base 23 c1:=by
    obtain⟨u,hu,hc⟩:=hcell 1 c1 (by simp);have e:u=23:=by simpa using hu.symm
    rw[e]at hc;simp only[Value.okWide,Tryz.underlying23];exact hc
   obtain⟨a0,l0,k0,rfl⟩:=okWide_slice Tryz.underlying22 v0;obtain⟨a1,l1,k1,rfl⟩:=okWide_slice Tryz.underlying23 v1;have hd:d=DataW.agg [y0.1,y1.1,y2.1]:=congrArg Prod.fst hx;obtain⟨os,ho⟩:=AP (d:=y0.1) (p:=y0.2) v0 ⟨n,by simpa[Value.cells]using g0⟩ λk hk=>hz k (by
    rw[hd];simp only[DataW.weights,Tryz.underlying25,List.map_cons,List.map_nil,DataW.weightsEach,List.mem_append];simp[hk])
   obtain⟨ss,hs⟩:=AR (d:=y1.1) (p:=y1.2) v1 ⟨n,by simpa[Value.cells]using g1⟩ λk hk=>hz k (by
    rw[hd];simp only[DataW.weights,Tryz.underlying25,List.map_cons,List.map_nil,DataW.weightsEach,List.mem_append];simp[hk])
   exact⟨_,_,os,ss,r,⟨rfl,ho,hs⟩⟩
end
end Go.A.Pk
end
section
namespace Go.A.Pk
open Go Go.Proofs
theorem Qt:mB.h0=EC 0 (zZ.map λn=> .int .u8 (n:Nat)) 1000:=by kernel_rfl
theorem TR:Entry Tryz.prog 6 (.mQ pSd):= .mQ (IC sound (g:=0) (n:=1000) (vs:=zZ.map λn=> .int .u8 (n:Nat)) Tryz.func6 (of_decide_eq_true (by kernel_rfl)) (by kernel_rfl) qA (by decide) (by kernel_rfl) (by kernel_rfl) λargs v h h' hp=>by
 unfold pSd at hp;split at hp
 ·split at hp
  ·rename_i hT;cases hp;refine⟨rfl,hT,λa ha=>(nomatch ha),rfl,?_⟩;rw[←Qt];exact mB.run
  ·cases hp
 ·cases hp)
theorem c15:aD Tryz.prog Tryz.f3 (ksO f15)=some f15:=by kernel_rfl
theorem c31:aD Tryz.prog Tryz.f31 (ksO f31)=some f31:=by kernel_rfl
theorem c35:aD Tryz.prog Tryz.f39 (ksO f35)=some f35:=by kernel_rfl
theorem c51:aD Tryz.prog Tryz.f138 (ksO f51)=some f51:=by kernel_rfl
theorem c52:aD Tryz.prog Tryz.f59 (ksO f52)=some f52:=by kernel_rfl
theorem c66:aD Tryz.prog Tryz.f5 (ksO f66)=some f66:=by kernel_rfl
theorem c67:aD Tryz.prog Tryz.f7 (ksO f67)=some f67:=by kernel_rfl
theorem c68:aD Tryz.prog Tryz.f8 (ksO f68)=some f68:=by kernel_rfl
theorem c69:aD Tryz.prog Tryz.f10 (ksO f69)=some f69:=by kernel_rfl
theorem c84:aD Tryz.prog Tryz.f159 (ksO f84)=some f84:=by kernel_rfl
theorem RX:aD Tryz.prog Tryz.f160 (ksO f137)=some f137:=by kernel_rfl
theorem RY:aD Tryz.prog Tryz.f161 (ksO f138)=some f138:=by kernel_rfl
theorem RZ:aD Tryz.prog Tryz.f162 (ksO f139)=some f139:=by kernel_rfl
theorem R4:aD Tryz.prog Tryz.f101 (ksO f140)=some f140:=by kernel_rfl
theorem Sc:aD Tryz.prog Tryz.f24 (ksO f158)=some f158:=by kernel_rfl
theorem Sd:aD Tryz.prog Tryz.f27 (ksO f159)=some f159:=by kernel_rfl
theorem Se:aD Tryz.prog Tryz.f28 (ksO f160)=some f160:=by kernel_rfl
theorem Sf:aD Tryz.prog Tryz.f29 (ksO f161)=some f161:=by kernel_rfl
theorem Sg:aD Tryz.prog Tryz.f30 (ksO f162)=some f162:=by kernel_rfl
theorem Sh:aD Tryz.prog Tryz.f32 (ksO f163)=some f163:=by kernel_rfl
theorem Si:aD Tryz.prog Tryz.f35 (ksO f164)=some f164:=by kernel_rfl
theorem Sj:aD Tryz.prog Tryz.f36 (ksO f165)=some f165:=by kernel_rfl
theorem Sm:aD Tryz.prog Tryz.f176 (ksO f170)=some f170:=by kernel_rfl
theorem Sn:aD Tryz.prog Tryz.f183 (ksO f171)=some f171:=by kernel_rfl
theorem SP:aD Tryz.prog Tryz.f177 (ksO f221)=some f221:=by kernel_rfl
theorem SQ:aD Tryz.prog Tryz.f178 (ksO f222)=some f222:=by kernel_rfl
theorem SR:aD Tryz.prog Tryz.f179 (ksO f223)=some f223:=by kernel_rfl
theorem SS:aD Tryz.prog Tryz.f180 (ksO f224)=some f224:=by kernel_rfl
theorem SU:aD Tryz.prog Tryz.f181 (ksO f225)=some f225:=by kernel_rfl
theorem SZ:aD Tryz.prog Tryz.f58 (ksO f233)=some f233:=by kernel_rfl
theorem S0:aD Tryz.prog Tryz.f60 (ksO f234)=some f234:=by kernel_rfl
theorem S4:aD Tryz.prog Tryz.f61 (ksO f235)=some f235:=by kernel_rfl
theorem S6:aD Tryz.prog Tryz.f62 (ksO f236)=some f236:=by kernel_rfl
theorem S7:aD Tryz.prog Tryz.f63 (ksO f237)=some f237:=by kernel_rfl
theorem S8:aD Tryz.prog Tryz.f64 (ksO f238)=some f238:=by kernel_rfl
theorem S9:aD Tryz.prog Tryz.f65 (ksO f239)=some f239:=by kernel_rfl
theorem Tf:aD Tryz.prog Tryz.f184 (ksO f267)=some f267:=by kernel_rfl
theorem Tg:aD Tryz.prog Tryz.f102 (ksO f268)=some f268:=by kernel_rfl
theorem Th:aD Tryz.prog Tryz.f103 (ksO f269)=some f269:=by kernel_rfl
theorem Ti:aD Tryz.prog Tryz.f104 (ksO f270)=some f270:=by kernel_rfl
theorem Tj:aD Tryz.prog Tryz.f105 (ksO f271)=some f271:=by kernel_rfl
theorem Tk:aD Tryz.prog Tryz.f106 (ksO f272)=some f272:=by kernel_rfl
theorem Tl:aD Tryz.prog Tryz.f107 (ksO f273)=some f273:=by kernel_rfl
theorem Tm:aD Tryz.prog Tryz.f108 (ksO f274)=some f274:=by kernel_rfl
theorem Tn:aD Tryz.prog Tryz.f109 (ksO f275)=some f275:=by kernel_rfl
theorem To:aD Tryz.prog Tryz.f110 (ksO f276)=some f276:=by kernel_rfl
theorem Tp:aD Tryz.prog Tryz.f111 (ksO f277)=some f277:=by kernel_rfl
theorem Tq:aD Tryz.prog Tryz.f112 (ksO f278)=some f278:=by kernel_rfl
theorem Ts:aD Tryz.prog Tryz.f113 (ksO f279)=some f279:=by kernel_rfl
theorem Tt:aD Tryz.prog Tryz.f114 (ksO f280)=some f280:=by kernel_rfl
theorem Tx:aD Tryz.prog Tryz.f139 (ksO f323)=some f323:=by kernel_rfl
theorem Ty:aD Tryz.prog Tryz.f163 (ksO f347)=some f347:=by kernel_rfl
noncomputable def Cy:Tr:=(.node (.node (.node (.node (.node (.node (.node .nil 3 f15 .nil) 5 f66 .nil) 6 (.mQ pSd) (.node (.node .nil 7 f67 .nil) 8 f68 .nil)) 10 f69 (.node (.node (.node .nil 15 f33 .nil) 24 f158 .nil) 25 f89 (.node .nil 26 f90 .nil))) 27 f159 (.node (.node (.node (.node .nil 28 f160 .nil) 29 f161 .nil) 30 f162 (.node .nil 31 f31 .nil)) 32 f163 (.node (.node (.node .nil 35 f164 .nil) 36 f165 .nil) 39 f35 (.node .nil 40 f123 .nil)))) 44 f34 (.node (.node (.node (.node (.node .nil 58 f233 .nil) 59 f52 .nil) 60 f234 (.node (.node .nil 61 f235 .nil) 62 f236 .nil)) 63 f237 (.node (.node (.node .nil 64 f238 .nil) 65 f239 .nil) 73 f121 (.node .nil 74 f213 .nil))) 75 f214 (.node (.node (.node (.node .nil 76 f126 .nil) 77 f127 .nil) 78 f120 (.node .nil 79 f188 .nil)) 101 f140 (.node (.node (.node .nil 102 f268 .nil) 103 f269 .nil) 104 f270 (.node .nil 105 f271 .nil))))) 106 f272 (.node (.node (.node (.node (.node (.node .nil 107 f273 .nil) 108 f274 .nil) 109 f275 (.node (.node .nil 110 f276 .nil) 111 f277 .nil)) 112 f278 (.node (.node (.node .nil 113 f279 .nil) 114 f280 .nil) 119 f264 (.node .nil 120 f265 .nil))) 121 f266 (.node (.node (.node (.node .nil 122 f215 .nil) 123 f209 .nil) 124 f210 (.node .nil 125 f211 .nil)) 126 f212 (.node (.node (.node .nil 127 f254 .nil) 138 f51 .nil) 139 f323 (.node .nil 143 f261 .nil)))) 144 f262 (.node (.node (.node (.node (.node .nil 145 f263 .nil) 159 f84 .nil) 160 f137 (.node (.node .nil 161 f138 .nil) 162 f139 .nil)) 163 f347 (.node (.node (.node .nil 164 f317 .nil) 165 f318 .nil) 166 f319 (.node .nil 167 f320 .nil))) 168 f321 (.node (.node (.node (.node .nil 169 f322 .nil) 176 f170 .nil) 177 f221 (.node .nil 178 f222 .nil)) 179 f223 (.node (.node (.node .nil 180 f224 .nil) 181 f225 .nil) 183 f171 (.node .nil 184 f267 .nil))))))
noncomputable def T15:Nat->Option af:=Cy.get
abbrev zq1:=@Tr.all_nil
theorem PE:Cy.all (Entry Tryz.prog):=by
 unfold Cy;exact(Tr.aa (Tr.aa (Tr.aa (Tr.aa (Tr.aa (Tr.aa (Tr.aa zq1 (.of Tryz.func3 c15) zq1) (.of Tryz.func5 c66) zq1) TR (Tr.aa (Tr.aa zq1 (.of Tryz.func7 c67) zq1) (.of Tryz.func8 c68) zq1)) (.of Tryz.func10 c69) (Tr.aa (Tr.aa (Tr.aa zq1 (.of Tryz.func15 c33) zq1) (.of Tryz.func24 Sc) zq1) (.of Tryz.func25 c89) (Tr.aa zq1 (.of Tryz.func26 c90) zq1))) (.of Tryz.func27 Sd) (Tr.aa (Tr.aa (Tr.aa (Tr.aa zq1 (.of Tryz.func28 Se) zq1) (.of Tryz.func29 Sf) zq1) (.of Tryz.func30 Sg) (Tr.aa zq1 (.of Tryz.func31 c31) zq1)) (.of Tryz.func32 Sh) (Tr.aa (Tr.aa (Tr.aa zq1 (.of Tryz.func35 Si) zq1) (.of Tryz.func36 Sj) zq1) (.of Tryz.func39 c35) (Tr.aa zq1 (.of Tryz.func40 PK) zq1)))) (.of Tryz.func44 c34) (Tr.aa (Tr.aa (Tr.aa (Tr.aa (Tr.aa zq1 (.of Tryz.func58 SZ) zq1) (.of Tryz.func59 c52) zq1) (.of Tryz.func60 S0) (Tr.aa (Tr.aa zq1 (.of Tryz.func61 S4) zq1) (.of Tryz.func62 S6) zq1)) (.of Tryz.func63 S7) (Tr.aa (Tr.aa (Tr.aa zq1 (.of Tryz.func64 S8) zq1) (.of Tryz.func65 S9) zq1) (.of Tryz.func73 PJ) (Tr.aa zq1 (.of Tryz.func74 PU) zq1))) (.of Tryz.func75 PV) (Tr.aa (Tr.aa (Tr.aa (Tr.aa zq1 (.of Tryz.func76 PL) zq1) (.of Tryz.func77 PM) zq1) (.of Tryz.func78 PI) (Tr.aa zq1 (.of Tryz.func79 PN) zq1)) (.of Tryz.func101 R4) (Tr.aa (Tr.aa (Tr.aa zq1 (.of Tryz.func102 Tg) zq1) (.of Tryz.func103 Th) zq1) (.of Tryz.func104 Ti) (Tr.aa zq1 (.of Tryz.func105 Tj) zq1))))) (.of Tryz.func106 Tk) (Tr.aa (Tr.aa (Tr.aa (Tr.aa (Tr.aa (Tr.aa zq1 (.of Tryz.func107 Tl) zq1) (.of Tryz.func108 Tm) zq1) (.of Tryz.func109 Tn) (Tr.aa (Tr.aa zq1 (.of Tryz.func110 To) zq1) (.of Tryz.func111 Tp) zq1)) (.of Tryz.func112 Tq) (Tr.aa (Tr.aa (Tr.aa zq1 (.of Tryz.func113 Ts) zq1) (.of Tryz.func114 Tt) zq1) (.of Tryz.func119 P4) (Tr.aa zq1 (.of Tryz.func120 P5) zq1))) (.of Tryz.func121 P6) (Tr.aa (Tr.aa (Tr.aa (Tr.aa zq1 (.of Tryz.func122 PX) zq1) (.of Tryz.func123 PO) zq1) (.of Tryz.func124 PR) (Tr.aa zq1 (.of Tryz.func125 PS) zq1)) (.of Tryz.func126 PT) (Tr.aa (Tr.aa (Tr.aa zq1 (.of Tryz.func127 PY) zq1) (.of Tryz.func138 c51) zq1) (.of Tryz.func139 Tx) (Tr.aa zq1 (.of Tryz.func143 PZ) zq1)))) (.of Tryz.func144 P0) (Tr.aa (Tr.aa (Tr.aa (Tr.aa (Tr.aa zq1 (.of Tryz.func145 P3) zq1) (.of Tryz.func159 c84) zq1) (.of Tryz.func160 RX) (Tr.aa (Tr.aa zq1 (.of Tryz.func161 RY) zq1) (.of Tryz.func162 RZ) zq1)) (.of Tryz.func163 Ty) (Tr.aa (Tr.aa (Tr.aa zq1 (.of Tryz.func164 P7) zq1) (.of Tryz.func165 P8) zq1) (.of Tryz.func166 P9) (Tr.aa zq1 (.of Tryz.func167 Qa) zq1))) (.of Tryz.func168 Qb) (Tr.aa (Tr.aa (Tr.aa (Tr.aa zq1 (.of Tryz.func169 Qc) zq1) (.of Tryz.func176 Sm) zq1) (.of Tryz.func177 SP) (Tr.aa zq1 (.of Tryz.func178 SQ) zq1)) (.of Tryz.func179 SR) (Tr.aa (Tr.aa (Tr.aa zq1 (.of Tryz.func180 SS) zq1) (.of Tryz.func181 SU) zq1) (.of Tryz.func183 Sn) (Tr.aa zq1 (.of Tryz.func184 Tf) zq1))))))
theorem fS:ew Tryz.prog T15:=sD (by kernel_rfl) PE
theorem Qq:FE T15:={nu:={le:={md:={au:={so:={co:={p:=fS.aV,f188:=by kernel_rfl,f254:=by kernel_rfl},f323:=by kernel_rfl,f347:=by kernel_rfl},f280:=by kernel_rfl},f239:=by kernel_rfl,f165:=by kernel_rfl},bk:={cs:={df:={rt:={p:=fS.aV,f273:=by kernel_rfl,f274:=by kernel_rfl,f276:=by kernel_rfl,f277:=by kernel_rfl,f278:=by kernel_rfl,f279:=by kernel_rfl},f272:=by kernel_rfl,f275:=by kernel_rfl},f237:=by kernel_rfl},fm:={fi:={ft:={mp:={cp:={p:=fS.aV,f123:=by kernel_rfl,f213:=by kernel_rfl,f214:=by kernel_rfl,f264:=by kernel_rfl,f265:=by kernel_rfl,f266:=by kernel_rfl},tu:={p:=fS.aV,f263:=by kernel_rfl,f317:=by kernel_rfl,f318:=by kernel_rfl,f319:=by kernel_rfl,f320:=by kernel_rfl,f321:=by kernel_rfl,f322:=by kernel_rfl},f126:=by kernel_rfl,f127:=by kernel_rfl,f211:=by kernel_rfl,f215:=by kernel_rfl,f261:=by kernel_rfl,f262:=by kernel_rfl},bd:={cp:={p:=fS.aV,f123:=by kernel_rfl,f213:=by kernel_rfl,f214:=by kernel_rfl,f264:=by kernel_rfl,f265:=by kernel_rfl,f266:=by kernel_rfl},f210:=by kernel_rfl},li:={p:=fS.aV,f212:=by kernel_rfl},co:={p:=fS.aV,f188:=by kernel_rfl,f254:=by kernel_rfl},f35:=by kernel_rfl,f121:=by kernel_rfl,f209:=by kernel_rfl},f34:=by kernel_rfl,f120:=by kernel_rfl},f238:=by kernel_rfl},f164:=by kernel_rfl},f69:=by kernel_rfl},wd:={fi:={ft:={mp:={cp:={p:=fS.aV,f123:=by kernel_rfl,f213:=by kernel_rfl,f214:=by kernel_rfl,f264:=by kernel_rfl,f265:=by kernel_rfl,f266:=by kernel_rfl},tu:={p:=fS.aV,f263:=by kernel_rfl,f317:=by kernel_rfl,f318:=by kernel_rfl,f319:=by kernel_rfl,f320:=by kernel_rfl,f321:=by kernel_rfl,f322:=by kernel_rfl},f126:=by kernel_rfl,f127:=by kernel_rfl,f211:=by kernel_rfl,f215:=by kernel_rfl,f261:=by kernel_rfl,f262:=by kernel_rfl},bd:={cp:={p:=fS.aV,f123:=by kernel_rfl,f213:=by kernel_rfl,f214:=by kernel_rfl,f264:=by kernel_rfl,f265:=by kernel_rfl,f266:=by kernel_rfl},f210:=by kernel_rfl},li:={p:=fS.aV,f212:=by kernel_rfl},co:={p:=fS.aV,f188:=by kernel_rfl,f254:=by kernel_rfl},f35:=by kernel_rfl,f121:=by kernel_rfl,f209:=by kernel_rfl},f34:=by kernel_rfl,f120:=by kernel_rfl},f33:=by kernel_rfl,f89:=by kernel_rfl,f90:=by kernel_rfl},f158:=by kernel_rfl,f159:=by kernel_rfl,f233:=by kernel_rfl,f160:=by kernel_rfl,f161:=by kernel_rfl,f162:=by kernel_rfl,f67:=by kernel_rfl},n7:={le:={cu:={ck:={r:={p:=fS.aV,f268:=by kernel_rfl,f269:=by kernel_rfl,f270:=by kernel_rfl},f234:=by kernel_rfl},rf:={tr:={cr:={hr:={p:=fS.aV,f171:=by kernel_rfl,f225:=by kernel_rfl},f170:=by kernel_rfl},f137:=by kernel_rfl,f139:=by kernel_rfl,f221:=by kernel_rfl,f222:=by kernel_rfl,f223:=by kernel_rfl,f224:=by kernel_rfl,f267:=by kernel_rfl},f51:=by kernel_rfl,f52:=by kernel_rfl,f84:=by kernel_rfl,f138:=by kernel_rfl,f140:=by kernel_rfl,f225:=by kernel_rfl},f271:=by kernel_rfl},f235:=by kernel_rfl,f236:=by kernel_rfl,f163:=by kernel_rfl},rs:={rf:={tr:={cr:={hr:={p:=fS.aV,f171:=by kernel_rfl,f225:=by kernel_rfl},f170:=by kernel_rfl},f137:=by kernel_rfl,f139:=by kernel_rfl,f221:=by kernel_rfl,f222:=by kernel_rfl,f223:=by kernel_rfl,f224:=by kernel_rfl,f267:=by kernel_rfl},f51:=by kernel_rfl,f52:=by kernel_rfl,f84:=by kernel_rfl,f138:=by kernel_rfl,f140:=by kernel_rfl,f225:=by kernel_rfl},f31:=by kernel_rfl},f68:=by kernel_rfl},f15:=by kernel_rfl,f21:=by kernel_rfl,f66:=by kernel_rfl}
open Go.RowKit in
theorem vH{W:World}(V:vJ W){sl1 sl2 ov sv':Value}{os:List Od}{ss:List Sp}{r:Int}(h1:ME W sl1 ov sv' os ss r){cr:List Wd}(h2:MG W sl2 cr):Calls Tryz.prog 3 #[sl1,sl2] W λe W'=>e= .returned (.bool true)/\Below W.heap.size W W':=by
 obtain⟨rfl,hso,hsp⟩:=h1;obtain⟨h,μ,hRR,hro,hrd,hnx,hgl,⟨a1,n1,hu1,hs1,hc1⟩,⟨a2,n2,hu2,hs2,hc2⟩,a3,n3,hu3,hs3,hc3⟩:=ND V.gl hso.1 hsp.1 h2.1;have hlen:∀{z n c:Nat} {a:Option Addr} {cs:List Value},bS h z (.slice a n c) n cs->c<UNK->n<4611686018427387904:=λhs hc=>by
  rcases bS.inv hs with⟨_,_,h0,_⟩|⟨b,o,cap,hv,_,hc'⟩
  ·rw[h0];decide
  ·cases hv;unfold UNK at hc;omega
 obtain⟨_,_,⟨m,hm⟩,rfl,rfl⟩:=QB Qq hrd (hgl 0 _ List.mem_cons_self) (by omega) (r:=r) (so:=⟨hs1,hso.2⟩) (hlen hs1 hc1) ⟨hs2,hsp.2⟩ (hlen hs2 hc2) ⟨hs3,h2.2⟩ (hlen hs3 hc3);have hrun:=hm m (Nat.le_refl _);have ha:LR μ [seV (.slice a1 os.length n1) (.slice a2 ss.length n2) r, .slice a3 cr.length n3] [seV ov sv' r,sl2]:= .cons (.DY (by unfold seL;rw[List.toList_toArray,List.toList_toArray];exact .cons hu1 (.cons hu2 (.cons (.int _ _) .nil)))) (.cons hu3 .nil);refine(nj fS hrun hrd.log (by kernel_rfl) hRR ha).mono λe W' hq=> ?_;obtain⟨μ',q1,q2,q3⟩:=hq;cases e with
 |returned v'=>
  have hv:VR μ' (.bool true) v':=q1;cases hv;exact⟨rfl,St.below q3 hro⟩
 |panicked _=>exact q1.elim
 |outgrown=>exact q1.elim
end Go.A.Pk
end
