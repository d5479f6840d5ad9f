/- Walks of functions, plain laws, the table. -/
import Derived.Test.YtjancmjkjgpfpaaGreatDoorVU6
import Derived.Test.YtjancmjkjgpfpaaGreatDoorVU4
import Derived.Test.YtjancmjkjgpfpaaGreatDoorVU2
import Derived.Test.YtjancmjkjgpfpaaGreatDoorVF
import Derived.Test.YtjancmjkjgpfpaaGreatDoorVU3
import Derived.Test.YtjancmjkjgpfpaaGreatDoorVU5
import Derived.Test.YtjancmjkjgpfpaaGreatDoorVU0
import Derived.Test.YtjancmjkjgpfpaaGreatDoorVH
import Derived.Test.YtjancmjkjgpfpaaGreatDoorVT
import Derived.KernelRfl
import Derived.Test.YtjancmjkjgpfpaaGreatDoorVD
set_option linter.all false
set_option maxHeartbeats 16000000
set_option maxRecDepth 100000
section
namespace Go.A.Pk
variable {T:Nat->Option an}
structure Xo (H G:Heap) (f g:List Nat):Prop where
 wf:WF G
 log:G.log=[]
 next:G.next=H.next+2
 old:∀z,z<H.next->G.get z=H.get z
 gf:G.get H.next=some (.cells (ints (cst f)) true 1)
 ga:G.get (H.next+1)=some (.cells (ints (cst g)) true 1)
theorem rT(f:List Nat):(ints (cst f)).length=f.length:=by rw[CX,rS]
theorem RU{u n:Nat}(h:n≠0):aq .rem (.int .u64 (u:Nat)) (.int .u64 (n:Nat))=some (.int .u64 ((u % n:Nat):Int)):=by
 have e:(u:Int).tmod n=((u % n:Nat):Int):=by rw[Int.tmod_eq_emod_of_nonneg (by omega)];rfl
 have e2:¬ (n:Int)=0:=by omega
 simp[aq,arith,e,e2,h]
theorem US{u k:Nat}:aq .eql (.int .u64 ((Nat.land (Nat.shiftRight u k) 1:Nat):Int)) (.int .u64 1)=some (.bool (Nat.testBit u k)):=by
 have e:Nat.testBit u k=decide (Nat.land (Nat.shiftRight u k) 1=1):=by
  have h1:Nat.land (Nat.shiftRight u k) 1=u / 2 ^ k % 2:=by
   show(u>>>k)&&&1=_;rw[Nat.and_one_is_mod,Nat.shiftRight_eq_div_pow]
  rw[h1,Nat.testBit_eq_decide_div_mod_eq]
 rw[e];exact wJ rfl
structure Qz (T:Nat->Option an):Prop where
 cp:rG T
 f71:T 7=some f71
 f124:T 25=some f124
theorem L8(F:Qz T){h:Heap}(hr:Rdy h)(hg:Tab h)(h2:0<h.next){w:List Nat×List Nat}(hw:IsW w){u:Nat}(hu:u<18446744073709551616):Pu T 7 [wV w, .int .u64 (u:Nat)] h (sv (sJ w u)):=by
 have hp:=F.cp.p;refine .of hp F.f71 hr (ja _) ?_;have hwc:cellsOf (wV w)=wL w:=by show(wL w).toArray.toList=_;simp
 have x0:Ext h ((h.push (.cells (cellsOf (wV w)) true 1)).push (.cells (aK 8 (.int .u64 0)) true 1)):=((Ext.refl h).push _).push _;have g0:((h.push (.cells (cellsOf (wV w)) true 1)).push (.cells (aK 8 (.int .u64 0)) true 1)).get h.next=some (.cells (wL w) true 1):=by rw[hwc];exact(z4 (Nat.lt_succ_self _)).trans (z3 h _)
 have g1:((h.push (.cells (cellsOf (wV w)) true 1)).push (.cells (aK 8 (.int .u64 0)) true 1)).get (h.next+1)=some (.cells (aK 8 (.int .u64 0)) true 1):=z3 _ _;have n0:((h.push (.cells (cellsOf (wV w)) true 1)).push (.cells (aK 8 (.int .u64 0)) true 1)).next=h.next+2:=rfl
 have hnx:(h.push (.cells (cellsOf (wV w)) true 1)).next=h.next+1:=rfl
 refine Y4 ?_;generalize((h.push (.cells (cellsOf (wV w)) true 1)).push (.cells (aK 8 (.int .u64 0)) true 1))=H at*;rw[hnx];clear hnx;have W:=x0.wf hr.wf;have hL:=x0.log.trans hr.log;have k1:=No hw;have k2:=bA hw.a.len;have kn:=hw.a.len;have k3:=Np hw;have k4:=bA hw.b.len;refine cW (E0:=[(1, .int .u64 (u:Nat)),(2, .pointer (some ⟨h.next,0,none⟩)),(4, .pointer (some ⟨h.next+1,0,none⟩)),(5, .pointer (some ⟨H.next,0,none⟩))]) (P:=λh'=>Ext H h'∧h'.next=H.next+1/\h'.get H.next=some (.cells (us w.1) true 1)) ?_ ?_
 ·refine Y4 ?_;refine aD (bZ (by exact rfl) (by exact rfl) YG (by(simp only[aH];assumption)) (by exact rfl) (by exact dB _)) ?_;refine bL ?_;refine y1 ?_;exact⟨rfl,rfl,rfl,ff (by omega) _ _,rfl,fO _ _⟩
 rintro H1 ⟨x1,n1,g5⟩;have y1':=x0.trans x1;have W1:=y1'.wf hr.wf;have hL1:=x1.log.trans hL;have ga:=(x1.old _ (by omega)).trans g0;have gb:=(x1.old _ (by omega)).trans g1;have C0:=Ge hp F.f124 (h:={H1 with log:=[]}) (.of W1) hw.b hw.a;have hls:=hw.b.less hw.a;have C:=JC F.cp (h:={H1 with log:=[]}) (.of W1) (show Tab H1 from hg.ext y1' h2) (by show 0<H1.next;omega) hls;have hin:∀c∈aU (fH w.2 w.1) 512,inG c=true:=λc hc=>jQ hc;have hle:=lK (fH w.2 w.1) 512;unfold sJ;generalize aU (fH w.2 w.1) 512=l at*;have ws:=hw.a;generalize w.1=s at*;clear g0 g1;refine Y7 ?_;refine FW.pu C0 ?_;clear C0;skip;refine yC ?_;refine FW.al C (λv h' m q=>q.log m) ?_;rintro v H2 x2 q;clear C;have y2':=y1'.trans x2;have hL2:=x2.log.trans hL1;have n2:=x2.next
 have gb2:=(x2.old _ (by omega)).trans gb;have g52:=(x2.old _ (by omega)).trans g5;obtain⟨a,cc,rfl⟩:=(q.slice (by omega)).form;clear ga gb g5;refine Y4 ?_
 refine cM (λm e ds h'=>∃j:Nat,j<=l.length/\l.length-j=m/\e=[(1, .int .u64 (u:Nat)),(4, .pointer (some ⟨h.next+1,0,none⟩)),(5, .pointer (some ⟨H.next,0,none⟩)),(15, .slice a l.length cc),(16, .int .i64 (l.length:Nat)),(17, .int .i64 (j:Nat))]/\ds=[]/\Ext h h'∧H1.next<=h'.next/\h'.get (h.next+1)=some (.cells (aK 8 (.int .u64 0)) true 1)/\h'.get H.next=some (.cells (us (kL u 0 (l.take j) s)) true 1)/\Own H1.next h' 3 (.slice a l.length cc) l.length (ceS l))
  ⟨0,Nat.zero_le _,rfl,rfl,rfl,y2',n2,gb2,g52,q⟩ ?_
 rintro m e ds h' ⟨j,hj,rfl,rfl,rfl,x,hn,gc,gd,ow⟩;have Wh:=x.wf hr.wf;have hLh:=x.log.trans hr.log;clear gb2 g52 q;by_cases hlt:j<l.length
 ·obtain⟨c,hc⟩:∃c,l[j]? =some c:=⟨l[j]'hlt,List.getElem?_eq_getElem _⟩;have hcl:=hin c (List.mem_of_getElem? hc);obtain⟨b,o,c2,vs,own,tt,hv,gl,hbl,el,_,_,_⟩:=CeQ.elem (ow.slice (by omega)) hc;cases hv;have hO:IsS (kL u 0 (l.take j) s):=(sK ws λd hd=>hin d (List.mem_of_mem_take hd)).1;have hs1:=zK (u:=u) (i:=0) (s:=s) hc;rw[Nat.zero_add]at hs1;generalize kL u 0 (l.take j) s=out at*;have mlt:aq .lss (.int .i64 (j:Nat)) (.int .i64 (l.length:Nat))=some (.bool true):=ei (by omega);obtain⟨z,i,hz,hi,rfl⟩:=iF hcl;have ckl:Nat.beq (cm (ceL (eN z i))) 3=true:=rfl;have ku:fN .u64 ((j:Nat):Int)=((j:Nat):Int):=nH (by omega);have mr:aq .rem (.int .u64 (j:Nat)) (.int .u64 64)=some (.int .u64 ((j % 64:Nat):Int)):=RU (n:=64) (by omega);have hj64:j % 64<64:=Nat.mod_lt _ (by omega);have mb:=US (u:=u) (k:=j % 64);have msh:=sw (a:=u) (n:=j % 64) (k:= .u64) (by omega);have mand:aq .and (.int .u64 ((Nat.shiftRight u (j % 64):Nat):Int)) (.int .u64 1)=some (.int .u64 ((Nat.land (Nat.shiftRight u (j % 64)) 1:Nat):Int)):=qy (b:=1) (Nat.lt_of_le_of_lt (Nat.shiftRight_le _ _) hu) (by omega);generalize j % 64=q64 at*;generalize Nat.land (Nat.shiftRight u q64) 1=uu at*;generalize Nat.shiftRight u q64=us2 at*;refine Y9 ?_;refine cW (E0:=[(1, .int .u64 (u:Nat)),(4, .pointer (some ⟨h.next+1,0,none⟩)),(5, .pointer (some ⟨H.next,0,none⟩)),(6, .int .i64 (j:Nat)),(7, .pointer (some ⟨h'.next,0,none⟩)),(15, .slice (some ⟨b,o,none⟩) l.length cc),(16, .int .i64 (l.length:Nat)),(17, .int .i64 (j:Nat))]) (P:=λh''=>Ext h' h''∧h''.next=h'.next+1/\h''.get h'.next=some (.cells (ceL (eN z i)) true 1)) ?_ ?_
  ·refine Y3 ?_;refine aD (dh (by exact rfl) (by assumption) (by assumption) (by exact rfl)) ?_;refine Y3 ?_;refine bL ?_;refine y1 ?_;exact⟨rfl,rfl,rfl,ff (by omega) _ _,rfl,fO _ _⟩
  rintro G ⟨xh,nn,gn⟩;have gd2:=(xh.old _ (by omega)).trans gd;have gc2:=(xh.old _ (by omega)).trans gc;have ow2:=ow.ext xh;have xx:=x.trans xh;cases hb:Nat.testBit u q64 with
  |false=>
   rw[hb]at mb hs1;rw[if_neg (by simp)]at hs1;refine Y3 ?_;refine aD (vF (by exact rfl) (by assumption)) ?_;refine Y13 ?_;exact⟨l.length-(j+1),by omega,j+1,by omega,rfl,rfl,rfl,xx,by omega,gc2,by rw[hs1];exact gd2,ow2⟩
  |true=>
   rw[hb]at mb hs1;rw[if_pos rfl]at hs1;have e1:=mR (jY (s:=out) (i:=z) (by rw[hO.len];exact hz));have kk1:aq .mul (.int .i64 8) (.int .i64 (eN z i).y)=some (.int .i64 (8*((i / 8:Nat):Int))):=KT (a:=8) (b:=((i / 8:Nat):Int)) (by omega) (by omega);have kk2:aq .add (.int .i64 (8*((i / 8:Nat):Int))) (.int .i64 (eN z i).x)=some (.int .i64 ((i:Nat):Int)):=kK (a:=8*((i / 8:Nat):Int)) (b:=((i % 8:Nat):Int)) (by rw[ct]<;>omega);have kk3:=KX (k:= .i64) hi;have lz:bH (ceL (eN z i)) (0+2)=some (.int .i64 ((z:Nat):Int)):=rfl;have m1:=RR (a:=out.getD z 0) (b:=2 ^ i) (hO.jZ z) (xz hi);have kw:=BM (o:=out) (z:=z) (v:=Nat.lor (out.getD z 0) (2 ^ i)) (by rw[hO.len];exact hz);rw[←vk out hi]at kw;have kc:(Nat.beq (cm (cellsOf (.int .u64 ((Nat.lor (out.getD z 0) (2 ^ i):Nat):Int)))) 1&&Nat.ble (0+z*1+1) (cm (us out))&&dY (cellsOf (.int .u64 ((Nat.lor (out.getD z 0) (2 ^ i):Nat):Int))))=true:=by
    rw[bS (us out),aH,hO.len,fu (by omega)];rfl
   refine Y3 ?_;refine aD (vF (by exact rfl) (by assumption)) ?_;refine Y20 ?_;refine gI (vs:=us out) (ws:=us (oh out (eN z i))) rfl rfl rfl (by exact rfl) (by exact rfl) (by exact rfl) gd2 kc kw (by omega) (by(repeat apply aG rfl);exact bh) ?_;refine Y8 ?_;exact⟨l.length-(j+1),by omega,j+1,by omega,rfl,rfl,rfl,xx.wr (by omega) (by omega),by show H1.next<=G.next;omega,(z5 (by omega)).trans gc2,by rw[hs1];exact Heap.aI gd2,ow2.keep (Nat.le_refl _) λz hz _=>z5 (by omega)⟩
 ·obtain rfl:j=l.length:=by omega
  have mlt:aq .lss (.int .i64 (l.length:Nat)) (.int .i64 (l.length:Nat))=some (.bool false):=eH (by omega);rw[List.take_length]at gd;have hO:IsS (kL u 0 l s):=(sK ws hin).1;generalize kL u 0 l s=out at*;have ko8:=bA hO.len;have ko9:=bV hO.len;have kon:=hO.len;refine Y10 ?_;refine y4 ?_;refine yV ?_;refine aD (bZ (by exact rfl) (by exact rfl) (by assumption) (by(simp only[aH];assumption)) (by exact rfl) (by exact dB _)) ?_;refine y3 ?_;refine tZ ?_;refine aA ?_ (dF (own:=true) (s:=1) rfl ?_ ko9 ko8 rfl) rfl
  ·rw[Heap.aB (by omega)];exact hLh
  ·exact YG
structure FD (T:Nat->Option an):Prop where
 co:Qx T
 st:QC T
 ju:IZ T
 av:IV T
 ca:IX T
 pl:FC T
 pi:Qz T
 f17:T 3=some f17
 f70:T 4=some (.kT pSd)
theorem SA{n:Nat}{h:Heap}(hf:T n=some (.kT pSd))(hg:Tab h):Pu T n [] h (.bool true):=by
 refine⟨_,_,⟨1,λk hk=> ?_⟩,rfl,rfl⟩;obtain⟨i,rfl⟩:∃i,k=i+1:=⟨k-1,by omega⟩;simp only[iU,hf,pSd,if_pos hg]
def tpT:aR:=tlC (tlC (tlC (tlC (tlC (tlC (tlC (tlC (tlC (tlC (tlC (tlC (cdF f17))))))))))))
theorem P3(F:FD T){base:Nat}{H:Heap}(W:WF H)(hL:H.log=[])(hT:Tab H)(h2:0<H.next)(hbs:base<=H.next){w:List Nat×List Nat}{l:List Pb}{os:List (List Nat)}(K:VaK w l os){t f:List Nat}(ht:IsS t)(t1:Sub w.1 t)(t2:Sub t w.2)
 {a a2:Option Addr}{c c2 q p4 p13:Nat}(sp:PbS H (.slice a l.length c) l)(so:SsQ H (.slice a2 os.length c2) os)(ho4:os.length<=4)(g4:H.get p4=some (.cells (wL w) true 1))(g13:H.get p13=some (.cells (us t) true 1))
 (sf:aJ H 1 (.slice (some ⟨q,0,none⟩) l.length l.length) l.length (ints (cst f)))(hon:td t l f)(hv:bF w l (os.map (bQ w)) (cO f)=0){V paid:Int}(hV:bF w l (os.map (bQ w)) z8=V)(hVl:V<100000)(hpd:paid<=V){v11 v16 v17 v73:Value}:
 WE T base none tpT (N8 [(8,none)] (.bool true)) [(1, .slice a l.length c),(2, .slice a2 os.length c2),(4, .pointer (some ⟨p4,0,none⟩)),(9, .int .i64 V),(11,v11),(13, .pointer (some ⟨p13,0,none⟩)),(14, .slice (some ⟨q,0,none⟩) l.length l.length),(15, .int .i64 paid),(16,v16),(17,v17),(73,v73)] [] H:=by
 have l5:=K.l5;have h8:l.length<=8:=by omega
 have wk:=lY K.hw;have wkl:=jh K.hw;obtain⟨js,hj,hjl,hjs⟩:=Nc K ht t1 t2 so.ok hon hv;have sf1:aJ H 1 (.slice (some ⟨q,0,none⟩) l.length l.length) (cst f).length (ints (cst f)):=by rw[rS,hon.len];exact sf
 have C1:=Kt F.ju (h:={H with log:=[]}) (.of W) (show Tab H from hT) (by show 0<H.next;omega) K.hw (sp.log []) (by omega) (sf1.log []) (by rw[rS,hon.len];omega) (so.log []) (by omega);rw[hj]at C1;dsimp only at C1;have p4n:=W.bK g4;have p13n:=W.bK g13;unfold tpT tlC cdF f17;dsimp only;refine Y6 ?_;refine FW.al C1 (λv h' m ⟨u,e,q⟩=>⟨u,e,q.log m⟩) ?_;clear C1;rintro _ H1 x1 ⟨u1,rfl,q1⟩;have q1:Own H.next H1 1 u1 js.length (fL js):=q1
 rw[hjl]at q1;have s1:=q1.slice (by omega);obtain⟨b1,d1,rfl⟩:=s1.form;have W1:=x1.wf W;have hL1:=x1.log.trans hL;have n1:=x1.next
 have g41:=(x1.old _ (by omega)).trans g4;have g131:=(x1.old _ (by omega)).trans g13;have so1:=so.ext x1;have m0:aq .neq (.int .i64 0) (.int .i64 0)=some (.bool false):=rfl;have m1:aq .gtr (.int .i64 paid) (.int .i64 V)=some (.bool false):=ji (by omega);have m2:aq .neq (.int .i64 (os.length:Nat)) (.int .i64 (os.length:Nat))=some (.bool false):=tK rfl;have kt8:=bA ht.len;have kt9:=bV ht.len;refine Y39 ?_;refine Y2 ?_
 refine cM (λm e ds h'=>∃i:Nat,i<=os.length/\os.length-i=m/\e=[(1, .slice a l.length c),(2, .slice a2 os.length c2),(4, .pointer (some ⟨p4,0,none⟩)),(9, .int .i64 V),(13, .pointer (some ⟨p13,0,none⟩)),(20, .slice b1 os.length d1),(160, .slice a2 os.length c2),(161, .int .i64 (os.length:Nat)),(162, .int .i64 (i:Nat))]/\ds=[]/\Ext H1 h')
  ⟨0,Nat.zero_le _,rfl,rfl,rfl, .refl _⟩ ?_
 rintro m e ds J ⟨i,hi,rfl,rfl,rfl,xJ⟩;have WJ:=xJ.wf W1;have hLJ:=xJ.log.trans hL1;have nJ:=xJ.next
 have g4J:=(xJ.old _ (by omega)).trans g41;have g13J:=(xJ.old _ (by omega)).trans g131;have hTJ:Tab J:=hT.ext (x1.trans xJ) h2;by_cases hlt:i<os.length
 ·obtain⟨o,hoi⟩:∃r,os[i]? =some r:=⟨os[i],List.getElem?_eq_getElem hlt⟩;have ho:=so.ok o (List.mem_of_getElem? hoi);obtain⟨j,hji⟩:∃r,js[i]? =some r:=⟨js[i]'(by omega),List.getElem?_eq_getElem (by omega)⟩;obtain⟨ho0,hcase⟩:=hjs i j o hoi hji;obtain⟨p1,o1,t1',vs1,own1,tt1,hv1,gl1,hb1,el1⟩:=Gz (s1.ext xJ) (Ux hji);cases hv1;obtain⟨p3,o3,t3,vs3,own3,tt3,hv3,gl3,hb3,el3⟩:=(so1.ext xJ).elem hoi;cases hv3;have ko8:=bA ho.len;have ko9:=bV ho.len;have kon:=ho.len;have mlt:aq .lss (.int .i64 (i:Nat)) (.int .i64 (os.length:Nat))=some (.bool true):=ei (by omega);have xJ1:=ff (h:=J) (base:=base) (by omega) (.cells (aK 8 (.int .u64 0)) true 1) (.cells (us o) true 1);have gJ1:=fO (h:=J) (base:=base) (aK 8 (.int .u64 0)) (us o);have nJ1:((J.push (.cells (aK 8 (.int .u64 0)) true 1)).wr base J.next (.cells (us o) true 1)).next=J.next+1:=rfl
  refine Y15 ?_;refine aD (bZ (by exact rfl) (by exact rfl) YG (by(simp only[aH];assumption)) (by exact rfl) (by exact dB _)) ?_;refine y3 ?_;generalize((J.push (.cells (aK 8 (.int .u64 0)) true 1)).wr base J.next (.cells (us o) true 1))=G at*;have xG:=xJ.trans xJ1;have WG:=xJ1.wf WJ;have hLG:=xJ1.log.trans hLJ;have g13G:=(xJ1.old _ (by omega)).trans g13J;have C:=DC F.pl (h:={G with log:=[]}) (.of WG) (show Tab G from hTJ.ext xJ1 (by omega)) (by show 0<G.next;omega) ht ho;have hpf:=Pc ht ho ho0;have hpl:=xq t o;have hpe:Ib o=0:=by unfold Ib;rw[if_neg ho0]
  rw[hpe]at C;refine Y4 ?_;refine FW.al C (λv h' m ⟨u,e,q⟩=>⟨u,e,q.log m⟩) ?_;clear C;rintro _ J2 xJ2 ⟨u2,rfl,q2⟩;obtain⟨a7,c7,rfl⟩:=OwS.form q2;have hLJ2:=xJ2.log.trans hLG;have gl12:=((xJ1.trans xJ2).old _ hb1).trans gl1;have xx:=xG.trans xJ2;rcases hcase with⟨rfl,hf⟩|⟨rfl,hf⟩
  ·rw[hf]at hpf;have hpos:0<(nw t o).length:=of_decide_eq_true hpf.symm;generalize(nw t o).length=np at*;have mg:aq .gtr (.int .i64 (np:Nat)) (.int .i64 0)=some (.bool true):=jD (by omega);refine Y39 ?_;refine aD (I8 (by exact rfl) (by exact rfl)) ?_;refine Y10 ?_;exact⟨os.length-(i+1),by omega,i+1,by omega,rfl,rfl,rfl,xx⟩
  ·rw[hf]at hpf;have hpos:¬0<(nw t o).length:=of_decide_eq_false hpf.symm;generalize(nw t o).length=np at*;have mg:aq .gtr (.int .i64 (np:Nat)) (.int .i64 0)=some (.bool false):=ji (by omega);refine Y39 ?_;refine aD (I8 (by exact rfl) (by exact rfl)) ?_;refine Y10 ?_;exact⟨os.length-(i+1),by omega,i+1,by omega,rfl,rfl,rfl,xx⟩
 ·obtain rfl:i=os.length:=by omega
  have mlt:aq .lss (.int .i64 (os.length:Nat)) (.int .i64 (os.length:Nat))=some (.bool false):=eH (by omega);have xa:=x1.trans xJ;have spJ:=sp.ext xa;have soJ:=so.ext xa;have C5:=Ch F.av (h:={J with log:=[]}) (.of WJ) (show Tab J from hTJ) (by show 0<J.next;omega) K.hw (spJ.log []) (by omega) (soJ.log []) (by omega);refine Y15 ?_;refine FW.al C5 (λv h' lg ⟨v1,e1,e2⟩=>⟨v1,e1,e2.log lg⟩) ?_;clear C5;rintro _ G xG ⟨u,rfl,O⟩;rw[K.ok];have nG:=xG.next
  have WG:=xG.wf WJ;have hLG:=xG.log.trans hLJ;have hTG:Tab G:=hTJ.ext xG (by omega);have g4G:=(xG.old _ (by omega)).trans g4J;obtain⟨a5,c5,hu⟩:=O.form;subst hu;have hav:=K.adv (cost:=V) (by rw[hV];exact Int.le_refl _) (λq=>by rw[hV]at q;omega);have C8:=N0 F.ca (h:={G with log:=[]}) (.of WG) (show Tab G from hTG) (by show 0<G.next;omega) K.hw ((spJ.ext xG).log []) (by omega) ((soJ.ext xG).log []) (by omega) (O.log []) (by omega) (λx hx=>by have:=hav.2.1 x hx;omega) V (b:=true) (by simp only[true_iff];exact hav.2.2);have e8:caR w l os (Cf w l os) true=(true,0):=by unfold caR;rw[if_neg (λq=>q K.ok),if_neg (by omega)]
  rw[e8]at C8;have CS:Pu T 4 [] {G with log:=[]} (.bool true):=SA F.f70 (show Tab G from hTG);clear e8 hav;refine Y13 ?_;refine FW.pu C8 ?_;clear C8;refine Y8 ?_;refine FW.pu CS ?_;clear CS;refine Y19 ?_;exact aA hLG rfl rfl
structure FdH (H G:Heap) (f:List Nat):Prop where
 wf:WF G
 log:G.log=[]
 next:G.next=H.next+1
 old:∀z,z<H.next->G.get z=H.get z
 gf:G.get H.next=some (.cells (ints (cst f)) true 1)
theorem FdH.ext{H G:Heap}{f:List Nat}(q:FdH H G f)(hl:H.log=[]):Ext H G:=⟨by have:=q.next;omega,q.log.trans hl.symm,q.old,λ_=>q.wf⟩
theorem FdH.set{H G:Heap}{f:List Nat}{base:Nat}(q:FdH H G f)(hb:base<=H.next)(i k:Nat):FdH H (G.wr base H.next (.cells ((ints (cst f)).set (0+i*1) (.int .i64 ((k:Nat):Int))) true 1)) (f.set i k):=
 ⟨q.wf.as (AS.wr base _ _ _),(Heap.aB hb).trans q.log,q.next,λz hz=>(z5 (by omega)).trans (q.old z hz),by rw[ints_set,z6,q.gf];rfl⟩
theorem FdH.sf{H G:Heap}{f:List Nat}{n:Nat}(q:FdH H G f)(hn:f.length=n):aJ G 1 (.slice (some ⟨H.next,0,none⟩) n n) n (ints (cst f)):=by
 subst hn;exact .mem ⟨by rw[q.next];omega,⟨_,_,_,q.gf,by rw[aT,List.drop_zero,bI,List.take_of_length_le (by rw[rT];omega)]⟩,by rw[rT];omega⟩ (Nat.le_refl _)
def tpL:aR:=tlC (tlC (tlC (tlC (tlC (tlC (tlC (tlC (tlC (tlC (tlC (cdF f17)))))))))))
theorem GG(F:FD T){base:Nat}{H G:Heap}(W:WF H)(hL:H.log=[])(hT:Tab H)(h2:0<H.next)(hbs:base<=H.next){w:List Nat×List Nat}{l:List Pb}{os:List (List Nat)}(K:VaK w l os){t f0:List Nat}(ht:IsS t)(t1:Sub w.1 t)(t2:Sub t w.2)
 {a a2 a6:Option Addr}{c c2 c6 p4 p13:Nat}(sp:PbS H (.slice a l.length c) l)(so:SsQ H (.slice a2 os.length c2) os)(ho4:os.length<=4)(g4:H.get p4=some (.cells (wL w) true 1))(g13:H.get p13=some (.cells (us t) true 1))
 {ss:List Fk}(hss:ss=kW w l (os.map (bQ w)))(hFk:FkS H (.slice a6 ss.length c6) ss)(hsl:ss.length<=31){V at0:Int}(hV:bF w l (os.map (bQ w)) z8=V)(hVl:V<100000)(I0:TpI w l (os.map (bQ w)) t V at0 f0 0 0)(A0:FdH H G f0)(r:Env):
 WE T base none tpL (N8 [(8,none)] (.bool true)) ((1, .slice a l.length c)::(2, .slice a2 os.length c2)::(4, .pointer (some ⟨p4,0,none⟩))::(9, .int .i64 V)::(11, .slice a6 ss.length c6)::(13, .pointer (some ⟨p13,0,none⟩))::(14, .slice (some ⟨H.next,0,none⟩) l.length l.length)::(15, .int .i64 0)::(16, .int .i64 at0)::r) [] G:=by
 have hp:=F.pi.cp.p;have l5:=K.l5;have h8:l.length<=8:=by omega
 have p4n:=W.bK g4;have p13n:=W.bK g13;have kt8:=bA ht.len;have kt9:=bV ht.len;have ktn:=ht.len;unfold tpL tlC cdF f17;dsimp only;refine Y5 ?_
 refine cM (λm e ds h'=>∃(n:Nat) (at_:Int) (f:List Nat) (paid:Int),TpI w l (os.map (bQ w)) t V at_ f paid n/\n<=l.length/\l.length-n=m/\e=[(1, .slice a l.length c),(2, .slice a2 os.length c2),(4, .pointer (some ⟨p4,0,none⟩)),(9, .int .i64 V),(11, .slice a6 ss.length c6),(13, .pointer (some ⟨p13,0,none⟩)),(14, .slice (some ⟨H.next,0,none⟩) l.length l.length),(15, .int .i64 paid),(16, .int .i64 at_),(17, .int .i64 (n:Nat))]/\ds=[]/\FdH H h' f)
  ⟨0,at0,f0,0,I0,Nat.zero_le _,rfl,rfl,rfl,A0⟩ ?_
 rintro m e ds J ⟨n,at_,f,paid,I,hnl,rfl,rfl,rfl,A⟩;clear A0 I0;have xJ:=A.ext hL;have WJ:=A.wf;have hLJ:=A.log;have nJ:=A.next
 have gfJ:=A.gf;have g4J:=(xJ.old _ p4n).trans g4;have g13J:=(xJ.old _ p13n).trans g13;by_cases hat:0<=at_
 ·have mge:aq .geq (.int .i64 at_) (.int .i64 0)=some (.bool true):=tJ (by omega);obtain⟨x,p,i,b,rfl,hx,hxb,hpb,hbf,hnl2,I2⟩:=GI K.hc h8 I hat;rw[←hss]at hx;have hil:=(List.getElem?_eq_some_iff.1 hx).1;have hbl:=(List.getElem?_eq_some_iff.1 hpb).1;have hfl:=I.hon.len;have hps:=K.hs p (List.mem_of_getElem? hpb);have hpc:=K.hc p (List.mem_of_getElem? hpb);have hv0:=(jg (w:=w) (ns:=os.map (bQ w)) (hc0 K.hc) (cO (f.set b (oJ t p)))).1;have hpay:=I2.pay;have hp0:=I.p0;obtain⟨b6,o6,cc6,vs6,own6,tt6,hv6,gl6,hb6,e60,e61,e62,_⟩:=FkS.elem hFk hx;cases hv6;rw[hxb]at e60;obtain⟨b7,o7,cc7,vs7,own7,tt7,hv7,gl7,hb7,gat⟩:=sp.elem hpb;cases hv7;have k1:=gat.cells;have k2:=bA hps.len;have k3:=gat.cost;have mn5:aq .gtr (.int .i64 (n:Nat)) (.int .i64 5)=some (.bool false):=ji (by omega);have mi:aq .geq (.int .i64 (i:Nat)) (.int .i64 (ss.length:Nat))=some (.bool false):=nY (by omega);have mb0:aq .lss (.int .i64 (b:Nat)) (.int .i64 0)=some (.bool false):=eH (by omega);have mbl:aq .geq (.int .i64 (b:Nat)) (.int .i64 (l.length:Nat))=some (.bool false):=nY (by omega);have ma:aq .add (.int .i64 paid) (.int .i64 p.cost)=some (.int .i64 (paid+p.cost)):=kK (ct (by omega) (by omega));have hfs:=rT f;have gl6J:=(xJ.old _ hb6).trans gl6;have gl7J:=(xJ.old _ hb7).trans gl7;refine Y40 ?_;refine Y40 ?_;refine Y2 ?_;refine aD (oN (by exact rfl) (by exact rfl) (by assumption) (by exact rfl) (by exact rfl) (by omega)) ?_;refine y3 ?_;have A1:FdH H (J.wr base H.next (.cells ((ints (cst f)).set (0+b*1) (.int .i64 2)) true 1)) (f.set b 2):=A.set hbs b 2;generalize(J.wr base H.next (.cells ((ints (cst f)).set (0+b*1) (.int .i64 2)) true 1))=G1 at*;have x1:=A1.ext hL;have W1:=A1.wf;have gf1:=A1.gf;have gl61:=(x1.old _ hb6).trans gl6;have gl71:=(x1.old _ hb7).trans gl7;have g131:=(x1.old _ p13n).trans g13;have has1:=rT (f.set b 2);rw[List.length_set]at has1;have C:=CU hp F.ju.cb.qu.f35 F.ju.cb.qu.f121 (h:={G1 with log:=[]}) (.of W1) hps ht;clear gl6J gl7J gl6 gl7 A xJ WJ hLJ gfJ g4J g13J;refine Y18 ?_;refine FW.puD C (by(repeat apply aG rfl);exact bh) ?_;clear C;cases hin:sIn p.cells t with
  |true=>
   have e1:oJ t p=1:=by unfold oJ;rw[if_pos hin]
   rw[hin,if_pos rfl,e1]at I2;have A2:FdH H (G1.wr base H.next (.cells ((ints (cst (f.set b 2))).set (0+b*1) (.int .i64 1)) true 1)) ((f.set b 2).set b 1):=A1.set hbs b 1;rw[List.set_set]at A2;refine Y8 ?_;refine aD (oN (by exact rfl) (by exact rfl) (by assumption) (by exact rfl) (by exact rfl) (by omega)) ?_;refine Y6 ?_;refine aD (bY (by exact rfl) YG (by assumption)) ?_;refine Y5 ?_;refine bL ?_;refine Y8 ?_;exact⟨l.length-(n+1),by omega,n+1,_,_,_,I2,by omega,rfl,rfl,rfl,A2⟩
  |false=>
   have e1:oJ t p=2:=by unfold oJ;rw[if_neg (by rw[hin];simp)]
   rw[hin,if_neg (by simp),e1]at I2;refine Y9 ?_;refine bL ?_;refine Y8 ?_;exact⟨l.length-(n+1),by omega,n+1,_,_,_,I2,by omega,rfl,rfl,rfl,A1⟩
 ·have mge:aq .geq (.int .i64 at_) (.int .i64 0)=some (.bool false):=nY (by omega);obtain⟨hvz,hpd⟩:=Nb K.hc h8 I hat;refine Y11 ?_;exact P3 F WJ hLJ (hT.ext xJ h2) (by omega) (by omega) K ht t1 t2 (sp.ext xJ) (so.ext xJ) ho4 g4J g13J (A.sf I.hon.len) I.hon hvz hV hVl hpd
theorem UQ(F:FD T){h:Heap}(hr:Rdy h)(hg:Tab h)(h2:0<h.next){w:List Nat×List Nat}(hw:IsW w){pv:Value}{l:List Pb}(sp:PbS h pv l)(hlu:l.length<4611686018427387904){ov:Value}{os:List (List Nat)}(so:SsQ h ov os)(hou:os.length<4611686018427387904){u:Nat}(hu:u<18446744073709551616):
 Pu T 3 [wV w,pv,ov, .int .u64 (u:Nat)] h (.bool true):=by
 have hp:=F.pi.cp.p;refine .of hp F.f17 hr rfl ?_;have hwc:cellsOf (wV w)=wL w:=by show(wL w).toArray.toList=_;simp
 obtain⟨a,c,rfl⟩:=sp.form;obtain⟨a2,c2,rfl⟩:=so.sl.form;refine cW (E0:=[(1, .slice a l.length c),(2, .slice a2 os.length c2),(3, .int .u64 (u:Nat)),(4, .pointer (some ⟨h.next,0,none⟩))]) (P:=λh'=>Ext h h'∧h'.next=h.next+1/\h'.get h.next=some (.cells (wL w) true 1)) ?_ ?_
 ·refine Y3 ?_;refine bL ?_;refine y1 ?_;rw[hwc];exact⟨rfl,rfl,rfl,(Ext.refl h).push _,rfl,z3 _ _⟩
 rintro H ⟨x0,n0,g4⟩;have W:=x0.wf hr.wf;have hL:=x0.log.trans hr.log;have wk:=lY hw;have wkl:=jh hw;have hgH:Tab H:=hg.ext x0 h2;have sp0:=sp.ext x0;have so0:=so.ext x0;have CS:Pu T 4 [] {H with log:=[]} (.bool true):=SA F.f70 (show Tab H from hgH);by_cases hl5:5<l.length
 ·have m1:aq .gtr (.int .i64 (l.length:Nat)) (.int .i64 5)=some (.bool true):=jD (by omega);refine Y14 ?_;refine FW.pu CS ?_;refine Y4 ?_;exact aA hL rfl rfl
 have m1:aq .gtr (.int .i64 (l.length:Nat)) (.int .i64 5)=some (.bool false):=ji (by omega);by_cases ho4:4<os.length
 ·have m2:aq .gtr (.int .i64 (os.length:Nat)) (.int .i64 4)=some (.bool true):=jD (by omega);refine Y17 ?_;refine FW.pu CS ?_;refine Y4 ?_;exact aA hL rfl rfl
 have m2:aq .gtr (.int .i64 (os.length:Nat)) (.int .i64 4)=some (.bool false):=ji (by omega);clear CS;have C1:=Ru F.co (h:={H with log:=[]}) (.of W) (show Tab H from hgH) (by show 0<H.next;omega) hw (sp0.log []) (by omega) (so0.log []) (by omega);have C2:=Fs F.st (h:={H with log:=[]}) (.of W) (show Tab H from hgH) (by show 0<H.next;omega) hw (sp0.log []) (by omega) (so0.log []) (by omega);refine Y22 ?_;refine FW.pu C1 ?_;clear C1;refine Y11 ?_;refine FW.al C2 (λv h' lg ⟨v1,e1,e2⟩=>⟨v1,e1,e2.log lg⟩) ?_;clear C2;rintro _ H2 x2 ⟨v1,rfl,B2⟩;have B2:Own H.next H2 3 v1 (uP w l os).length (jt (uP w l os)):=B2
 have n2:=x2.next
 have W2:=x2.wf W;have hL2:=x2.log.trans hL;have hg2:Tab H2:=hgH.ext x2 (by omega);have g42:=(x2.old _ (by omega)).trans g4;have sp2:=sp0.ext x2;have so2:=so0.ext x2;by_cases hE:(j5 w l os).2=0;case neg=>
  have CS:Pu T 4 [] {H2 with log:=[]} (.bool true):=SA F.f70 (show Tab H2 from hg2);generalize(j5 w l os).2=er at*;have m3:aq .neq (.int .i64 er) (.int .i64 0)=some (.bool true):=jE hE;have m4:aq .eql (.int .i64 er) (.int .i64 er)=some (.bool true):=wK rfl;refine Y14 ?_;refine FW.pu CS ?_;refine Y12 ?_;exact aA hL2 rfl rfl
 obtain⟨q1,q2,q3⟩:=zi.1 hE;have K:VaK w l os:=⟨hw,by omega,nu.2 ⟨q1,q2⟩,sL (jl.1 q1).2.2.2.2,sp.ok⟩;have hcv:=JK hE;have hst:=(K.str q3).1;have hS:uP w l os=kW w l (os.map (bQ w)):=by unfold uP;rw[if_pos hE]
 rw[hE,hcv];rw[hS]at B2 hst;have hI:=P0 (w:=w) (ns:=os.map (bQ w)) (t:=sJ w u) (l:=l) (by omega) q3;have hfir:AA (kW w l (os.map (bQ w)))=if(kW w l (os.map (bQ w))).length=0 then -1 else 0:=rfl
 have hstep:=λ{at_ paid:Int} {f:List Nat} {n:Nat}=>GI (w:=w) (ns:=os.map (bQ w)) (t:=sJ w u) (l:=l) (cost:=bF w l (os.map (bQ w)) z8) (at_:=at_) (paid:=paid) (f:=f) (n:=n) K.hc (by omega);have hend:=λ{at_ paid:Int} {f:List Nat} {n:Nat}=>Nb (w:=w) (ns:=os.map (bQ w)) (t:=sJ w u) (l:=l) (cost:=bF w l (os.map (bQ w)) z8) (at_:=at_) (paid:=paid) (f:=f) (n:=n) K.hc (by omega);obtain⟨ht,t1,t2⟩:=L7 hw u (jl.1 q1).1;have B3:FkS H2 v1 (kW w l (os.map (bQ w))):=B2.slice (by omega);obtain⟨a6,c6,hv⟩:=aJ.form B3;subst hv;have hv0:bF w l (os.map (bQ w)) z8=bF w l (os.map (bQ w)) z8:=rfl;generalize hVe:bF w l (os.map (bQ w)) z8=V at*;clear hcv hE hS B2;have C3:=L8 F.pi (h:={H2 with log:=[]}) (.of W2) (show Tab H2 from hg2) (by show 0<H2.next;omega) hw hu;generalize sJ w u=t at*;have kt8:=bA ht.len;have kt9:=bV ht.len;have ktn:=ht.len;have m0:aq .neq (.int .i64 0) (.int .i64 0)=some (.bool false):=rfl;refine Y26 ?_;refine FW.pu C3 ?_;clear C3;have x3:=ff (h:=H2) (base:=h.next) (by omega) (.cells (aK 8 (.int .u64 0)) true 1) (.cells (us t) true 1);have g13:=fO (h:=H2) (base:=h.next) (aK 8 (.int .u64 0)) (us t);have n3:((H2.push (.cells (aK 8 (.int .u64 0)) true 1)).wr h.next H2.next (.cells (us t) true 1)).next=H2.next+1:=rfl
 refine aD (uj) ?_;refine aD (bZ (by exact rfl) (by exact rfl) YG (by(simp only[aH];assumption)) (by exact rfl) (by exact dB _)) ?_;refine y3 ?_;generalize((H2.push (.cells (aK 8 (.int .u64 0)) true 1)).wr h.next H2.next (.cells (us t) true 1))=H3 at*;have W3:=x3.wf W2;have hL3:=x3.log.trans hL2;have g43:=(x3.old _ (by omega)).trans g42;have B4:=aJ.ext B3 x3;refine Y3 ?_;refine aD (GQ (m:=1) (by exact rfl) (by exact rfl) (Nat.le_refl _) (by omega) (by omega) rfl) ?_;rw[zu];have A0:FdH H3 (H3.push (.cells (ints (cst (List.replicate l.length 0))) true 1)) (List.replicate l.length 0):=
  ⟨((Ext.refl H3).push _).wf W3,hL3,rfl,λz hz=>z4 hz,z3 _ _⟩
 generalize(H3.push (.cells (ints (cst (List.replicate l.length 0))) true 1))=G0 at*;by_cases h0:(kW w l (os.map (bQ w))).length=0
 ·have mg:aq .gtr (.int .i64 ((kW w l (os.map (bQ w))).length:Nat)) (.int .i64 0)=some (.bool false):=ji (by omega);rw[show AA (kW w l (os.map (bQ w)))= -1 from if_pos h0]at hI;refine Y17 ?_;exact GG F W3 hL3 (hg2.ext x3 (by omega)) (by omega) (by omega) K ht t1 t2 (sp2.ext x3) (so2.ext x3) (by omega) g43 g13 rfl B4 hst hVe q3 hI A0 _
 ·have mg:aq .gtr (.int .i64 ((kW w l (os.map (bQ w))).length:Nat)) (.int .i64 0)=some (.bool true):=jD (by omega);rw[show AA (kW w l (os.map (bQ w)))=0 from if_neg h0]at hI;refine Y18 ?_;exact GG F W3 hL3 (hg2.ext x3 (by omega)) (by omega) (by omega) K ht t1 t2 (sp2.ext x3) (so2.ext x3) (by omega) g43 g13 rfl B4 hst hVe q3 hI A0 _
end Go.A.Pk
end
section
namespace Go.A.Pk
open Go Go.Proofs Go.Joins Go.ChangeShapes Go.WideShapes Go.RowKit Go.Deep
end Go.A.Pk
end
section
namespace Go.A.Pk
open Go Go.Proofs Go.Joins Go.ChangeShapes Go.WideShapes Go.RowKit Go.Deep
section
variable {H:Type} {enc:TypeId×Value->H} {W:World} {base:Nat} {spare:Nat->Bool} {held:Bool}
theorem NY:Tryz.prog.cellsOf 26=16:=by kernel_rfl
theorem Fv{fuel:Nat}{cs:List Value}{x:DataW H×List MemPlace}(h:DataW.trod enc Tryz.prog W base spare held fuel 26 cs=some x):∃w:List Nat×List Nat,IsW w/\cs=wL w:=by
 obtain⟨xs,n,_,hx,hcl,hlen,hg⟩:=DataW.trod_struct Tryz.underlying26 h;rw[NY]at hcl
 match cs,hcl with
 |[c0,c1,c2,c3,c4,c5,c6,c7,c8,c9,c10,c11,c12,c13,c14,c15],_=>
  match xs,hlen with
  |[yq0,yq1],_=>
   have g0:DataW.trod enc Tryz.prog W base spare held n 24 [c0,c1,c2,c3,c4,c5,c6,c7]=some yq0:=by have:=hg 0 _ rfl;simpa[rO]using this
   have g1:DataW.trod enc Tryz.prog W base spare held n 24 [c8,c9,c10,c11,c12,c13,c14,c15]=some yq1:=by have:=hg 1 _ rfl;simpa[rO]using this
   obtain⟨s0,h0,e0⟩:=mE g0;obtain⟨s1,h1,e1⟩:=mE g1;refine⟨(s0,s1),⟨h0,h1⟩,?_⟩;show _=us s0++us s1;rw[←e0,←e1];rfl
theorem HZ{v:Value}{d:DataW H}{p:List MemPlace}(hv:Value.okWide Tryz.prog W .any base 26 v)(h:DataW.Trod enc Tryz.prog W 0 spare held 26 v d p):∃w:List Nat×List Nat,IsW w/\v=wV w:=by
 obtain⟨cs,rfl,_⟩:=okWide_struct Tryz.underlying26 hv;obtain⟨fuel,hf⟩:=h;have hf:DataW.trod enc Tryz.prog W 0 spare held fuel 26 cs.toList=some (d,p):=by simpa[Value.cells]using hf
 obtain⟨w,hw,e⟩:=Fv hf;refine⟨w,hw,?_⟩;have hcs:cs=cs.toList.toArray:=by simp
 rw[hcs,e];rfl
end
end Go.A.Pk
end
section
namespace Go.A.Pk
open Go Go.Proofs Go.Joins Go.ChangeShapes Go.WideShapes Go.RowKit Go.Deep
theorem CJ{α:Type}{cL:α->List Value}{k:Nat}:∀{l:List α},(∀a∈l,(cL a).length=k)->(l.flatMap cL).length=l.length*k
 |[],_=>by simp
 |a::l,h=>by
  rw[List.flatMap_cons,List.length_append,h a List.mem_cons_self,CJ λx hx=>h x (List.mem_cons_of_mem _ hx),List.length_cons,Nat.add_mul];omega
theorem CI{α:Type}{cL:α->List Value}{k:Nat}:∀{l:List α} {i j:Nat} {a:α},(∀a∈l,(cL a).length=k)->l[i]? =some a->j<k->(l.flatMap cL)[i*k+j]? =(cL a)[j]?
 |[],i,j,a,_,h,_=>by simp at h
 |b::l,0,j,a,hl,h,hj=>by
  simp at h;subst h;rw[List.flatMap_cons,Nat.zero_mul,Nat.zero_add,List.getElem?_append_left (by rw[hl b List.mem_cons_self];exact hj)]
 |b::l,i+1,j,a,hl,h,hj=>by
  have hb:=hl b List.mem_cons_self;rw[List.flatMap_cons,List.getElem?_append_right (by rw[hb,Nat.add_mul];omega),hb,show(i+1)*k+j-k=i*k+j by rw[Nat.add_mul];omega];exact CI (λx hx=>hl x (List.mem_cons_of_mem _ hx)) (by simpa using h) hj
section
variable {H:Type} {enc:TypeId×Value->H} {W:World} {base:Nat} {held:Bool}
theorem xe{α:Type}[Inhabited α]{st et k bsz:Nat}(hu:Tryz.prog.underlying st=some (.slice et))(hk:Tryz.prog.cellsOf et=k)(hk0:0<k)(hbs:Tryz.prog.bytesOf et=bsz)(hb0:0<bsz)(ok:α->Prop)(cL:α->List Value)(hlen:∀a,ok a->(cL a).length=k)(hno:∀a,∀v∈cL a,cG v=true)
 (hel:∀{fuel:Nat} {cs:List Value} {x:DataW H×List MemPlace},DataW.trod enc Tryz.prog W 0 (λ_=>true) held fuel et cs=some x->∃a,ok a/\cs=cL a)
 {v:Value}{d:DataW H}{p:List MemPlace}(hv:Value.okWide Tryz.prog W .any base st v)(h:DataW.Trod enc Tryz.prog W 0 (λ_=>true) held st v d p)(hz:∀n∈d.weights Tryz.prog st,n<=reachBytes):∃l:List α,jw W k v l.length (l.flatMap cL)/\∀a∈l,ok a:=by
 have hcell:Cell.okWide Tryz.prog W .any base st v:=by
  simpa only[Value.okWide,hu]using hv
 obtain⟨a0,len0,cap0,rfl⟩:=okWide_slice hu hv;obtain⟨fuel,hf⟩:=h;have hf:DataW.trod enc Tryz.prog W 0 (λ_=>true) held fuel st [.slice a0 len0 cap0]=some (d,p):=by simpa[Value.cells]using hf
 rcases open_slice hu hf with⟨h2,_⟩|⟨a,len,cap,m,n',D,Pl,h2,_,hl,hcap,hm,hy,hx⟩
 ·cases h2;exact⟨[], .nil,λx hx=>by cases hx⟩
 ·cases h2;simp only[Cell.okWide,Cell.ok,hu,World.has]at hcell;obtain⟨_,_,_,hspot,row,cells,hsh,_⟩:=hcell;obtain⟨b,o,sp⟩:=a;simp only at hspot hsh;subst hspot;rw[if_pos rfl]at hm;subst hm;have hcapU:m*bsz<=reachBytes:=by
   refine hz (m*bsz) ?_;cases hy;simp only[DataW.weights,hu,hbs,List.length_map,List.length_range,show len0+(m-len0)=m by omega];simp
  have hmU:m<UNK:=by
   have:m*1<=m*bsz:=Nat.mul_le_mul_left _ hb0;unfold reachBytes at hcapU;unfold UNK;omega
  obtain⟨c,el,fz,hheap⟩:∃c el fz,W.heap[b]? =some (.cells c el fz):=by
   unfold World.shape? at hsh;split at hsh
   ·rename_i c el fz he;exact⟨c,el,fz,he⟩
   ·cases hsh
  obtain⟨f,hf⟩:=choose_lt (α:=α) (n:=len0) (p:=λi x=>ok x/\∀j,j<k->c[o+(i*k+j)]? =(cL x)[j]?) (λi hi=>by
   obtain⟨cs',hc,ht⟩:=hx i (by omega);obtain⟨x,hx2,hxk⟩:=hel ht;subst hxk;refine⟨x,hx2,λj hj=> ?_⟩;rw[hk]at hc;obtain⟨_,_,hat⟩:=World.cells?_some hc;have:=hat j hj;rw[add_eq,add_eq]at this;rw[←this,Nat.add_assoc];unfold World.cell?;simp only[hheap];rfl)
  by_cases h0:len0=0
  ·subst h0;exact⟨[], .empty hheap hmU,λx hx=>by cases hx⟩
  ·have hll:((List.range len0).map f).length=len0:=by simp
   have hok:∀r∈(List.range len0).map f,ok r:=λx hx=>by
    obtain⟨i,hi,rfl⟩:=List.mem_map.1 hx;exact(hf i (List.mem_range.1 hi)).1
   refine⟨(List.range len0).map f,?_,hok⟩;rw[hll];refine .full hheap h0 (by rw[CJ λa ha=>hlen a (hok a ha),hll]) hk0 hl hmU (λj hj=> ?_) (λv hv=> ?_)
   ·have h5:j / k<len0:=by rw[Nat.div_lt_iff_lt_mul hk0];exact hj
    have e1:j=j / k*k+j % k:=(Nat.div_add_mod' j k).symm;have g1:=(hf (j / k) h5).2 (j % k) (Nat.mod_lt _ hk0);have g2:=CI (cL:=cL) (k:=k) (l:=(List.range len0).map f) (i:=j / k) (j:=j % k) (a:=f (j / k)) (λa ha=>hlen a (hok a ha)) (by simp[h5]) (Nat.mod_lt _ hk0);rw[←e1]at g1 g2;rw[g1,g2]
   ·obtain⟨a,_,ha⟩:=List.mem_flatMap.1 hv;exact hno a v ha
theorem FT:Tryz.prog.cellsOf 41=9:=by kernel_rfl
theorem DE{fuel:Nat}{cs:List Value}{spare:Nat->Bool}{x:DataW H×List MemPlace}(h:DataW.trod enc Tryz.prog W base spare held fuel 41 cs=some x):∃p:Pb,IsS p.cells/\cs=pbL p:=by
 obtain⟨xs,n,_,hx,hcl,hlen,hg⟩:=DataW.trod_struct Tryz.underlying41 h;rw[FT]at hcl
 match cs,hcl with
 |[c0,c1,c2,c3,c4,c5,c6,c7,c8],_=>
  match xs,hlen with
  |[y0,y1],_=>
   have g3:DataW.trod enc Tryz.prog W base spare held n 24 [c0,c1,c2,c3,c4,c5,c6,c7]=some y0:=by have:=hg 0 _ rfl;simpa[rO]using this
   have g4:DataW.trod enc Tryz.prog W base spare held n 3 [c8]=some y1:=by have:=hg 1 _ rfl;simpa[Rr]using this
   obtain⟨pl,hp,h3⟩:=mE g3;obtain⟨a4,h4,_⟩:=DataW.trod_int Tryz.underlying3 g4;cases h4;refine⟨⟨pl,a4⟩,hp,?_⟩;show _=us pl++[_];rw[←h3];rfl
theorem Dk(s:List Nat):∀v∈us s,cG v=true:=λv hv=>by
 obtain⟨n,_,rfl⟩:=List.mem_map.1 hv;rfl
theorem HE(p:Pb):∀v∈pbL p,cG v=true:=λv hv=>by
 rcases List.mem_append.1 hv with q|q
 ·exact Dk _ v q
 ·rw[List.mem_singleton.1 q];rfl
instance:Inhabited Pb:=⟨⟨[],0⟩⟩
def QD(W:World)(v:Value)(l:List Pb):Prop:=jw W 9 v l.length (A9 l)/\∀p∈l,IsS p.cells
theorem Ds{v:Value}{d:DataW H}{p:List MemPlace}(hv:Value.okWide Tryz.prog W .any base 27 v)(h:DataW.Trod enc Tryz.prog W 0 (λ_=>true) held 27 v d p)(hz:∀n∈d.weights Tryz.prog 27,n<=reachBytes):∃l,QD W v l:=
 xe (α:=Pb) Tryz.underlying27 FT (by decide) (show Tryz.prog.bytesOf 41=72 by kernel_rfl) (by decide) (λp=>IsS p.cells) pbL (λp h=>jU h) HE (λh=>DE h) hv h hz
def Tz(W:World)(v:Value)(l:List (List Nat)):Prop:=jw W 8 v l.length (ssL l)/\∀s∈l,IsS s
theorem Dt{v:Value}{d:DataW H}{p:List MemPlace}(hv:Value.okWide Tryz.prog W .any base 28 v)(h:DataW.Trod enc Tryz.prog W 0 (λ_=>true) held 28 v d p)(hz:∀n∈d.weights Tryz.prog 28,n<=reachBytes):∃l,Tz W v l:=
 xe (α:=List Nat) Tryz.underlying28 rO (by decide) (show Tryz.prog.bytesOf 24=64 by kernel_rfl) (by decide) IsS us (λp h=>by rw[aH,h.len]) Dk (λh=>mE h) hv h hz
end
theorem RL{W:World}{G:Gl}(hG:vt W G){z1 n1 z2 n2 z3 n3:Nat}{s1 s2 s3:Value}{c1 c2 c3:List Value}(h1:jw W z1 s1 n1 c1)(h2:jw W z2 s2 n2 c2)(h3:jw W z3 s3 n3 c3):
 ∃(h:Heap) (μ:Mu),R Tryz.prog μ h W/\(∀b o,h.get b=some o->o.ro=true∨o.live=false)/\Rdy h/\1000<=h.next/\(∀g vs,(g,vs)∈G->h.get g=some (.cells vs false 1))∧
 (∃a c,VR μ (.slice a n1 c) s1/\aJ h z1 (.slice a n1 c) n1 c1/\c<UNK)/\(∃a c,VR μ (.slice a n2 c) s2/\aJ h z2 (.slice a n2 c) n2 c2/\c<UNK)/\(∃a c,VR μ (.slice a n3 c) s3/\aJ h z3 (.slice a n3 c) n3 c3/\c<UNK):=by
 obtain⟨o1,k1,q1⟩:=h1.lay hG;obtain⟨o2,k2,q2⟩:=h2.lay hG;obtain⟨o3,k3,q3⟩:=h3.lay hG;have hat:∀(A B C:List Ob) (o:Ob),B[0]? =some o->(A++B++C)[A.length]? =some o:=λA B C o ho=>by
  have hl:=(List.getElem?_eq_some_iff.1 ho).1;rw[List.append_assoc,List.getElem?_append_right (Nat.le_refl _),Nat.sub_self,List.getElem?_append_left hl];exact ho
 refine⟨obH G (o1++o2++o3),obM G (o1++o2++o3),R.obs hG λo ho=> ?_,Sj hG,OY hG _,Nat.le_add_right _ _,λg vs h=>Si hG _ h,q1 _ 0 λo ho=> ?_,q2 _ o1.length (hat o1 o2 o3),q3 _ (o1++o2).length λo ho=> ?_⟩
 ·rcases List.mem_append.1 ho with ho|ho
  ·rcases List.mem_append.1 ho with ho|ho
   ·exact k1 _ o ho
   ·exact k2 _ o ho
  ·exact k3 _ o ho
 ·have:=hat [] o1 (o2++o3) o ho
  rwa [List.nil_append,←List.append_assoc]at this
 ·have:=hat (o1++o2) o3 [] o ho
  rwa [List.append_nil]at this
end Go.A.Pk
end
section
namespace Go.A.Pk
open Go Go.Proofs
theorem RG:vA.h0=HN 0 (Cy.map λn=> .int .u8 (n:Nat)) 1000:=by kernel_rfl
theorem W0:Entry Tryz.prog 4 (.kT pSd):= .kT (Mc SS (g:=0) (n:=1000) (vs:=Cy.map λn=> .int .u8 (n:Nat)) Tryz.func4 (of_decide_eq_true (by kernel_rfl)) (by kernel_rfl) mY (by decide) (by kernel_rfl) (by kernel_rfl) λargs v h h' hp=>by
 unfold pSd at hp;split at hp
 ·split at hp
  ·rename_i hT;cases hp;refine⟨rfl,hT,λa ha=>(nomatch ha),rfl,?_⟩;rw[←RG];exact vA.run
  ·cases hp
 ·cases hp)
theorem c17:aW Tryz.prog Tryz.f3 (ksO f17)=some f17:=by kernel_rfl
theorem c35:aW Tryz.prog Tryz.f8 (ksO f35)=some f35:=by kernel_rfl
theorem c56:aW Tryz.prog Tryz.f9 (ksO f56)=some f56:=by kernel_rfl
theorem c58:aW Tryz.prog Tryz.f6 (ksO f58)=some f58:=by kernel_rfl
theorem c59:aW Tryz.prog Tryz.f11 (ksO f59)=some f59:=by kernel_rfl
theorem c71:aW Tryz.prog Tryz.f7 (ksO f71)=some f71:=by kernel_rfl
theorem V5:aW Tryz.prog Tryz.f49 (ksO f142)=some f142:=by kernel_rfl
theorem V6:aW Tryz.prog Tryz.f27 (ksO f144)=some f144:=by kernel_rfl
theorem V7:aW Tryz.prog Tryz.f17 (ksO f146)=some f146:=by kernel_rfl
theorem V8:aW Tryz.prog Tryz.f19 (ksO f148)=some f148:=by kernel_rfl
theorem V9:aW Tryz.prog Tryz.f21 (ksO f150)=some f150:=by kernel_rfl
theorem Wa:aW Tryz.prog Tryz.f22 (ksO f151)=some f151:=by kernel_rfl
theorem Wb:aW Tryz.prog Tryz.f23 (ksO f152)=some f152:=by kernel_rfl
theorem Wc:aW Tryz.prog Tryz.f31 (ksO f153)=some f153:=by kernel_rfl
theorem Wd:aW Tryz.prog Tryz.f32 (ksO f154)=some f154:=by kernel_rfl
theorem Wo:aW Tryz.prog Tryz.f46 (ksO f229)=some f229:=by kernel_rfl
theorem Wp:aW Tryz.prog Tryz.f60 (ksO f230)=some f230:=by kernel_rfl
noncomputable def Ft:Tr:=(.node (.node (.node (.node (.node (.node (.node .nil 3 f17 .nil) 4 (.kT pSd) .nil) 5 f39 (.node (.node .nil 6 f58 .nil) 7 f71 .nil)) 8 f35 (.node (.node (.node .nil 9 f56 .nil) 10 f72 .nil) 11 f59 (.node .nil 12 f29 .nil))) 15 f96 (.node (.node (.node (.node .nil 16 f128 .nil) 17 f146 .nil) 18 f147 (.node (.node .nil 19 f148 .nil) 20 f149 .nil)) 21 f150 (.node (.node (.node .nil 22 f151 .nil) 23 f152 .nil) 24 f123 (.node .nil 25 f124 .nil)))) 26 f121 (.node (.node (.node (.node (.node .nil 27 f144 .nil) 28 f120 .nil) 29 f167 (.node (.node .nil 31 f153 .nil) 32 f154 .nil)) 33 f104 (.node (.node (.node .nil 34 f105 .nil) 35 f106 .nil) 36 f107 (.node .nil 37 f108 .nil))) 38 f109 (.node (.node (.node (.node .nil 39 f89 .nil) 40 f90 .nil) 41 f34 (.node (.node .nil 42 f141 .nil) 43 f91 .nil)) 44 f201 (.node (.node (.node .nil 45 f228 .nil) 46 f229 .nil) 47 f213 (.node .nil 48 f214 .nil))))) 49 f142 (.node (.node (.node (.node (.node (.node .nil 50 f143 .nil) 51 f207 .nil) 52 f209 (.node (.node .nil 53 f210 .nil) 54 f188 .nil)) 55 f211 (.node (.node (.node .nil 56 f212 .nil) 57 (.kT (pK 30 82)) .nil) 58 f192 (.node .nil 60 f230 .nil))) 61 f205 (.node (.node (.node (.node .nil 62 f206 .nil) 63 f196 .nil) 64 f62 (.node (.node .nil 65 f92 .nil) 66 f264 .nil)) 67 f265 (.node (.node (.node .nil 68 f266 .nil) 69 f174 .nil) 70 f226 (.node .nil 71 f254 .nil)))) 72 f261 (.node (.node (.node (.node (.node .nil 73 f262 .nil) 74 f263 .nil) 78 f260 (.node (.node .nil 79 f257 .nil) 80 f155 .nil)) 81 f156 (.node (.node (.node .nil 83 f193 .nil) 84 f194 .nil) 85 f195 (.node .nil 86 f197 .nil))) 87 f126 (.node (.node (.node (.node .nil 88 f127 .nil) 89 f317 .nil) 90 f318 (.node .nil 91 f319 .nil)) 92 f320 (.node (.node (.node .nil 93 f321 .nil) 94 f322 .nil) 106 f231 (.node .nil 107 f215 .nil))))))
noncomputable def T17:Nat->Option an:=Ft.get
abbrev zq1:=@Tr.all_nil
theorem TH:Ft.all (Entry Tryz.prog):=by
 unfold Ft;exact(Tr.af (Tr.af (Tr.af (Tr.af (Tr.af (Tr.af (Tr.af zq1 (.of Tryz.func3 c17) zq1) W0 zq1) (.of Tryz.func5 c39) (Tr.af (Tr.af zq1 (.of Tryz.func6 c58) zq1) (.of Tryz.func7 c71) zq1)) (.of Tryz.func8 c35) (Tr.af (Tr.af (Tr.af zq1 (.of Tryz.func9 c56) zq1) (.of Tryz.func10 c72) zq1) (.of Tryz.func11 c59) (Tr.af zq1 (.of Tryz.func12 c29) zq1))) (.of Tryz.func15 c96) (Tr.af (Tr.af (Tr.af (Tr.af zq1 (.of Tryz.func16 TO) zq1) (.of Tryz.func17 V7) zq1) (.of Tryz.func18 TS) (Tr.af (Tr.af zq1 (.of Tryz.func19 V8) zq1) (.of Tryz.func20 TT) zq1)) (.of Tryz.func21 V9) (Tr.af (Tr.af (Tr.af zq1 (.of Tryz.func22 Wa) zq1) (.of Tryz.func23 Wb) zq1) (.of Tryz.func24 V4) (Tr.af zq1 (.of Tryz.func25 TL) zq1)))) (.of Tryz.func26 V3) (Tr.af (Tr.af (Tr.af (Tr.af (Tr.af zq1 (.of Tryz.func27 V6) zq1) (.of Tryz.func28 TK) zq1) (.of Tryz.func29 TW) (Tr.af (Tr.af zq1 (.of Tryz.func31 Wc) zq1) (.of Tryz.func32 Wd) zq1)) (.of Tryz.func33 VZ) (Tr.af (Tr.af (Tr.af zq1 (.of Tryz.func34 V0) zq1) (.of Tryz.func35 TI) zq1) (.of Tryz.func36 V1) (Tr.af zq1 (.of Tryz.func37 TJ) zq1))) (.of Tryz.func38 V2) (Tr.af (Tr.af (Tr.af (Tr.af zq1 (.of Tryz.func39 c89) zq1) (.of Tryz.func40 c90) zq1) (.of Tryz.func41 c34) (Tr.af (Tr.af zq1 (.of Tryz.func42 TQ) zq1) (.of Tryz.func43 c91) zq1)) (.of Tryz.func44 T6) (Tr.af (Tr.af (Tr.af zq1 (.of Tryz.func45 Uf) zq1) (.of Tryz.func46 Wo) zq1) (.of Tryz.func47 Wn) (Tr.af zq1 (.of Tryz.func48 Uc) zq1))))) (.of Tryz.func49 V5) (Tr.af (Tr.af (Tr.af (Tr.af (Tr.af (Tr.af zq1 (.of Tryz.func50 TR) zq1) (.of Tryz.func51 T7) zq1) (.of Tryz.func52 T8) (Tr.af (Tr.af zq1 (.of Tryz.func53 T9) zq1) (.of Tryz.func54 TY) zq1)) (.of Tryz.func55 Ua) (Tr.af (Tr.af (Tr.af zq1 (.of Tryz.func56 Ub) zq1) U5 zq1) (.of Tryz.func58 TZ) (Tr.af zq1 (.of Tryz.func60 Wp) zq1))) (.of Tryz.func61 Wl) (Tr.af (Tr.af (Tr.af (Tr.af zq1 (.of Tryz.func62 Wm) zq1) (.of Tryz.func63 T4) zq1) (.of Tryz.func64 c62) (Tr.af (Tr.af zq1 (.of Tryz.func65 c92) zq1) (.of Tryz.func66 Ww) zq1)) (.of Tryz.func67 Um) (Tr.af (Tr.af (Tr.af zq1 (.of Tryz.func68 Un) zq1) (.of Tryz.func69 TX) zq1) (.of Tryz.func70 Ue) (Tr.af zq1 (.of Tryz.func71 Uh) zq1)))) (.of Tryz.func72 Uj) (Tr.af (Tr.af (Tr.af (Tr.af (Tr.af zq1 (.of Tryz.func73 Uk) zq1) (.of Tryz.func74 Ul) zq1) (.of Tryz.func78 Wv) (Tr.af (Tr.af zq1 (.of Tryz.func79 Ui) zq1) (.of Tryz.func80 TU) zq1)) (.of Tryz.func81 TV) (Tr.af (Tr.af (Tr.af zq1 (.of Tryz.func83 T1) zq1) (.of Tryz.func84 T2) zq1) (.of Tryz.func85 T3) (Tr.af zq1 (.of Tryz.func86 T5) zq1))) (.of Tryz.func87 TM) (Tr.af (Tr.af (Tr.af (Tr.af zq1 (.of Tryz.func88 TN) zq1) (.of Tryz.func89 Uo) zq1) (.of Tryz.func90 Up) (Tr.af zq1 (.of Tryz.func91 Uq) zq1)) (.of Tryz.func92 Ur) (Tr.af (Tr.af (Tr.af zq1 (.of Tryz.func93 Us) zq1) (.of Tryz.func94 Ut) zq1) (.of Tryz.func106 Ug) (Tr.af zq1 (.of Tryz.func107 Ud) zq1))))))
theorem aQ:ef Tryz.prog T17:=qk (by kernel_rfl) TH
theorem UE:FD T17:={co:={od:={va:={op:={qu:={p:=aQ.aF,f35:=by kernel_rfl,f121:=by kernel_rfl,f143:=by kernel_rfl,f174:=by kernel_rfl,f207:=by kernel_rfl,f226:=by kernel_rfl},f108:=by kernel_rfl,f147:=by kernel_rfl,f149:=by kernel_rfl,f228:=by kernel_rfl},f128:=by kernel_rfl},ak:={ne:={nd:={pl:={fi:={ft:={mp:={cp:={p:=aQ.aF,f123:=by kernel_rfl,f213:=by kernel_rfl,f214:=by kernel_rfl,f264:=by kernel_rfl,f265:=by kernel_rfl,f266:=by kernel_rfl},tu:={p:=aQ.aF,f263:=by kernel_rfl,f317:=by kernel_rfl,f318:=by kernel_rfl,f319:=by kernel_rfl,f320:=by kernel_rfl,f321:=by kernel_rfl,f322:=by kernel_rfl},f126:=by kernel_rfl,f127:=by kernel_rfl,f211:=by kernel_rfl,f215:=by kernel_rfl,f261:=by kernel_rfl,f262:=by kernel_rfl},bd:={cp:={p:=aQ.aF,f123:=by kernel_rfl,f213:=by kernel_rfl,f214:=by kernel_rfl,f264:=by kernel_rfl,f265:=by kernel_rfl,f266:=by kernel_rfl},f210:=by kernel_rfl},li:={p:=aQ.aF,f212:=by kernel_rfl},co:={p:=aQ.aF,f188:=by kernel_rfl,f254:=by kernel_rfl},f35:=by kernel_rfl,f121:=by kernel_rfl,f209:=by kernel_rfl},f34:=by kernel_rfl,f120:=by kernel_rfl},f72:=by kernel_rfl,f167:=by kernel_rfl,f189:=by kernel_rfl,f192:=by kernel_rfl},f35:=by kernel_rfl,f92:=by kernel_rfl,f121:=by kernel_rfl,f124:=by kernel_rfl,f193:=by kernel_rfl,f194:=by kernel_rfl,f195:=by kernel_rfl,f196:=by kernel_rfl,f197:=by kernel_rfl,f257:=by kernel_rfl},f89:=by kernel_rfl,f90:=by kernel_rfl,f91:=by kernel_rfl},cp:={p:=aQ.aF,f62:=by kernel_rfl,f90:=by kernel_rfl,f106:=by kernel_rfl,f155:=by kernel_rfl,f156:=by kernel_rfl,f231:=by kernel_rfl},f141:=by kernel_rfl},lk:={nd:={pl:={fi:={ft:={mp:={cp:={p:=aQ.aF,f123:=by kernel_rfl,f213:=by kernel_rfl,f214:=by kernel_rfl,f264:=by kernel_rfl,f265:=by kernel_rfl,f266:=by kernel_rfl},tu:={p:=aQ.aF,f263:=by kernel_rfl,f317:=by kernel_rfl,f318:=by kernel_rfl,f319:=by kernel_rfl,f320:=by kernel_rfl,f321:=by kernel_rfl,f322:=by kernel_rfl},f126:=by kernel_rfl,f127:=by kernel_rfl,f211:=by kernel_rfl,f215:=by kernel_rfl,f261:=by kernel_rfl,f262:=by kernel_rfl},bd:={cp:={p:=aQ.aF,f123:=by kernel_rfl,f213:=by kernel_rfl,f214:=by kernel_rfl,f264:=by kernel_rfl,f265:=by kernel_rfl,f266:=by kernel_rfl},f210:=by kernel_rfl},li:={p:=aQ.aF,f212:=by kernel_rfl},co:={p:=aQ.aF,f188:=by kernel_rfl,f254:=by kernel_rfl},f35:=by kernel_rfl,f121:=by kernel_rfl,f209:=by kernel_rfl},f34:=by kernel_rfl,f120:=by kernel_rfl},f72:=by kernel_rfl,f167:=by kernel_rfl,f189:=by kernel_rfl,f192:=by kernel_rfl},f35:=by kernel_rfl,f92:=by kernel_rfl,f121:=by kernel_rfl,f124:=by kernel_rfl,f193:=by kernel_rfl,f194:=by kernel_rfl,f195:=by kernel_rfl,f196:=by kernel_rfl,f197:=by kernel_rfl,f257:=by kernel_rfl},f201:=by kernel_rfl},f96:=by kernel_rfl},f39:=by kernel_rfl},st:={bd:={bu:={va:={op:={qu:={p:=aQ.aF,f35:=by kernel_rfl,f121:=by kernel_rfl,f143:=by kernel_rfl,f174:=by kernel_rfl,f207:=by kernel_rfl,f226:=by kernel_rfl},f108:=by kernel_rfl,f147:=by kernel_rfl,f149:=by kernel_rfl,f228:=by kernel_rfl},f128:=by kernel_rfl},f148:=by kernel_rfl,f150:=by kernel_rfl,f151:=by kernel_rfl,f152:=by kernel_rfl,f229:=by kernel_rfl},f146:=by kernel_rfl},od:={va:={op:={qu:={p:=aQ.aF,f35:=by kernel_rfl,f121:=by kernel_rfl,f143:=by kernel_rfl,f174:=by kernel_rfl,f207:=by kernel_rfl,f226:=by kernel_rfl},f108:=by kernel_rfl,f147:=by kernel_rfl,f149:=by kernel_rfl,f228:=by kernel_rfl},f128:=by kernel_rfl},ak:={ne:={nd:={pl:={fi:={ft:={mp:={cp:={p:=aQ.aF,f123:=by kernel_rfl,f213:=by kernel_rfl,f214:=by kernel_rfl,f264:=by kernel_rfl,f265:=by kernel_rfl,f266:=by kernel_rfl},tu:={p:=aQ.aF,f263:=by kernel_rfl,f317:=by kernel_rfl,f318:=by kernel_rfl,f319:=by kernel_rfl,f320:=by kernel_rfl,f321:=by kernel_rfl,f322:=by kernel_rfl},f126:=by kernel_rfl,f127:=by kernel_rfl,f211:=by kernel_rfl,f215:=by kernel_rfl,f261:=by kernel_rfl,f262:=by kernel_rfl},bd:={cp:={p:=aQ.aF,f123:=by kernel_rfl,f213:=by kernel_rfl,f214:=by kernel_rfl,f264:=by kernel_rfl,f265:=by kernel_rfl,f266:=by kernel_rfl},f210:=by kernel_rfl},li:={p:=aQ.aF,f212:=by kernel_rfl},co:={p:=aQ.aF,f188:=by kernel_rfl,f254:=by kernel_rfl},f35:=by kernel_rfl,f121:=by kernel_rfl,f209:=by kernel_rfl},f34:=by kernel_rfl,f120:=by kernel_rfl},f72:=by kernel_rfl,f167:=by kernel_rfl,f189:=by kernel_rfl,f192:=by kernel_rfl},f35:=by kernel_rfl,f92:=by kernel_rfl,f121:=by kernel_rfl,f124:=by kernel_rfl,f193:=by kernel_rfl,f194:=by kernel_rfl,f195:=by kernel_rfl,f196:=by kernel_rfl,f197:=by kernel_rfl,f257:=by kernel_rfl},f89:=by kernel_rfl,f90:=by kernel_rfl,f91:=by kernel_rfl},cp:={p:=aQ.aF,f62:=by kernel_rfl,f90:=by kernel_rfl,f106:=by kernel_rfl,f155:=by kernel_rfl,f156:=by kernel_rfl,f231:=by kernel_rfl},f141:=by kernel_rfl},lk:={nd:={pl:={fi:={ft:={mp:={cp:={p:=aQ.aF,f123:=by kernel_rfl,f213:=by kernel_rfl,f214:=by kernel_rfl,f264:=by kernel_rfl,f265:=by kernel_rfl,f266:=by kernel_rfl},tu:={p:=aQ.aF,f263:=by kernel_rfl,f317:=by kernel_rfl,f318:=by kernel_rfl,f319:=by kernel_rfl,f320:=by kernel_rfl,f321:=by kernel_rfl,f322:=by kernel_rfl},f126:=by kernel_rfl,f127:=by kernel_rfl,f211:=by kernel_rfl,f215:=by kernel_rfl,f261:=by kernel_rfl,f262:=by kernel_rfl},bd:={cp:={p:=aQ.aF,f123:=by kernel_rfl,f213:=by kernel_rfl,f214:=by kernel_rfl,f264:=by kernel_rfl,f265:=by kernel_rfl,f266:=by kernel_rfl},f210:=by kernel_rfl},li:={p:=aQ.aF,f212:=by kernel_rfl},co:={p:=aQ.aF,f188:=by kernel_rfl,f254:=by kernel_rfl},f35:=by kernel_rfl,f121:=by kernel_rfl,f209:=by kernel_rfl},f34:=by kernel_rfl,f120:=by kernel_rfl},f72:=by kernel_rfl,f167:=by kernel_rfl,f189:=by kernel_rfl,f192:=by kernel_rfl},f35:=by kernel_rfl,f92:=by kernel_rfl,f121:=by kernel_rfl,f124:=by kernel_rfl,f193:=by kernel_rfl,f194:=by kernel_rfl,f195:=by kernel_rfl,f196:=by kernel_rfl,f197:=by kernel_rfl,f257:=by kernel_rfl},f201:=by kernel_rfl},f96:=by kernel_rfl},f58:=by kernel_rfl},ju:={cb:={ak:={ne:={nd:={pl:={fi:={ft:={mp:={cp:={p:=aQ.aF,f123:=by kernel_rfl,f213:=by kernel_rfl,f214:=by kernel_rfl,f264:=by kernel_rfl,f265:=by kernel_rfl,f266:=by kernel_rfl},tu:={p:=aQ.aF,f263:=by kernel_rfl,f317:=by kernel_rfl,f318:=by kernel_rfl,f319:=by kernel_rfl,f320:=by kernel_rfl,f321:=by kernel_rfl,f322:=by kernel_rfl},f126:=by kernel_rfl,f127:=by kernel_rfl,f211:=by kernel_rfl,f215:=by kernel_rfl,f261:=by kernel_rfl,f262:=by kernel_rfl},bd:={cp:={p:=aQ.aF,f123:=by kernel_rfl,f213:=by kernel_rfl,f214:=by kernel_rfl,f264:=by kernel_rfl,f265:=by kernel_rfl,f266:=by kernel_rfl},f210:=by kernel_rfl},li:={p:=aQ.aF,f212:=by kernel_rfl},co:={p:=aQ.aF,f188:=by kernel_rfl,f254:=by kernel_rfl},f35:=by kernel_rfl,f121:=by kernel_rfl,f209:=by kernel_rfl},f34:=by kernel_rfl,f120:=by kernel_rfl},f72:=by kernel_rfl,f167:=by kernel_rfl,f189:=by kernel_rfl,f192:=by kernel_rfl},f35:=by kernel_rfl,f92:=by kernel_rfl,f121:=by kernel_rfl,f124:=by kernel_rfl,f193:=by kernel_rfl,f194:=by kernel_rfl,f195:=by kernel_rfl,f196:=by kernel_rfl,f197:=by kernel_rfl,f257:=by kernel_rfl},f89:=by kernel_rfl,f90:=by kernel_rfl,f91:=by kernel_rfl},cp:={p:=aQ.aF,f62:=by kernel_rfl,f90:=by kernel_rfl,f106:=by kernel_rfl,f155:=by kernel_rfl,f156:=by kernel_rfl,f231:=by kernel_rfl},f141:=by kernel_rfl},qu:={p:=aQ.aF,f35:=by kernel_rfl,f121:=by kernel_rfl,f143:=by kernel_rfl,f174:=by kernel_rfl,f207:=by kernel_rfl,f226:=by kernel_rfl},fn:={p:=aQ.aF,f106:=by kernel_rfl,f142:=by kernel_rfl}},lk:={nd:={pl:={fi:={ft:={mp:={cp:={p:=aQ.aF,f123:=by kernel_rfl,f213:=by kernel_rfl,f214:=by kernel_rfl,f264:=by kernel_rfl,f265:=by kernel_rfl,f266:=by kernel_rfl},tu:={p:=aQ.aF,f263:=by kernel_rfl,f317:=by kernel_rfl,f318:=by kernel_rfl,f319:=by kernel_rfl,f320:=by kernel_rfl,f321:=by kernel_rfl,f322:=by kernel_rfl},f126:=by kernel_rfl,f127:=by kernel_rfl,f211:=by kernel_rfl,f215:=by kernel_rfl,f261:=by kernel_rfl,f262:=by kernel_rfl},bd:={cp:={p:=aQ.aF,f123:=by kernel_rfl,f213:=by kernel_rfl,f214:=by kernel_rfl,f264:=by kernel_rfl,f265:=by kernel_rfl,f266:=by kernel_rfl},f210:=by kernel_rfl},li:={p:=aQ.aF,f212:=by kernel_rfl},co:={p:=aQ.aF,f188:=by kernel_rfl,f254:=by kernel_rfl},f35:=by kernel_rfl,f121:=by kernel_rfl,f209:=by kernel_rfl},f34:=by kernel_rfl,f120:=by kernel_rfl},f72:=by kernel_rfl,f167:=by kernel_rfl,f189:=by kernel_rfl,f192:=by kernel_rfl},f35:=by kernel_rfl,f92:=by kernel_rfl,f121:=by kernel_rfl,f124:=by kernel_rfl,f193:=by kernel_rfl,f194:=by kernel_rfl,f195:=by kernel_rfl,f196:=by kernel_rfl,f197:=by kernel_rfl,f257:=by kernel_rfl},f201:=by kernel_rfl},f56:=by kernel_rfl,f144:=by kernel_rfl},av:={od:={va:={op:={qu:={p:=aQ.aF,f35:=by kernel_rfl,f121:=by kernel_rfl,f143:=by kernel_rfl,f174:=by kernel_rfl,f207:=by kernel_rfl,f226:=by kernel_rfl},f108:=by kernel_rfl,f147:=by kernel_rfl,f149:=by kernel_rfl,f228:=by kernel_rfl},f128:=by kernel_rfl},ak:={ne:={nd:={pl:={fi:={ft:={mp:={cp:={p:=aQ.aF,f123:=by kernel_rfl,f213:=by kernel_rfl,f214:=by kernel_rfl,f264:=by kernel_rfl,f265:=by kernel_rfl,f266:=by kernel_rfl},tu:={p:=aQ.aF,f263:=by kernel_rfl,f317:=by kernel_rfl,f318:=by kernel_rfl,f319:=by kernel_rfl,f320:=by kernel_rfl,f321:=by kernel_rfl,f322:=by kernel_rfl},f126:=by kernel_rfl,f127:=by kernel_rfl,f211:=by kernel_rfl,f215:=by kernel_rfl,f261:=by kernel_rfl,f262:=by kernel_rfl},bd:={cp:={p:=aQ.aF,f123:=by kernel_rfl,f213:=by kernel_rfl,f214:=by kernel_rfl,f264:=by kernel_rfl,f265:=by kernel_rfl,f266:=by kernel_rfl},f210:=by kernel_rfl},li:={p:=aQ.aF,f212:=by kernel_rfl},co:={p:=aQ.aF,f188:=by kernel_rfl,f254:=by kernel_rfl},f35:=by kernel_rfl,f121:=by kernel_rfl,f209:=by kernel_rfl},f34:=by kernel_rfl,f120:=by kernel_rfl},f72:=by kernel_rfl,f167:=by kernel_rfl,f189:=by kernel_rfl,f192:=by kernel_rfl},f35:=by kernel_rfl,f92:=by kernel_rfl,f121:=by kernel_rfl,f124:=by kernel_rfl,f193:=by kernel_rfl,f194:=by kernel_rfl,f195:=by kernel_rfl,f196:=by kernel_rfl,f197:=by kernel_rfl,f257:=by kernel_rfl},f89:=by kernel_rfl,f90:=by kernel_rfl,f91:=by kernel_rfl},cp:={p:=aQ.aF,f62:=by kernel_rfl,f90:=by kernel_rfl,f106:=by kernel_rfl,f155:=by kernel_rfl,f156:=by kernel_rfl,f231:=by kernel_rfl},f141:=by kernel_rfl},lk:={nd:={pl:={fi:={ft:={mp:={cp:={p:=aQ.aF,f123:=by kernel_rfl,f213:=by kernel_rfl,f214:=by kernel_rfl,f264:=by kernel_rfl,f265:=by kernel_rfl,f266:=by kernel_rfl},tu:={p:=aQ.aF,f263:=by kernel_rfl,f317:=by kernel_rfl,f318:=by kernel_rfl,f319:=by kernel_rfl,f320:=by kernel_rfl,f321:=by kernel_rfl,f322:=by kernel_rfl},f126:=by kernel_rfl,f127:=by kernel_rfl,f211:=by kernel_rfl,f215:=by kernel_rfl,f261:=by kernel_rfl,f262:=by kernel_rfl},bd:={cp:={p:=aQ.aF,f123:=by kernel_rfl,f213:=by kernel_rfl,f214:=by kernel_rfl,f264:=by kernel_rfl,f265:=by kernel_rfl,f266:=by kernel_rfl},f210:=by kernel_rfl},li:={p:=aQ.aF,f212:=by kernel_rfl},co:={p:=aQ.aF,f188:=by kernel_rfl,f254:=by kernel_rfl},f35:=by kernel_rfl,f121:=by kernel_rfl,f209:=by kernel_rfl},f34:=by kernel_rfl,f120:=by kernel_rfl},f72:=by kernel_rfl,f167:=by kernel_rfl,f189:=by kernel_rfl,f192:=by kernel_rfl},f35:=by kernel_rfl,f92:=by kernel_rfl,f121:=by kernel_rfl,f124:=by kernel_rfl,f193:=by kernel_rfl,f194:=by kernel_rfl,f195:=by kernel_rfl,f196:=by kernel_rfl,f197:=by kernel_rfl,f257:=by kernel_rfl},f201:=by kernel_rfl},f96:=by kernel_rfl},ss:={op:={qu:={p:=aQ.aF,f35:=by kernel_rfl,f121:=by kernel_rfl,f143:=by kernel_rfl,f174:=by kernel_rfl,f207:=by kernel_rfl,f226:=by kernel_rfl},f108:=by kernel_rfl,f147:=by kernel_rfl,f149:=by kernel_rfl,f228:=by kernel_rfl},f153:=by kernel_rfl,f230:=by kernel_rfl},f59:=by kernel_rfl,f154:=by kernel_rfl},ca:={by':={p:=aQ.aF,f104:=by kernel_rfl,f105:=by kernel_rfl,f107:=by kernel_rfl,f205:=by kernel_rfl,f206:=by kernel_rfl,f260:=by kernel_rfl},ho:={op:={qu:={p:=aQ.aF,f35:=by kernel_rfl,f121:=by kernel_rfl,f143:=by kernel_rfl,f174:=by kernel_rfl,f207:=by kernel_rfl,f226:=by kernel_rfl},f108:=by kernel_rfl,f147:=by kernel_rfl,f149:=by kernel_rfl,f228:=by kernel_rfl},f109:=by kernel_rfl},od:={va:={op:={qu:={p:=aQ.aF,f35:=by kernel_rfl,f121:=by kernel_rfl,f143:=by kernel_rfl,f174:=by kernel_rfl,f207:=by kernel_rfl,f226:=by kernel_rfl},f108:=by kernel_rfl,f147:=by kernel_rfl,f149:=by kernel_rfl,f228:=by kernel_rfl},f128:=by kernel_rfl},ak:={ne:={nd:={pl:={fi:={ft:={mp:={cp:={p:=aQ.aF,f123:=by kernel_rfl,f213:=by kernel_rfl,f214:=by kernel_rfl,f264:=by kernel_rfl,f265:=by kernel_rfl,f266:=by kernel_rfl},tu:={p:=aQ.aF,f263:=by kernel_rfl,f317:=by kernel_rfl,f318:=by kernel_rfl,f319:=by kernel_rfl,f320:=by kernel_rfl,f321:=by kernel_rfl,f322:=by kernel_rfl},f126:=by kernel_rfl,f127:=by kernel_rfl,f211:=by kernel_rfl,f215:=by kernel_rfl,f261:=by kernel_rfl,f262:=by kernel_rfl},bd:={cp:={p:=aQ.aF,f123:=by kernel_rfl,f213:=by kernel_rfl,f214:=by kernel_rfl,f264:=by kernel_rfl,f265:=by kernel_rfl,f266:=by kernel_rfl},f210:=by kernel_rfl},li:={p:=aQ.aF,f212:=by kernel_rfl},co:={p:=aQ.aF,f188:=by kernel_rfl,f254:=by kernel_rfl},f35:=by kernel_rfl,f121:=by kernel_rfl,f209:=by kernel_rfl},f34:=by kernel_rfl,f120:=by kernel_rfl},f72:=by kernel_rfl,f167:=by kernel_rfl,f189:=by kernel_rfl,f192:=by kernel_rfl},f35:=by kernel_rfl,f92:=by kernel_rfl,f121:=by kernel_rfl,f124:=by kernel_rfl,f193:=by kernel_rfl,f194:=by kernel_rfl,f195:=by kernel_rfl,f196:=by kernel_rfl,f197:=by kernel_rfl,f257:=by kernel_rfl},f89:=by kernel_rfl,f90:=by kernel_rfl,f91:=by kernel_rfl},cp:={p:=aQ.aF,f62:=by kernel_rfl,f90:=by kernel_rfl,f106:=by kernel_rfl,f155:=by kernel_rfl,f156:=by kernel_rfl,f231:=by kernel_rfl},f141:=by kernel_rfl},lk:={nd:={pl:={fi:={ft:={mp:={cp:={p:=aQ.aF,f123:=by kernel_rfl,f213:=by kernel_rfl,f214:=by kernel_rfl,f264:=by kernel_rfl,f265:=by kernel_rfl,f266:=by kernel_rfl},tu:={p:=aQ.aF,f263:=by kernel_rfl,f317:=by kernel_rfl,f318:=by kernel_rfl,f319:=by kernel_rfl,f320:=by kernel_rfl,f321:=by kernel_rfl,f322:=by kernel_rfl},f126:=by kernel_rfl,f127:=by kernel_rfl,f211:=by kernel_rfl,f215:=by kernel_rfl,f261:=by kernel_rfl,f262:=by kernel_rfl},bd:={cp:={p:=aQ.aF,f123:=by kernel_rfl,f213:=by kernel_rfl,f214:=by kernel_rfl,f264:=by kernel_rfl,f265:=by kernel_rfl,f266:=by kernel_rfl},f210:=by kernel_rfl},li:={p:=aQ.aF,f212:=by kernel_rfl},co:={p:=aQ.aF,f188:=by kernel_rfl,f254:=by kernel_rfl},f35:=by kernel_rfl,f121:=by kernel_rfl,f209:=by kernel_rfl},f34:=by kernel_rfl,f120:=by kernel_rfl},f72:=by kernel_rfl,f167:=by kernel_rfl,f189:=by kernel_rfl,f192:=by kernel_rfl},f35:=by kernel_rfl,f92:=by kernel_rfl,f121:=by kernel_rfl,f124:=by kernel_rfl,f193:=by kernel_rfl,f194:=by kernel_rfl,f195:=by kernel_rfl,f196:=by kernel_rfl,f197:=by kernel_rfl,f257:=by kernel_rfl},f201:=by kernel_rfl},f96:=by kernel_rfl},f29:=by kernel_rfl,f106:=by kernel_rfl},pl:={fi:={ft:={mp:={cp:={p:=aQ.aF,f123:=by kernel_rfl,f213:=by kernel_rfl,f214:=by kernel_rfl,f264:=by kernel_rfl,f265:=by kernel_rfl,f266:=by kernel_rfl},tu:={p:=aQ.aF,f263:=by kernel_rfl,f317:=by kernel_rfl,f318:=by kernel_rfl,f319:=by kernel_rfl,f320:=by kernel_rfl,f321:=by kernel_rfl,f322:=by kernel_rfl},f126:=by kernel_rfl,f127:=by kernel_rfl,f211:=by kernel_rfl,f215:=by kernel_rfl,f261:=by kernel_rfl,f262:=by kernel_rfl},bd:={cp:={p:=aQ.aF,f123:=by kernel_rfl,f213:=by kernel_rfl,f214:=by kernel_rfl,f264:=by kernel_rfl,f265:=by kernel_rfl,f266:=by kernel_rfl},f210:=by kernel_rfl},li:={p:=aQ.aF,f212:=by kernel_rfl},co:={p:=aQ.aF,f188:=by kernel_rfl,f254:=by kernel_rfl},f35:=by kernel_rfl,f121:=by kernel_rfl,f209:=by kernel_rfl},f34:=by kernel_rfl,f120:=by kernel_rfl},f72:=by kernel_rfl,f167:=by kernel_rfl,f189:=by kernel_rfl,f192:=by kernel_rfl},pi:={cp:={p:=aQ.aF,f123:=by kernel_rfl,f213:=by kernel_rfl,f214:=by kernel_rfl,f264:=by kernel_rfl,f265:=by kernel_rfl,f266:=by kernel_rfl},f71:=by kernel_rfl,f124:=by kernel_rfl},f17:=by kernel_rfl,f70:=by kernel_rfl}
open Go.RowKit in
theorem Bd{W:World}(V:yQ W){w:List Nat×List Nat}(hw:IsW w){sl1 sl2:Value}{l:List Pb}(h1:QD W sl1 l){os:List (List Nat)}(h2:Tz W sl2 os){x:Int}(hx:0<=x/\x<18446744073709551616):Calls Tryz.prog 3 #[wV w,sl1,sl2, .int .u64 x] W λe W'=>e= .returned (.bool true)/\Below W.heap.size W W':=by
 obtain⟨x,rfl⟩:∃n:Nat,x=(n:Int):=⟨x.toNat,by omega⟩;obtain⟨h,μ,hRR,hro,hrd,hnx,hgl,⟨a1,n1,hu1,hs1,hc1⟩,⟨a2,n2,hu2,hs2,hc2⟩,_⟩:=RL V.gl h1.1 h2.1 h2.1;have hol:∀{sz n:Nat} {a:Option Addr} {c:Nat} {cs:List Value},aJ h sz (.slice a n c) n cs->c<=UNK-1->n<4611686018427387904:=λhs hc=>by
  rcases aJ.inv hs with⟨_,_,h0,_⟩|⟨b,o,cap,hv,_,hc⟩
  ·rw[h0];decide
  ·cases hv;unfold UNK at*;omega
 obtain⟨r',h',⟨m,hm⟩,rfl,rfl⟩:=UQ UE hrd (hgl 0 _ List.mem_cons_self) (by omega) hw ⟨hs1,h1.2⟩ (hol hs1 (by unfold UNK at*;omega)) ⟨hs2,h2.2⟩ (hol hs2 (by unfold UNK at*;omega)) (u:=x) (by omega);have hrun:=hm m (Nat.le_refl _);have ha:LR μ [wV w, .slice a1 l.length n1, .slice a2 os.length n2, .int .u64 (x:Nat)] [wV w,sl1,sl2, .int .u64 (x:Nat)]:= .cons (VR.cG (Lt w)).1 (.cons hu1 (.cons hu2 (.cons (.int _ _) .nil)));refine(mh aQ hrun hrd.log (by kernel_rfl) hRR ha).mono λe W' hq=> ?_;obtain⟨μ',q1,q2,q3⟩:=hq;cases e with
 |returned v'=>
  have hv:VR μ' (.bool true) v':=q1;cases hv;exact⟨rfl,St.below q3 hro⟩
 |panicked _=>exact q1.elim
 |outgrown=>exact q1.elim
end Go.A.Pk
end
