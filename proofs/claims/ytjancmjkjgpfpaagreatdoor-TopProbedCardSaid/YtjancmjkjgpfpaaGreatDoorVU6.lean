/- Walks of functions, plain laws, the table. -/
import Derived.Test.YtjancmjkjgpfpaaGreatDoorVU5
import Derived.Test.YtjancmjkjgpfpaaGreatDoorVF
import Derived.Test.YtjancmjkjgpfpaaGreatDoorVD
import Derived.Test.YtjancmjkjgpfpaaGreatDoorVU2
import Derived.Test.YtjancmjkjgpfpaaGreatDoorVU4
import Derived.Test.YtjancmjkjgpfpaaGreatDoorVU3
set_option linter.all false
set_option maxHeartbeats 16000000
set_option maxRecDepth 100000
section
namespace Go.A.Pk
variable {T:Nat->Option an}
end Go.A.Pk
end
section
namespace Go.A.Pk
variable {T:Nat->Option an}
structure Xm (R ks:List Int):Prop where
 mem:∀c,c∈ks↔c∈R
 nd:(R.filter λi=>decide (i≠ -1)).Nodup
end Go.A.Pk
end
section
namespace Go.A.Pk
variable {T:Nat->Option an}
def iY(mm:List (List Nat×Int))(f:List Nat):Int:=match kC f 0 mm with|some (_,v)=>v|none=>0
theorem Aj{base:Nat}{h:Heap}{e:Env}{m k:Operand}{r:Nat}{mm:List (List Nat×Int)}{f:List Nat}(hm:ev h e m=some (.map (some r)))(hk:ev h e k=some (fV f))(hr:sA (h.get r)=some (fP mm))(hf:f.length=8)(h8:∀x∈mm,x.1.length=8):
 aop h base e (.lookup true (aK 8 (.i .u8)) (.int .i64 0) false m k)=some (.val (.int .i64 (iY mm f)) h):=by
 unfold iY;simp only[aop,hm,hk,hr,ED hf,cond_true,findF hf h8];cases kC f 0 mm<;>rfl
section
open I
def Ck:aR:=(I.R [M 9 19] [4,5,6,7,8,9])
def Cq:aR:=(.block 1 (I.Q (I.R [g 10 (.mov (.const (.bool false)))] [4,5,6,7,8,9,10])
 (I.Q (.seq (I.R [g 20 (.build [(.int .u8 0),(.int .u8 0)] [(0,1,(.const (.int .u8 1))),(1,1,(.const (.int .u8 2)))]),K 21 0] [4,5,6,7,8,9,10,20,21])
 (.block 2 (.loop (I.Q (I.R [C 22 .lss 21 2] [4,5,6,7,8,9,10,20,21,22])
 (I.Q (.cond (t 22) .skip (.exit 2))
 (I.Q (.block 3 (I.Q (I.R [g 23 (.qR 2 1 none (t 20) (t 21)),M 12 23] [4,5,6,7,8,9,10,12,20,21])
 (I.Q (I.R [N 24 8 6,M 25 9,M 26 12,g 27 (.call (.func 20) [(t 24),(t 25),(t 26)]),g 13 (.new (aK 8 (.int .u8 0))),S 8 13 27] [4,5,6,7,8,9,10,13,20,21])
 (I.Q (I.R [L 29 4,N 30 8 13,g 31 (.call (.func 37) [(t 29),(t 30)]),M 28 31,E 32 28 0,E 33 28 1,M 14 32,M 15 33] [4,5,6,7,8,9,10,13,14,20,21])
 (I.Q (.draw [M 34 14,M 35 34,⟨some 36, .load none (t 7),(some (35,true))⟩,⟨some 37, .load none (t 4),(some (35,true))⟩,⟨some 38, .bX (t 37),(some (35,true))⟩,⟨some 39, .dN 16 (t 38),(some (35,true))⟩,⟨some 40, .load none (t 39),(some (35,true))⟩,W 41 9 35 true,⟨some 42, .aO 9 (t 40) (t 41),(some (35,true))⟩,⟨some 43, .dN 8 (t 42),(some (35,true))⟩,⟨some 44, .load none (t 43),(some (35,true))⟩,⟨some 45, .bin (.num .leq) (t 36) (t 44),(some (35,true))⟩,W 46 45 35 true,⟨some 47, .load none (t 5),(some (46,false))⟩,⟨some 48, .load (some 8) (t 13),(some (46,false))⟩,⟨some 49, .lookup true (aK 8 (.i .u8)) O false (t 47) (t 48),(some (46,false))⟩,⟨some 50, .load none (t 7),(some (46,false))⟩,⟨some 51, .load none (t 4),(some (46,false))⟩,⟨some 52, .bX (t 51),(some (46,false))⟩,⟨some 53, .dN 16 (t 52),(some (46,false))⟩,⟨some 54, .load none (t 53),(some (46,false))⟩,W 55 9 46 false,⟨some 56, .aO 9 (t 54) (t 55),(some (46,false))⟩,⟨some 57, .dN 8 (t 56),(some (46,false))⟩,⟨some 58, .load none (t 57),(some (46,false))⟩,⟨some 59, .bin (.num .sub) (t 50) (t 58),(some (46,false))⟩,⟨some 60, .bin (.num .geq) (t 49) (t 59),(some (46,false))⟩,⟨some 61, .pick (t 46) (.const (.bool true)) (t 60),(some (35,true))⟩,g 62 (.pick (t 35) (t 61) (.const (.bool false)))] [0,1,2,3,4,5,6,7,8,9,10,11,12,13,14,15,16,17,18,19,20,21,22,23,24,25,26,27,28] [0,1,3,3,11,27,59,3,251,507,1019,2047,4095,8191,8191,32767,8191,8191,139263,401407,925695,8191,4071423,8265727,16654335,33497087,67108863,134217727,268435455] [4,5,6,7,8,9,10,20,21,62])
 (.cond (t 62) (I.R [g 10 (.mov (.const (.bool true)))] [4,5,6,7,8,9,10,20,21]) .skip))))))
 (I.R [C 63 .add 21 1,M 21 63] [4,5,6,7,8,9,10,20,21])))))))
 (I.Q (I.R [M 64 10,g 65 (.un .not (t 64))] [8,65])
 (.cond (t 65) (I.Q (I.R [⟨none, .store 1 (t 8) (.const (.bool false)),none⟩] [])
 .ret) .skip)))))
end
structure IY (T:Nat->Option an):Prop where
 op:uf T
 f109:T 38=some f109
def hoE(b:Nat)(fn:Value):Env:=[(4, .pointer (some ⟨b,0,none⟩)),(5, .pointer (some ⟨b+1,0,none⟩)),(6, .pointer (some ⟨b+2,0,none⟩)),(7, .pointer (some ⟨b+3,0,none⟩)),(8, .pointer (some ⟨b+4,0,none⟩)),(18,fn)]
def okP(w:List Nat×List Nat)(l:List Pb)(lk:List Nat->Int)(f:List Nat)(c:Int)(p:Nat):Bool:=th w l lk f c p 1||th w l lk f c p 2
structure HoB (H:Heap) (b q r:Nat) (f:List Nat) (c:Int) (mm:List (List Nat×Int)):Prop where
 g4:H.get b=some (.cells [.pointer (some ⟨q,0,none⟩)] true 1)
 g5:H.get (b+1)=some (.cells [.map (some r)] true 1)
 g6:H.get (b+2)=some (.cells (fL f) true 1)
 g7:H.get (b+3)=some (.cells [.int .i64 c] true 1)
 g8:H.get (b+4)=some (.cells [.bool false] true 1)
 gm:sA (H.get r)=some (fP mm)
theorem HoB.old{H H':Heap}{b q r:Nat}{f:List Nat}{c:Int}{mm:List (List Nat×Int)}(B:HoB H b q r f c mm)(hb:b+4<H.next)(hr:r<H.next)(ho:∀z,z<H.next->H'.get z=H.get z):HoB H' b q r f c mm:=
 ⟨(ho _ (by omega)).trans B.g4,(ho _ (by omega)).trans B.g5,(ho _ (by omega)).trans B.g6,(ho _ (by omega)).trans B.g7,(ho _ (by omega)).trans B.g8,by rw[ho r hr];exact B.gm⟩
theorem Et(F:IY T){H:Heap}(hr:Rdy H){q m:Nat}{w:List Nat×List Nat}{pv nv ov:Value}{l:List Pb}{os:List (List Nat)}{ns:List (List (List Nat))}(hc:∀p∈l,1<=p.cost/\p.cost<=1000)(Qh:QuH H q m w pv nv ov l os ns){f:List Nat}(hf:f.length=8)
 {lp b r p:Nat}{fn:Value}{c:Int}(hcb:1<=c/\c<=100000){mm:List (List Nat×Int)}(h8:∀x∈mm,x.1.length=8)(gl:H.get lp=some (.loop (hoE b fn) [19] Ck Cq 0 .normal))(B:HoB H b q r f c mm)(hpl:p<l.length)(hrl:r<lp)(hbl:b+4<lp):
 FW T (.yield lp) [.int .i64 (p:Nat)] H λr' H'=>(∀z∈H'.log,z=b+4∨z=lp)/\(r'= .ret (.bool true)/\(okP w l (iY mm) f c p=true/\(∀z,z<H.next->H'.get z=H.get z)/\H.next<=H'.next)∨r'= .ret (.bool false)/\lp∈H'.log/\(okP w l (iY mm) f c p=false/\(∀z,z<H.next->z≠b+4->z≠lp->H'.get z=H.get z)/\H'.get (b+4)=some (.cells [.bool false] true 1)/\H'.get lp=some (.loop (hoE b fn) [19] Ck Cq 2 .ret))):=by
 have kl:=hr.wf.bK gl;have kq:=hr.wf.bK Qh.gq;have nql:q≠lp:=λe=>by have:=Qh.gq;rw[e,gl]at this;cases this
 refine FW.ND F.op.qu.p (.inl rfl) (W:=λz=>z=b+4∨z=lp) (R:=λH'=>okP w l (iY mm) f c p=true/\(∀z,z<H.next->H'.get z=H.get z)/\H.next<=H'.next) (S:=λH'=>okP w l (iY mm) f c p=false/\(∀z,z<H.next->z≠b+4->z≠lp->H'.get z=H.get z)/\H'.get (b+4)=some (.cells [.bool false] true 1)/\H'.get lp=some (.loop (hoE b fn) [19] Ck Cq 2 .ret)) gl rfl kl (.inr rfl) ?_;unfold Ck hoE;refine Y2 ?_;refine bL ?_;refine y1 ?_;refine⟨rfl,gl,?_⟩;unfold Cq;refine kG ?_;refine WE.uM ?_;intro hA hAe;have A1:∀z,z<H.next->z≠lp->H.get z=hA.get z:=λz hz hne=>by rw[hAe];exact(z5 hne).symm
 have A2:hA.get lp=some (.loop (hoE b fn) [19] Ck Cq 1 .normal):=by rw[hAe];exact Heap.aI gl
 have A5:hA.next=H.next:=by rw[hAe];rfl
 have A6:hA.log=[]:=by rw[hAe,Heap.aB (by omega)];exact hr.log
 have A7:WF hA:=by rw[hAe];exact hr.wf.as (AS.wr _ _ _ _)
 clear hAe;have hne:∀(b:Nat) vs own sz,H.get b=some (.cells vs own sz)->b≠lp:=λb vs own sz g e=>by rw[e,gl]at g;cases g
 have keepL:∀{sz n:Nat} {v:Value} {cs:List Value},aJ H sz v n cs->aJ hA sz v n cs:=λ{sz n v cs} s=>by
  cases s with
  |nil=>exact .nil
  |mem s hc=>
   obtain⟨vs,own,t,u1,u2⟩:=s.obj;exact .mem ⟨by rw[A5];exact s.lt,⟨vs,own,t,(A1 _ s.lt (hne _ _ _ _ u1)).symm.trans u1,u2⟩,s.len⟩ hc
 obtain⟨mm0,gm0,hmm0⟩:=Qh.mem;have nml:m≠lp:=λe=>by rw[e,gl]at gm0;cases gm0
 have km:=hr.wf.bK gm0;have QA:QuH hA q m w pv nv ov l os ns:=by
  obtain⟨vals,s1,s2⟩:=Qh.sn.ex;exact⟨Qh.hw,(A1 q kq nql).symm.trans Qh.gq,⟨keepL Qh.sp.sl,Qh.sp.ok⟩,Qh.hl,⟨keepL Qh.so.sl,Qh.so.ok⟩,Qh.hol,⟨vals,keepL s1,λi r hi=>by
   obtain⟨v,hv,sv⟩:=s2 i r hi;exact⟨v,hv,⟨keepL sv.sl,sv.ok⟩⟩⟩,Qh.hns,Qh.hrn,⟨mm0,(A1 m km nml).symm.trans gm0,hmm0⟩⟩
 have BA:HoB hA b q r f c mm:=⟨(A1 _ (by omega) (by omega)).symm.trans B.g4,(A1 _ (by omega) (by omega)).symm.trans B.g5,(A1 _ (by omega) (by omega)).symm.trans B.g6,(A1 _ (by omega) (by omega)).symm.trans B.g7,(A1 _ (by omega) (by omega)).symm.trans B.g8,by rw[←A1 r (by omega) (by omega)];exact B.gm⟩;clear keepL hne gm0 km nml;obtain⟨x,hx⟩:∃x,l[p]? =some x:=⟨l[p],List.getElem?_eq_getElem hpl⟩;have hl8:=Qh.hl;have hp8:p<8:=by omega
 obtain⟨bb,o,cp,vs,own,tt,hpv,gb,hbl2,gat⟩:=QA.sp.elem hx;subst hpv;have hcost:=tA hx;have hcx:=hc x (List.mem_of_getElem? hx);have kc:=gat.cost;have hw:=Qh.hw;have kp:=qA hw (.slice (some ⟨bb,o,none⟩) l.length cp) nv ov (.map (some m));have kf8:=iq hf;have kf9:=fJ hf;have kbA:b+4<hA.next:=by omega
 refine Y9 ?_
 refine cM (λk e ds h'=>∃j:Nat,j<=2/\k=2-j/\e=[(4, .pointer (some ⟨b,0,none⟩)),(5, .pointer (some ⟨b+1,0,none⟩)),(6, .pointer (some ⟨b+2,0,none⟩)),(7, .pointer (some ⟨b+3,0,none⟩)),(8, .pointer (some ⟨b+4,0,none⟩)),(9, .int .i64 (p:Nat)),(10, .bool (([1,2].take j).any λa=>th w l (iY mm) f c p a)),(20, .agg #[.int .u8 1, .int .u8 2]),(21, .int .i64 (j:Nat))]/\ds=[]/\Ext hA h')
  ⟨0,by omega,rfl,rfl,rfl, .refl hA⟩ ?_
 rintro k e ds G ⟨j,hj,rfl,rfl,rfl,xG⟩;have WG:=xG.wf A7;have hLG:=xG.log.trans A6;have nG:=xG.next
 by_cases hj2:j<2
 ·obtain⟨a,ha,hag,hst⟩:∃a:Nat,(a=1∨a=2)/\bH (#[Value.int .u8 1, .int .u8 2]:Array Value).toList (j*1)=some (.int .u8 ((a:Nat):Int))/\[1,2].take (j+1)=[1,2].take j++[a]:=by
   have:j=0∨j=1:=by omega
   rcases this with rfl|rfl
   ·exact⟨1, .inl rfl,rfl,rfl⟩
   ·exact⟨2, .inr rfl,rfl,rfl⟩
  have hany:([1,2].take (j+1)).any (λa=>th w l (iY mm) f c p a)=(([1,2].take j).any (λa=>th w l (iY mm) f c p a)||th w l (iY mm) f c p a):=by rw[hst,List.any_append];simp
  generalize([1,2].take j).any (λa=>th w l (iY mm) f c p a)=acc at*;have mlt:aq .lss (.int .i64 (j:Nat)) (.int .i64 2)=some (.bool true):=ei (by omega);have BG:=BA.old kbA (by omega) xG.old;have QG:=QA.ext A7 xG;have h6:=BG.g6;have C1:=mF F.op (h:={G with log:=[]}) (.of WG) hf hp8 (a:=a);have hsl:(f.set p a).length=8:=by rw[List.length_set];exact hf
  have hans:th w l (iY mm) f c p a=(bsB w (l.zip (f.set p a))&&(decide (c<=dK l p)||decide (c-dK l p<=iY mm (f.set p a)))):=rfl;rw[hans]at hany;clear hans;generalize hfs:f.set p a=g at*;have ks1:=iq hsl;have ks2:=fJ hsl;have ks3:(fL g).length=8:=by rw[dx];exact hsl
  have ks4:=kN g;have x3:=ff (h:=G) (base:=H.next) (by omega) (.cells (aK 8 (.int .u8 0)) true 1) (.cells (fL g) true 1);have g13:=fO (h:=G) (base:=H.next) (aK 8 (.int .u8 0)) (fL g);refine Y10 ?_;refine aD (vG (by exact rfl) (by exact rfl) (by omega) (by assumption)) ?_;refine Y7 ?_;refine FW.pu C1 ?_;clear C1;refine aD (uj) ?_;refine aD (bZ (by exact rfl) (by exact rfl) YG (by assumption) (by exact rfl) (by assumption)) ?_;refine y3 ?_;generalize((G.push (.cells (aK 8 (.int .u8 0)) true 1)).wr H.next G.next (.cells (fL g) true 1))=G2 at*;have x02:=xG.trans x3;have W2:=x3.wf WG;have hL2:=x3.log.trans hLG;have B2:=BA.old kbA (by omega) x02.old;have Q2:=QA.ext A7 x02;have e4:=B2.g4;have e5:=B2.g5;have e7:=B2.g7;have eq:=Q2.gq;have eb:=(x02.old bb hbl2).trans gb;have C2:=vf F.op (h:={G2 with log:=[]}) (.of W2) (Q2.log []) hsl;generalize fG w l ns g=opn at*;clear h6;cases hcan:bsB w (l.zip g)with
  |false=>
   rw[hcan]at C2 hany;rw[Bool.false_and,Bool.or_false]at hany;refine Y4 ?_;refine FW.pu C2 ?_;refine Y40 ?_;refine Y8 ?_;exact⟨2-(j+1),by omega,j+1,by omega,rfl,by rw[hany],rfl,x02⟩
  |true=>
   rw[hcan]at C2 hany;rw[Bool.true_and,hcost]at hany;by_cases hle:c<=x.cost
   ·rw[decide_eq_true hle,Bool.true_or,Bool.or_true]at hany;have mle:aq .leq (.int .i64 c) (.int .i64 x.cost)=some (.bool true):=rf hle;refine Y4 ?_;refine FW.pu C2 ?_;refine Y40 ?_;refine Y3 ?_;refine bL ?_;refine Y7 ?_;exact⟨2-(j+1),by omega,j+1,by omega,rfl,by rw[hany],rfl,x02⟩
   ·rw[decide_eq_false hle,Bool.false_or]at hany;have mle:aq .leq (.int .i64 c) (.int .i64 x.cost)=some (.bool false):=qZ (by omega);have msub:aq .sub (.int .i64 c) (.int .i64 x.cost)=some (.int .i64 (c-x.cost)):=mA (ct (by omega) (by omega));have mge:aq .geq (.int .i64 (iY mm g)) (.int .i64 (c-x.cost))=some (.bool (decide (c-x.cost<=iY mm g))):=sq;generalize decide (c-x.cost<=iY mm g)=bge at*;cases bge with
    |true=>
     rw[Bool.or_true]at hany;refine Y4 ?_;refine FW.pu C2 ?_;refine Y23 ?_;refine bW rfl rfl rfl (by exact rfl) (by exact rfl) (by exact rfl) (Aj (mm:=mm) (f:=g) (by exact rfl) (by exact rfl) B2.gm hsl h8) ?_;refine Y19 ?_;refine bL ?_;refine Y7 ?_;exact⟨2-(j+1),by omega,j+1,by omega,rfl,by rw[hany],rfl,x02⟩
    |false=>
     rw[Bool.or_false]at hany;refine Y4 ?_;refine FW.pu C2 ?_;refine Y23 ?_;refine bW rfl rfl rfl (by exact rfl) (by exact rfl) (by exact rfl) (Aj (mm:=mm) (f:=g) (by exact rfl) (by exact rfl) B2.gm hsl h8) ?_;refine Y24 ?_;exact⟨2-(j+1),by omega,j+1,by omega,rfl,by rw[hany],rfl,x02⟩
 ·obtain rfl:j=2:=by omega
  have mlt:aq .lss (.int .i64 (2:Nat)) (.int .i64 2)=some (.bool false):=rfl;have hok:([1,2].take 2).any (λa=>th w l (iY mm) f c p a)=okP w l (iY mm) f c p:=by
   unfold okP;simp
  rw[hok];have e8:=(BA.old kbA (by omega) xG.old).g8;have eL:=(xG.old lp (by omega)).trans A2;cases hk:okP w l (iY mm) f c p with
  |true=>
   refine Y17 ?_;exact⟨⟨_,eL,rfl⟩,λz hz=>(by rw[hLG]at hz;cases hz), .inl ⟨rfl,λh5 hn5 ha5 hl5=>⟨rfl,λz hz=>by
    by_cases hzl:z=lp
    ·subst hzl;rw[hl5,gl];rfl
    ·exact(ha5 z hz hzl).trans ((xG.old z (by omega)).trans (A1 z hz hzl).symm),by omega⟩⟩⟩
  |false=>
   refine Y20 ?_;refine⟨⟨_,(z5 (by omega)).trans eL,rfl⟩,λz hz=> ?_, .inr ⟨rfl,λh5 hn5 ha5 hl5=>⟨rfl,λz hz h1 h2=>(ha5 z h2).trans ((z5 h1).trans ((xG.old z (by omega)).trans (A1 z hz h2).symm)),(ha5 _ (by omega)).trans (Heap.aI e8),hl5⟩⟩⟩;rcases dw hz with rfl|hz
   ·exact .inl rfl
   ·rw[hLG]at hz;cases hz
structure PHo (N b:Nat) (H0:Heap) (L:bG) (ok:Nat->Bool) (done:List Nat) (H:Heap):Prop where
 old:∀z,z<N->H.get z=H0.get z
 loop:H.get N=some L
 nx:N<H.next
 all:∀p∈done,ok p=true
structure SHo (N b:Nat) (H0:Heap) (L:bG) (ok:Nat->Bool) (all:List Nat) (H:Heap):Prop where
 ex:∃p∈all,ok p=false
 old:∀z,z<N->z≠b->H.get z=H0.get z
 b8:H.get b=some (.cells [.bool false] true 1)
 loop:H.get N=some L
theorem Ke(F:IY T){h:Heap}(hr:Rdy h){q m:Nat}{w:List Nat×List Nat}{pv nv ov:Value}{l:List Pb}{os:List (List Nat)}{ns:List (List (List Nat))}(hc:∀p∈l,1<=p.cost/\p.cost<=1000)(Qh:QuH h q m w pv nv ov l os ns){f:List Nat}(hf:f.length=8){c:Int}(hcb:1<=c/\c<=100000){r:Nat}{mm:List (List Nat×Int)}(h8:∀x∈mm,x.1.length=8)(hrn:r<h.next)(gm:sA (h.get r)=some (fP mm)):
 Pu T 38 [.pointer (some ⟨q,0,none⟩), .map (some r),fV f, .int .i64 c] h (.bool (qq w l (iY mm) f c)):=by
 have hp:=F.op.qu.p;refine .of hp F.f109 hr rfl ?_;have hfc:=gF f;refine cW (E0:=[(4, .pointer (some ⟨h.next,0,none⟩)),(5, .pointer (some ⟨h.next+1,0,none⟩)),(6, .pointer (some ⟨h.next+2,0,none⟩)),(7, .pointer (some ⟨h.next+3,0,none⟩)),(8, .pointer (some ⟨h.next+4,0,none⟩))]) (P:=λh'=>Ext h h'∧h'.next=h.next+5/\HoB h' h.next q r f c mm) ?_ ?_
 ·refine Y6 ?_;refine bL ?_;refine y1 ?_;rw[hfc];refine⟨rfl,rfl,rfl,(((((Ext.refl h).push _).push _).push _).push _).push _,rfl,⟨YG,YG,YG,YG,YG,?_⟩⟩;rw[z4 (by simp only[z1];omega),z4 (by simp only[z1];omega),z4 (by simp only[z1];omega),z4 (by simp only[z1];omega),z4 hrn];exact gm
 rintro H1 ⟨x1,n1,B1⟩;have W1:=x1.wf hr.wf;have hL1:=x1.log.trans hr.log;have Q1:=Qh.ext hr.wf x1;have C:=AN F.op (h:={H1 with log:=[]}) (.of W1) (.pointer (some ⟨q,0,none⟩)) f rfl;have e4:=B1.g4;have e6:=B1.g6;have kf8:=iq hf;have kf9:=fJ hf;refine Y5 ?_;refine FW.al C (λv h' m q=>q) ?_;clear C e4 e6;rintro _ H5 x5 ⟨rfl,n5,gb1,gb2⟩;have n5:H5.next=H1.next+2:=n5
 have gb1:H5.get H1.next=some (.cells [.pointer (some ⟨q,0,none⟩)] true 1):=gb1
 have gb2:H5.get (H1.next+1)=some (.cells (fL f) true 1):=gb2;have W5:=x5.wf W1;have hL5:=x5.log.trans hL1;have x05:=x1.trans x5;have B5:=B1.old (by omega) (by omega) x5.old;generalize hfn:(.func (.func 45) #[] #[.pointer (some ⟨H1.next,0,none⟩), .pointer (some ⟨H1.next+1,0,none⟩)]:Value)=fn;generalize hL0:(.loop (hoE h.next fn) [19] Ck Cq 0 .normal:bG)=L0;generalize hL2:(.loop (hoE h.next fn) [19] Ck Cq 2 .ret:bG)=L2;have hstab:∀done Ha Hb,PHo H5.next (h.next+4) H5 L0 (okP w l (iY mm) f c) done Ha->H5.next+1<=Hb.next->(∀x,x<H5.next+1->Hb.get x=Ha.get x)->PHo H5.next (h.next+4) H5 L0 (okP w l (iY mm) f c) done Hb:=λdone Ha Hb p n e=>
  ⟨λz hz=>(e z (by omega)).trans (p.old z hz),(e _ (by omega)).trans p.loop,by omega,p.all⟩
 have Y:I6 .ret T (λz=>z=h.next+4∨z=H5.next) (H5.next+1) H5.next (λp=>[.int .i64 ((p:Nat):Int)]) (bD l.length f) (PHo H5.next (h.next+4) H5 L0 (okP w l (iY mm) f c)) (SHo H5.next (h.next+4) H5 L2 (okP w l (iY mm) f c) (bD l.length f)):=by
  refine⟨λdone p Hh hx hrH hN hP=> ?_,hstab,λHh m p=>⟨p.ex,p.old,p.b8,p.loop⟩,λHh p=> ?_,λz hz=>by omega⟩
  ·obtain⟨hpl,hp0⟩:=gG.1 hx;have o5:∀z,z<H5.next->Hh.get z=H5.get z:=hP.old
   have xh:∀z,z<h.next->Hh.get z=h.get z:=λz hz=>(o5 z (by omega)).trans (x05.old z hz)
   obtain⟨mm0,gm0,hmm0⟩:=Qh.mem;have QHh:QuH Hh q m w pv nv ov l os ns:=Qh.keep hr.wf (by omega) (λz hz _=>xh z hz) ⟨mm0,(xh m (hr.wf.bK gm0)).trans gm0,hmm0⟩;have hlp:=hP.loop;rw[←hL0]at hlp;refine FW.mono' (Et F hrH hc QHh hf hcb h8 hlp (B5.old (by omega) (by omega) o5) hpl (by omega) (by omega)) ?_;rintro r' H' ⟨r1,r2⟩;refine⟨r1,r2.imp (λ⟨e1,e2,e3,e4⟩=>⟨e1,⟨λz hz=>(e3 z (by have:=hP.nx;omega)).trans (hP.old z hz),(e3 _ hP.nx).trans hP.loop,Nat.lt_of_lt_of_le hP.nx e4,λy hy=> ?_⟩⟩) λ⟨e1,e2,e3,e4,e5,e6⟩=>⟨e1,e2,⟨⟨p,hx,e3⟩,λz hz hne=>(e4 z (by have:=hP.nx;omega) hne (by omega)).trans (hP.old z hz),e5,by rw[←hL2];exact e6⟩⟩⟩;rcases List.mem_append.1 hy with hy|hy
   ·exact hP.all y hy
   ·rw[List.mem_singleton]at hy;subst hy;exact e2
  ·have:=p.loop;rw[←hL2]at this;exact⟨_,_,_,_,this⟩
 rw[←hfn];refine Y2 ?_;refine Ad (px:= .ret) (W:=λz=>z=h.next+4∨z=H5.next) (P:=PHo H5.next (h.next+4) H5 L0 (okP w l (iY mm) f c) (bD l.length f)) (S:=SHo H5.next (h.next+4) H5 L2 (okP w l (iY mm) f c) (bD l.length f)) rfl (by rfl) (by rw[F.op.f228];rfl) (by omega) W5 ?_ (λHh p=>by
  have:=p.loop;rw[←hL0]at this;exact⟨_,_,_,_,this⟩) (λHh p=>by
  have:=p.loop;rw[←hL2]at this;exact⟨_,_,_,_,this⟩) ?_ ?_
 ·have hL0':=hL0;rw[←hfn]at hL0';unfold hoE Ck Cq at hL0';rw[hL0'];have x6:Ext H5 {H5.push L0 with log:=[]}:=⟨Nat.le_succ _,by rw[hL5],λz hz=>z4 hz,λwf=>(wf.push L0).log _⟩;refine Gd F.op (h:={H5.push L0 with log:=[]}) (.of (W5.push L0)) ((Qh.ext hr.wf x05).ext W5 x6) hf (b1:=H1.next) (b2:=H1.next+1) ((x6.old _ (by omega)).trans gb1) Y (Nat.le_refl _) (Nat.lt_succ_self _) (λd Hh p=>(p.old _ (by omega)).trans gb2) ⟨λz hz=>x6.old z hz,z3 _ _,Nat.lt_succ_self _,λp hp=>by cases hp⟩
 ·intro h4 h5 k1 k2 k3 k4 k5 k6 hP;have hall:qq w l (iY mm) f c=true:=List.all_eq_true.2 hP.all;rw[hall];have D8:=(k5 (h.next+4) (by omega)).trans ((hP.old _ (by omega)).trans B5.g8);have hlg:h5.log=[]:=List.eq_nil_iff_forall_not_mem.2 λz hz=>by
   rcases k1 z hz with e|⟨e,e2⟩
   ·rw[hL5]at e;cases e
   ·omega
  refine Y6 ?_;exact aA ((Heap.aB (by omega)).trans hlg) (xU (b:=h.next+4) (o:=0) rfl (Heap.aI D8) rfl rfl) rfl
 ·intro h4 h5 k1 k2 k3 k4 k5 k6 hP;have hno:qq w l (iY mm) f c=false:=by
   obtain⟨p,hpm,e⟩:=hP.ex;unfold qq;rw[List.all_eq_false];exact⟨p,hpm,by unfold okP at e;rw[e];simp⟩
  rw[hno];have D8:=(k5 (h.next+4) (by omega)).trans hP.b8;have hlg:h5.log=[]:=List.eq_nil_iff_forall_not_mem.2 λz hz=>by
   rcases k1 z hz with e|⟨e,e2⟩
   ·rw[hL5]at e;cases e
   ·omega
  refine Y2 ?_;exact aA hlg (xU (b:=h.next+4) (o:=0) rfl D8 rfl rfl) rfl
def stE(x:Sta):List Nat×Int:=(cO x.found,x.cost)
def za(n:Nat)(s:List Sta)(i:Nat)(x:Sta):Prop:=x.found.length≠n∨(x.found.any λk=>decide (2<k))=true∨inR x.cost 1 100000=false∨∃y,0<i/\s[i-1]? =some y/\0<=cmF y.found x.found
structure FmI (l:List Pb) (s:List Sta) (i:Nat):Prop where
 ok:∀x∈s.take i,x.found.length=l.length/\(∀k∈x.found,k<=2)/\1<=x.cost/\x.cost<=100000
 up:∀(j:Nat) x y,j+1<i->s[j]? =some x->s[j+1]? =some y->j9 x.found<j9 y.found
theorem FmI.zero(l:List Pb)(s:List Sta):FmI l s 0:=⟨λx hx=>by simp at hx,λj x y h=>by omega⟩
theorem FmI.succ{l:List Pb}{s:List Sta}{i:Nat}(F:FmI l s i){x:Sta}(hx:s[i]? =some x)(hb:¬za l.length s i x):FmI l s (i+1):=by
 unfold za at hb;have h1:x.found.length=l.length:=Classical.byContradiction λq=>hb (.inl q);have h2:∀k∈x.found,k<=2:=λk hk=>by
  rcases Nat.lt_or_ge 2 k with q|q
  ·exact absurd (.inr (.inl (List.any_eq_true.2 ⟨k,hk,decide_eq_true q⟩))) hb
  ·exact q
 have h3:inR x.cost 1 100000=true:=by
  cases q:inR x.cost 1 100000 with
  |true=>rfl
  |false=>exact absurd (.inr (.inr (.inl q))) hb
 have h4:1<=x.cost/\x.cost<=100000:=of_decide_eq_true h3;refine⟨λy hy=> ?_,λj a b hj ha hb'=> ?_⟩
 ·rw[fQ hx]at hy;rcases List.mem_append.1 hy with hy|hy
  ·exact F.ok y hy
  ·rw[List.mem_singleton]at hy;subst hy;exact⟨h1,h2,h4⟩
 ·by_cases hji:j+1<i
  ·exact F.up j a b hji ha hb'
  ·obtain rfl:i=j+1:=by omega
   rw[hx]at hb';cases hb';have hac:¬0<=cmF a.found x.found:=λq=>hb (.inr (.inr (.inr ⟨a,by omega,by rw[Nat.add_sub_cancel];exact ha,q⟩)));have ham:a∈s.take (j+1):=List.mem_of_getElem? (i:=j) (by rw[List.getElem?_take_of_lt (by omega)];exact ha);obtain⟨a1,a2,_⟩:=F.ok a ham;have hneg:cmF a.found x.found<0:=by omega
   exact(AP (by rw[a1,h1]) a2 h2).1 ((As _ _).1 hneg)
theorem J4{l:List Pb}{s:List Sta}{i:Nat}{x:Sta}(hx:s[i]? =some x)(hb:za l.length s i x):¬F5 l s:=by
 intro ⟨f1,f2⟩;obtain⟨a1,a2,a3,a4⟩:=f1 x (List.mem_of_getElem? hx);rcases hb with q|q|q|⟨y,hi,hy,hc⟩
 ·exact q a1
 ·obtain⟨k,hk,h⟩:=List.any_eq_true.1 q;have:=a2 k hk;have:=of_decide_eq_true h;omega
 ·have:=of_decide_eq_false q;omega
 ·obtain⟨b1,b2,_⟩:=f1 y (List.mem_of_getElem? hy);have:=f2 (i-1) y x hy (by rw[show i-1+1=i by omega];exact hx);have:=(As _ _).2 ((AP (by rw[a1,b1]) b2 a2).2 this);omega
theorem FmI.form{l:List Pb}{s:List Sta}(F:FmI l s s.length):F5 l s:=by
 refine⟨λx hx=>F.ok x (by rw[List.take_length];exact hx),λi x y hx hy=>F.up i x y ?_ hx hy⟩;exact(List.getElem?_eq_some_iff.1 hy).1
theorem FmI.lt{l:List Pb}{s:List Sta}{i:Nat}(F:FmI l s i):∀(d j:Nat) x y,j+d+1<i->s[j]? =some x->s[j+d+1]? =some y->j9 x.found<j9 y.found
 |0,j,x,y,h,hx,hy=>F.up j x y h hx hy
 |d+1,j,x,y,h,hx,hy=>by
  obtain⟨z,hz⟩:∃z,s[j+d+1]? =some z:=by
   have:=(List.getElem?_eq_some_iff.1 hy).1;exact⟨s[j+d+1]'(by omega),List.getElem?_eq_getElem _⟩
  have h1:=F.lt d j x z (by omega) hx hz;have h2:=F.up (j+d+1) z y (by omega) hz (by rw[show j+d+1+1=j+(d+1)+1 by omega];exact hy);omega
theorem wH{f:List Nat}:∀{mm:List (List Nat×Int)} {i:Nat},(∀x∈mm,x.1≠f)->kC f i mm=none
 |[],_,_=>rfl
 |x::mm,i,h=>by
  unfold kC;rw[if_neg λe=>h x List.mem_cons_self e.symm];exact wH λy hy=>h y (List.mem_cons_of_mem _ hy)
theorem LY{a b:List Nat}(h1:a.length=b.length)(h:cO a=cO b):a=b:=by
 unfold cO at h;exact(List.append_inj h h1).1
theorem Df{l:List Pb}{s:List Sta}{i:Nat}{x:Sta}(F:FmI l s (i+1))(hx:s[i]? =some x):AQ ((s.take i).map stE) (cO x.found) x.cost=(s.take (i+1)).map stE:=by
 have hn:kC (cO x.found) 0 ((s.take i).map stE)=none:=wH λy hy e=>by
  obtain⟨z,hz,rfl⟩:=List.mem_map.1 hy;obtain⟨j,hj⟩:=List.mem_iff_getElem?.1 hz;have hjl:=(List.getElem?_eq_some_iff.1 hj).1;rw[List.length_take]at hjl;rw[List.getElem?_take_of_lt (by omega)]at hj;have hzx:z∈s.take (i+1):=List.mem_of_getElem? (i:=j) (by rw[List.getElem?_take_of_lt (show j<i+1 by omega)];exact hj);have hxx:x∈s.take (i+1):=List.mem_of_getElem? (i:=i) (by rw[List.getElem?_take_of_lt (show i<i+1 by omega)];exact hx);have e2:z.found=x.found:=LY (by rw[(F.ok z hzx).1,(F.ok x hxx).1]) e;have:=F.lt (i-j-1) j z x (by omega) hj (by rw[show j+(i-j-1)+1=i by omega];exact hx);rw[e2]at this;omega
 unfold AQ;rw[hn,fQ hx,List.map_append];rfl
theorem OC(s:List Sta)(g:List Nat):iY (s.map stE) g=lkS s g:=by
 unfold iY lkS;have key:∀(s:List Sta) (i:Nat),(match kC g i (s.map stE)with|some (_,v)=>v|none=>0)=(match s.find? (λx=>decide (cO x.found=g))with|some x=>x.cost|none=>0):=by
  intro s;induction s with
  |nil=>intro i;rfl
  |cons x s ih=>
   intro i;rw[List.map_cons,kC];by_cases e:cO x.found=g
   ·rw[if_pos (show g=(stE x).1 from e.symm),List.find?_cons_of_pos (by simpa using e)];rfl
   ·rw[if_neg (λq=>e q.symm),List.find?_cons_of_neg (by simpa using e)];exact ih (i+1)
 exact key s 0
theorem JV:∀{f g:List Nat},fL f=fL g->f=g
 |[],[],_=>rfl
 |[],_::_,h=>by cases h
 |_::_,[],h=>by cases h
 |a::f,b::g,h=>by
  have h1:(Value.int .u8 ((a:Nat):Int))= .int .u8 ((b:Nat):Int):=(List.cons.inj h).1;have h2:=JV (f:=f) (g:=g) (List.cons.inj h).2;have:((a:Nat):Int)=b:=by injection h1
  rw[h2];congr 1;omega
theorem RC{f g:List Nat}(h:fV f=fV g):f=g:=by
 have:=congrArg cellsOf h;rw[gF,gF]at this;exact JV this
def kvE(x:Sta):Value×Value:=(fV (cO x.found), .int .i64 x.cost)
theorem Di(s:List Sta):fP (s.map stE)=s.map kvE:=by unfold fP;rw[List.map_map];rfl
theorem Ox{x y:Sta}(h:kvE x=kvE y):cO x.found=cO y.found/\x.cost=y.cost:=by
 have h1:=congrArg Prod.fst h;have h2:(Value.int .i64 x.cost)= .int .i64 y.cost:=congrArg Prod.snd h;exact⟨RC h1,by injection h2⟩
theorem Pz{h:Heap}{m z:Nat}{es:List (Value×Value)}(hz:z<h.next)(hne:z≠m):((roM h m es).push .dead).get z=h.get z:=by
 rw[z4 (show z<(roM h m es).next from hz)];exact z5 (h:=h) (base:=0) (o:= .qn es) hne
theorem MA{h:Heap}{m:Nat}{es:List (Value×Value)}{o:bG}(hm:h.get m=some o)(hlt:m<h.next):((roM h m es).push .dead).get m=some (.qn es):=by
 rw[z4 (show m<(roM h m es).next from hlt)];exact Heap.aI (h:=h) (base:=0) (o:= .qn es) hm
theorem SP{h:Heap}{m:Nat}{es:List (Value×Value)}(w:WF h):WF ((roM h m es).push .dead):=((w.as (AS.wr 0 h m (.qn es))).log []).push .dead
structure IX (T:Nat->Option an):Prop where
 by':vr T
 ho:IY T
 od:B9 T
 f29:T 12=some f29
 f106:T 35=some f106
def caR(w:List Nat×List Nat)(l:List Pb)(os:List (List Nat))(s:List Sta)(b:Bool):Bool×Int:=if opE w l os≠0 then(false,opE w l os)else if 6561<s.length then(false,2)else(b,0)
def caT:aR:=tlC (tlC (tlC (tlC (tlC (tlC (cdF f29))))))
theorem Cg{w:List Nat×List Nat}{l:List Pb}{ns:List (List (List Nat))}{s:List Sta}:(∀kv∈fP (s.map stE),∀x∈s,kv=kvE x->fG w l ns (cO x.found)=true/\qq w l (lkS s) (cO x.found) x.cost=true)↔ ∀x∈s,fG w l ns (cO x.found)=true/\qq w l (lkS s) (cO x.found) x.cost=true:=by
 rw[Di];exact⟨λh x hx=>h _ (List.mem_map.2 ⟨x,hx,rfl⟩) x hx rfl,λh kv _ x hx _=>h x hx⟩
theorem QuH.UP{h h':Heap}{q m r:Nat}{w:List Nat×List Nat}{pv nv ov:Value}{l:List Pb}{os:List (List Nat)}{ns:List (List (List Nat))}{es:List (Value×Value)}(Q:QuH h q m w pv nv ov l os ns)(hwf:WF h)(gr:h.get r=some (.map es))(hrm:r≠m)(hn:h.next<=h'.next)(ha:∀z,z<h.next->z≠r->h'.get z=h.get z):QuH h' q m w pv nv ov l os ns:=by
 obtain⟨mm,g1,g2⟩:=Q.mem;obtain⟨vals,s1,s2⟩:=Q.sn.ex;refine⟨Q.hw,(ha q (hwf.bK Q.gq) λe=> ?_).trans Q.gq,⟨aJ.uz Q.sp.sl gr hn ha,Q.sp.ok⟩,Q.hl,⟨aJ.uz Q.so.sl gr hn ha,Q.so.ok⟩,Q.hol,⟨vals,aJ.uz s1 gr hn ha,λi r hi=> ?_⟩,Q.hns,Q.hrn,mm,(ha m (hwf.bK g1) (λe=>hrm e.symm)).trans g1,g2⟩
 ·have:=Q.gq;rw[e,gr]at this;cases this
 ·obtain⟨v,hv,sv⟩:=s2 i r hi;exact⟨v,hv,⟨aJ.uz sv.sl gr hn ha,sv.ok⟩⟩
theorem P9{base:Nat}{rnd:Option Nat}{Q:XQ}{e e2:Env}{keep:List Nat}{ds:Dfs}{h:Heap}{c:aR}(he:bO e keep=e2)(H:WE T base rnd c Q e2 ds h):WE T base rnd c Q (bO e keep) ds h:=by rw[he];exact H
theorem NT(F:IX T){H:Heap}{base q m r:Nat}{w:List Nat×List Nat}{pv nv ov:Value}{l:List Pb}{os:List (List Nat)}{ns:List (List (List Nat))}(hc:∀p∈l,1<=p.cost/\p.cost<=1000)(W:WF H)(Qh:QuH H q m w pv nv ov l os ns){s:List Sta}(hform:F5 l s)(gr:H.get r=some (.map (fP (s.map stE))))(hrm:r≠m)(cost:Int){b:Bool}(hbb:b=true↔NN w l ns s cost){e:Env}
 (h4:geT e 4=some (.int .i64 cost))(h12:geT e 12=some (.pointer (some ⟨q,0,none⟩)))(h14:geT e 14=some (.map (some r))){Q:XQ}(HQ:∀(e':Env) (_:Unit),geT e' 10=some (.bool b)->geT e' 11=some (.int .i64 0)->Q .ret e' [] H):
 WE T base none caT Q e [] H:=by
 have hrl:=W.bK gr;have hl8:=Qh.hl;have h8:∀x∈s.map stE,x.1.length=8:=λx hx=>by
  obtain⟨y,hy,rfl⟩:=List.mem_map.1 hx;exact iG (by rw[(hform.1 y hy).1];exact hl8)
 have hk:bO ((86, .map (some r))::e) [4,12,14]=[(4, .int .i64 cost),(12, .pointer (some ⟨q,0,none⟩)),(14, .map (some r))]:=by
  simp only[bO,geT,Nat.beq,cond_false,h4,h12,h14]
 have hlk:iY (s.map stE)=lkS s:=funext λg=>OC s g;unfold caT tlC cdF f29;dsimp only;refine BQ ?_;refine DZ (m:=r) (e0:=(86, .map (some r))::e) (E2:=[(10, .bool false),(11, .int .i64 0)]) (es:=fP (s.map stE)) (EvO.mov h14) rfl gr rfl rfl (λkv=>∀x∈s,kv=kvE x->fG w l ns (cO x.found)=true/\qq w l (lkS s) (cO x.found) x.cost=true) ?_ ?_ ?_
 ·intro kv hkv;have hkv2:=hkv;rw[Di]at hkv2;obtain⟨x,hx,rfl⟩:=List.mem_map.1 hkv2;obtain⟨f1,f2,f3,f4⟩:=hform.1 x hx;have hx8:(cO x.found).length=8:=iG (by omega);refine⟨fG w l ns (cO x.found)&&qq w l (lkS s) (cO x.found) x.cost,⟨λh y hy e=> ?_,λh=> ?_⟩,?_⟩
  ·obtain⟨e1,e2⟩:=Ox e;rw[Bool.and_eq_true]at h;rw[←e1,←e2];exact h
  ·have:=h x hx rfl;rw[this.1,this.2];rfl
  rw[hk];have WM:=SP (m:=r) (es:=fP (s.map stE)) W;have oM:=λz hz hne=>Pz (h:=H) (m:=r) (z:=z) (es:=fP (s.map stE)) hz hne;have sM:=MA (es:=fP (s.map stE)) gr hrl;have nM:((roM H r (fP (s.map stE))).push .dead).next=H.next+1:=rfl
  have lM:((roM H r (fP (s.map stE))).push .dead).log=[]:=rfl;have QM:QuH ((roM H r (fP (s.map stE))).push .dead) q m w pv nv ov l os ns:=Qh.UP W gr hrm (by omega) oM;generalize(roM H r (fP (s.map stE))).push .dead=HM at*;unfold itE kvE;dsimp only;generalize hfp:cO x.found=f at*;have ks1:=iq hx8;have ks2:=fJ hx8;have ks3:(fL f).length=8:=by rw[dx];exact hx8
  have ks4:=kN f;have x3:=ff (h:=HM) (base:=H.next+1) (by omega) (.cells (aK 8 (.int .u8 0)) true 1) (.cells (fL f) true 1);have g13:=fO (h:=HM) (base:=H.next+1) (aK 8 (.int .u8 0)) (fL f);refine Y3 ?_;refine aD (bZ (by exact rfl) (by exact rfl) YG (by assumption) (by exact rfl) (by assumption)) ?_;refine yM ?_;refine bL ?_;refine⟨rfl,rfl,?_⟩;refine P9 (by simp only[bO,cC,geT,dZ,cond_true,cond_false,Nat.beq];exact rfl) ?_;generalize((HM.push (.cells (aK 8 (.int .u8 0)) true 1)).wr (H.next+1) HM.next (.cells (fL f) true 1))=H2 at*;have W2:=x3.wf WM;have hL2:=x3.log.trans lM;have Q2:=QM.ext WM x3;have C1:=vf F.ho.op (h:={H2 with log:=[]}) (.of W2) (Q2.log []) hx8;have C2:=Ke F.ho (h:={H2 with log:=[]}) (.of W2) hc (Q2.log []) hx8 (c:=x.cost) ⟨f3,f4⟩ (r:=r) (mm:=s.map stE) h8 (by show r<H2.next;have:=x3.next;omega) (by show sA (H2.get r)=_;rw[x3.old r (by omega),sM];rfl);rw[hlk]at C2;generalize bsB w (l.zip f)=can at*;cases ho:fG w l ns f with
  |false=>
   rw[ho]at C1;refine Y4 ?_;refine FW.pu C1 ?_;refine Y24 ?_;exact⟨rfl,hL2, .inr ⟨rfl,rfl,rfl⟩⟩
  |true=>
   rw[ho]at C1;cases hh:qq w l (lkS s) f x.cost with
   |false=>
    rw[hh]at C2;refine Y4 ?_;refine FW.pu C1 ?_;refine Y20 ?_;refine FW.pu C2 ?_;refine Y10 ?_;exact⟨rfl,hL2, .inr ⟨rfl,rfl,rfl⟩⟩
   |true=>
    rw[hh]at C2;refine Y4 ?_;refine FW.pu C1 ?_;refine Y20 ?_;refine FW.pu C2 ?_;refine Y6 ?_;exact⟨rfl,hL2, .inl ⟨rfl,rfl,by simp only[itE,DX,geT,Nat.beq,cond_true,cond_false,aX,dg,SX]⟩⟩
 ·intro hall;rw[hk];refine Ku ?_;have hgood:=Cg.1 hall;by_cases hc0:cost<=0
  ·have mle:aq .leq (.int .i64 cost) (.int .i64 0)=some (.bool true):=rf hc0;have hb:b=true:=hbb.2 ⟨hform,hgood, .inl hc0⟩;subst hb;refine Y14 ?_;exact HQ _ () rfl rfl
  ·have mle:aq .leq (.int .i64 cost) (.int .i64 0)=some (.bool false):=qZ (by omega);have mge:aq .geq (.int .i64 (iY (s.map stE) z8)) (.int .i64 cost)=some (.bool b):=by
    rw[sq,hlk];congr 2;rw[Bool.eq_iff_iff,decide_eq_true_eq,hbb];exact⟨λq=>⟨hform,hgood, .inr q⟩,λq=>q.2.2.resolve_left hc0⟩
   refine Y9 ?_;refine aD (Aj (mm:=s.map stE) (f:=z8) (by exact rfl) (by exact rfl) (by rw[gr];rfl) rfl h8) ?_;refine Y9 ?_;exact HQ _ () rfl rfl
 ·intro hno;have hb:b=false:=by
   cases q:b with
   |false=>rfl
   |true=>exact absurd (Cg.2 (hbb.1 q).2.1) hno
  subst hb;refine UN ?_;exact HQ _ () rfl rfl
theorem L4{f:List Nat}(h:f.length<=8):cU (fL z8) 0 (cw (f.length*1) (fL f))=fL (cO f):=by
 have e:cw (f.length*1) (fL f)=fL f:=by rw[Nat.mul_one,bI,List.take_of_length_le (by rw[dx];exact Nat.le_refl _)]
 have z8r:fL z8=List.replicate 8 (.int .u8 0):=rfl;rw[e,eY (by rw[dx,dx];exact(by show 0+f.length<=8;omega)),List.take_zero,List.nil_append,dx,Nat.zero_add,z8r,List.drop_replicate];unfold cO fL;rw[List.map_append,List.map_replicate];rfl
theorem WO.uM{base:Nat}{rnd:Option Nat}{Q:XQ}{ops:List aV}{e:Env}{ds:Dfs}{h:Heap}(hK:∀hA,hA=h->WO T base rnd Q ops e ds hA):WO T base rnd Q ops e ds h:=hK h rfl
theorem N0(F:IX T){h:Heap}(hr:Rdy h)(hg:Tab h)(h2:0<h.next){w:List Nat×List Nat}(hw:IsW w){pv:Value}{l:List Pb}(sp:PbS h pv l)(hl:l.length<1000000){ov:Value}{os:List (List Nat)}(so:SsQ h ov os)(hol:os.length<1000000){tv:Value}{s:List Sta}(S0:rK h tv s)(hsl:s.length<1000000)(hfl:∀x∈s,x.found.length<1000000)(cost:Int){b:Bool}(hbb:b=true↔NN w l (os.map (bQ w)) s cost):
 Pu T 12 [wV w,pv,ov,tv, .int .i64 cost] h (.tuple #[.bool (caR w l os s b).1, .int .i64 (caR w l os s b).2]):=by
 have hp:=F.ho.op.qu.p;refine .of hp F.f29 hr rfl ?_;have hwc:cellsOf (wV w)=wL w:=by show(wL w).toArray.toList=_;simp
 obtain⟨a,c,rfl⟩:=sp.form;obtain⟨a3,c3,rfl⟩:=so.sl.form;obtain⟨sa,sc,rfl⟩:=S0.form;have x0:Ext h (h.push (.cells (cellsOf (wV w)) true 1)):=(Ext.refl h).push _;have g0:(h.push (.cells (cellsOf (wV w)) true 1)).get h.next=some (.cells (wL w) true 1):=by rw[hwc];exact z3 h _
 have n0:(h.push (.cells (cellsOf (wV w)) true 1)).next=h.next+1:=rfl
 refine Y5 ?_;generalize(h.push (.cells (cellsOf (wV w)) true 1))=H at*;have W:=x0.wf hr.wf;have hL:=x0.log.trans hr.log;have wk:=lY hw;have wkl:=jh hw;have C1:=sI F.od (h:={H with log:=[]}) (.of W) (show Tab H from hg.ext x0 h2) (by show 0<H.next;omega) hw ((sp.ext x0).log []) hl ((so.ext x0).log []) hol;unfold caR;refine Y5 ?_;refine FW.al C1 (λv h' m q=> ?_) ?_
 ·rcases q with q|⟨e,q,m',nv,e1,e2,e3,e4,e5⟩
  ·exact .inl q
  ·exact .inr ⟨e,q,m',nv,e1,e2,e3,e4.log m,e5⟩
 clear C1;rintro _ H1 x1 hq;have W1:=x1.wf W;have hL1:=x1.log.trans hL;have n1:=x1.next
 clear g0;rcases hq with⟨he,rfl⟩|⟨he,q,m,nv,rfl,hq1,hq2,Q1,gm⟩
 ·simp only[if_pos he];generalize opE w l os=er at*;have mn:aq .neq (.int .i64 er) (.int .i64 0)=some (.bool true):=jE he;refine Y19 ?_;exact aA hL1 rfl rfl
 simp only[if_neg (λq:opE w l os≠0=>q he)];have mn:aq .neq (.int .i64 0) (.int .i64 0)=some (.bool false):=rfl;by_cases h65:6561<s.length
 ·have mg:aq .gtr (.int .i64 (s.length:Nat)) (.int .i64 6561)=some (.bool true):=jD (by omega);simp only[if_pos h65];refine Y27 ?_;exact aA hL1 rfl rfl
 have mg:aq .gtr (.int .i64 (s.length:Nat)) (.int .i64 6561)=some (.bool false):=ji (by omega);simp only[if_neg h65];have x01:=x0.trans x1;have hpc:=sL (jl.1 (nu.1 he).1).2.2.2.2;have hl8:=Q1.hl;refine Y24 ?_;refine aD FL ?_;refine WO.uM ?_;intro H2 hAe;have x2:Ext H1 H2:=by rw[hAe];exact(Ext.refl H1).push _
 have gr0:H2.get H1.next=some (.map (fP [])):=by rw[hAe];exact z3 H1 _
 have n2:H2.next=H1.next+1:=by rw[hAe];rfl
 clear hAe;have W2:=x2.wf W1;have hL2:=x2.log.trans hL1;have x02:=x01.trans x2;have Q2:=Q1.ext W1 x2;obtain⟨mm0,gm0,hmm0⟩:=Q1.mem;have hmn:=W1.bK gm0;refine Y9 ?_
 refine cM (λk e ds h'=>∃i:Nat,i<=s.length/\k=s.length-i/\e=[(1, .slice a l.length c),(3, .slice sa s.length sc),(4, .int .i64 cost),(12, .pointer (some ⟨q,0,none⟩)),(14, .map (some H1.next)),(36, .slice sa s.length sc),(37, .int .i64 (s.length:Nat)),(38, .int .i64 (i:Nat))]/\ds=[]/\h'.log=[]/\WF h'∧H2.next<=h'.next/\(∀z,z<H1.next->h'.get z=H1.get z)/\h'.get H1.next=some (.map (fP ((s.take i).map stE)))/\FmI l s i)
  ⟨0,Nat.zero_le _,rfl,rfl,rfl,hL2,W2,Nat.le_refl _,x2.old,gr0, .zero l s⟩ ?_
 clear gr0;rintro k e ds G ⟨i,hi,rfl,rfl,rfl,hLG,WG,nG,oG,grG,FI⟩;have xhG:∀z,z<h.next->G.get z=h.get z:=λz hz=>(oG z (by omega)).trans (x01.old z hz)
 have nhG:h.next<=G.next:=by omega
 by_cases hlt:i<s.length
 ·obtain⟨x,hx⟩:∃x,s[i]? =some x:=⟨s[i],List.getElem?_eq_getElem hlt⟩;have mlt:aq .lss (.int .i64 (i:Nat)) (.int .i64 (s.length:Nat))=some (.bool true):=ei (by omega);obtain⟨b0,o0,c0,vs,own,tt,u,hsv,gb,hbl,kx,kx0,su⟩:=(S0.se nhG xhG).elem hx;cases hsv;obtain⟨ua,uc,rfl⟩:=su.form;have hxl:=hfl x (List.mem_of_getElem? hx);refine Y9 ?_;refine cW (E0:=[(1, .slice a l.length c),(3, .slice (some ⟨b0,o0,none⟩) s.length sc),(4, .int .i64 cost),(12, .pointer (some ⟨q,0,none⟩)),(14, .map (some H1.next)),(15, .int .i64 (i:Nat)),(16, .pointer (some ⟨G.next,0,none⟩)),(36, .slice (some ⟨b0,o0,none⟩) s.length sc),(37, .int .i64 (s.length:Nat)),(38, .int .i64 (i:Nat))]) (P:=λh'=>Ext G h'∧h'.next=G.next+1/\h'.get G.next=some (.cells [.slice ua x.found.length uc, .int .i64 x.cost] true 1)) ?_ ?_
  ·refine Y3 ?_;refine aD (dh (by exact rfl) (by assumption) (by assumption) (by exact rfl)) ?_;refine Y3 ?_;refine bL ?_;refine y1 ?_;exact⟨rfl,rfl,rfl,ff (by omega) _ _,rfl,fO _ _⟩
  rintro G1 ⟨y1',m1,g16⟩;refine cW (E0:=[(1, .slice a l.length c),(3, .slice (some ⟨b0,o0,none⟩) s.length sc),(4, .int .i64 cost),(12, .pointer (some ⟨q,0,none⟩)),(14, .map (some H1.next)),(15, .int .i64 (i:Nat)),(16, .pointer (some ⟨G.next,0,none⟩)),(17, .pointer (some ⟨G1.next,0,none⟩)),(36, .slice (some ⟨b0,o0,none⟩) s.length sc),(37, .int .i64 (s.length:Nat)),(38, .int .i64 (i:Nat))]) (P:=λh'=>Ext G1 h'∧h'.next=G1.next+1/\h'.get G1.next=some (.cells (fL z8) true 1)) ?_ ?_
  ·refine Y4 ?_;refine bL ?_;refine y1 ?_;exact⟨rfl,rfl,rfl,ff (by omega) _ _,rfl,fO _ _⟩
  rintro G2 ⟨y2',m2,g17⟩;have xG2:=y1'.trans y2';have WG2:=xG2.wf WG;have hLG2:=xG2.log.trans hLG;have g162:=(y2'.old _ (by omega)).trans g16;have su2:=su.ext xG2;have hfalse:za l.length s i x->b=false:=λhb=>by
   cases q:b with
   |false=>rfl
   |true=>exact absurd (hbb.1 q).1 (J4 hx hb)
  have C4:=Cw F.by' (h:={G2 with log:=[]}) (.of WG2) (SlJ.log su2 []) hxl
  have C6:=Kn hp F.f106 (h:={G2 with log:=[]}) (.of WG2) x.cost 1 100000;by_cases hc1:x.found.length=l.length;case neg=>
   have mne:aq .neq (.int .i64 (x.found.length:Nat)) (.int .i64 (l.length:Nat))=some (.bool true):=jE (by omega);have hb:=hfalse (.inl hc1);subst hb;refine Y40 ?_;refine Y11 ?_;exact aA hLG2 rfl rfl
  have mne:aq .neq (.int .i64 (x.found.length:Nat)) (.int .i64 (l.length:Nat))=some (.bool false):=tK (by omega);cases hc2:x.found.any (λk=>decide (2<k))with
  |true=>
   rw[hc2]at C4;have hb:=hfalse (.inr (.inl hc2));subst hb;refine Y13 ?_;refine FW.puD C4 (by(repeat apply aG rfl);exact bh) ?_;refine Y38 ?_;exact aA hLG2 rfl rfl
  |false=>
  rw[hc2]at C4;cases hc3:inR x.cost 1 100000 with
  |false=>
   rw[hc3]at C6;have hb:=hfalse (.inr (.inr (.inl hc3)));subst hb;refine Y13 ?_;refine FW.puD C4 (by(repeat apply aG rfl);exact bh) ?_;refine Y5 ?_;refine FW.puD C6 (by(repeat apply aG rfl);exact bh) ?_;refine Y33 ?_;exact aA hLG2 rfl rfl
  |true=>
  rw[hc3]at C6;have hf8:x.found.length<=8:=by omega
  have hp8:(cO x.found).length=8:=iG hf8;have kp1:=iq hp8;have kp2:=fJ hp8;have hcopy:=L4 hf8;have hones:dY (cw (x.found.length*1) (fL x.found))=true:=by rw[Nat.mul_one,bI,List.take_of_length_le (by rw[dx];exact Nat.le_refl _)];exact kN _
  have grG2:=(xG2.old _ (by omega)).trans grG;have h8:∀y∈(s.take i).map stE,y.1.length=8:=λy hy=>by
   obtain⟨z,hz,rfl⟩:=List.mem_map.1 hy;exact iG (by rw[(FI.ok z hz).1];exact hl8)
  rcases Nat.eq_zero_or_pos i with rfl|hpos
  ·have hnb:¬za l.length s 0 x:=λq=>by
    rcases q with q|q|q|⟨y,q,_⟩
    ·exact q hc1
    ·rw[hc2]at q;cases q
    ·rw[hc3]at q;cases q
    ·omega
   have FI1:=FI.succ hx hnb;have hput:=Df FI1 hx;have mgt:aq .gtr (.int .i64 ((0:Nat):Int)) (.int .i64 0)=some (.bool false):=rfl;refine Y13 ?_;refine FW.puD C4 (by(repeat apply aG rfl);exact bh) ?_;refine Y5 ?_;refine FW.puD C6 (by(repeat apply aG rfl);exact bh) ?_;refine Y26 ?_;refine bW rfl rfl rfl (by exact rfl) (by exact rfl) (by exact rfl) (jP (i:=0) (j:=8) (by exact rfl) rfl rfl (by omega) (by omega) (by omega) (by omega)) ?_;refine Y2 ?_;refine GK (b:=G1.next) (o:=0) (n:=8) (c:=8) (m:=x.found.length) (sz:=1) (k:=x.found.length) (vs:=fL z8) (l:=fL x.found) (ws:=fL (cO x.found)) rfl rfl rfl (by exact rfl) (by exact rfl) (by exact rfl) (vm su2.src) g17 (Nat.min_eq_left hf8) (by rw[dx];show 0+x.found.length*1<=8;omega) hones hcopy (by omega) (by omega) (by(repeat apply aG rfl);exact bh) ?_;refine Y5 ?_;refine aD (dh (by exact rfl) YG (by assumption) (by assumption)) ?_;refine Y2 ?_;refine aD (vH (mm:=(s.take 0).map stE) (f:=cO x.found) (n:=x.cost) (by exact rfl) (by exact rfl) (by exact rfl) ((z5 (by omega)).trans grG2) hp8 h8) ?_;refine bL ?_;refine Y7 ?_;refine⟨s.length-(0+1),by omega,0+1,by omega,rfl,rfl,rfl,?_,(WG2.as (AS.wr h.next _ _ _)).as (AS.wr h.next _ _ _),(by show H2.next<=G2.next;omega),λz hz=>(z5 (by omega)).trans ((z5 (by omega)).trans ((xG2.old z (by omega)).trans (oG z hz))),?_,FI1⟩
   ·rw[Heap.aB (by omega),Heap.aB (by omega)];exact hLG2
   ·rw[←hput];exact Heap.aI ((z5 (by omega)).trans grG2)
  ·obtain⟨y,hy⟩:∃y,s[i-1]? =some y:=⟨s[i-1]'(by omega),List.getElem?_eq_getElem _⟩;obtain⟨b5,o5,c5,vs5,own5,t5,u5,hsv5,gb5,hbl5,ky,ky0,su5⟩:=(S0.se (h':=G2) (by omega) (λz hz=>(xG2.old z (by omega)).trans (xhG z hz))).elem hy;cases hsv5;have mgt:aq .gtr (.int .i64 (i:Nat)) (.int .i64 0)=some (.bool true):=jD (by omega);have msub:aq .sub (.int .i64 (i:Nat)) (.int .i64 1)=some (.int .i64 ((i-1:Nat):Int)):=by
    rw[show(((i-1:Nat)):Int)=(i:Int)-1 by omega];exact mA (ct (by omega) (by omega))
   have hyl:=hfl y (List.mem_of_getElem? hy);have C7:=N3 F.by' (h:={G2 with log:=[]}) (.of WG2) (SlJ.log su5 []) (SlJ.log su2 []) hyl hxl
   by_cases hc4:0<=cmF y.found x.found
   ·have mge:aq .geq (.int .i64 (cmF y.found x.found)) (.int .i64 0)=some (.bool true):=tJ hc4;have hb:=hfalse (.inr (.inr (.inr ⟨y,hpos,hy,hc4⟩)));subst hb;refine Y13 ?_;refine FW.puD C4 (by(repeat apply aG rfl);exact bh) ?_;refine Y5 ?_;refine FW.puD C6 (by(repeat apply aG rfl);exact bh) ?_;refine Y15 ?_;refine FW.puD C7 (by(repeat apply aG rfl);exact bh) ?_;refine Y18 ?_;exact aA hLG2 rfl rfl
   ·have mge:aq .geq (.int .i64 (cmF y.found x.found)) (.int .i64 0)=some (.bool false):=nY (by omega);have hnb:¬za l.length s i x:=λq=>by
     rcases q with q|q|q|⟨z,_,q,q2⟩
     ·exact q hc1
     ·rw[hc2]at q;cases q
     ·rw[hc3]at q;cases q
     ·rw[hy]at q;cases q;exact hc4 q2
    have FI1:=FI.succ hx hnb;have hput:=Df FI1 hx;refine Y13 ?_;refine FW.puD C4 (by(repeat apply aG rfl);exact bh) ?_;refine Y5 ?_;refine FW.puD C6 (by(repeat apply aG rfl);exact bh) ?_;refine Y15 ?_;refine FW.puD C7 (by(repeat apply aG rfl);exact bh) ?_;refine Y11 ?_;refine bW rfl rfl rfl (by exact rfl) (by exact rfl) (by exact rfl) (jP (i:=0) (j:=8) (by exact rfl) rfl rfl (by omega) (by omega) (by omega) (by omega)) ?_;refine Y2 ?_;refine GK (b:=G1.next) (o:=0) (n:=8) (c:=8) (m:=x.found.length) (sz:=1) (k:=x.found.length) (vs:=fL z8) (l:=fL x.found) (ws:=fL (cO x.found)) rfl rfl rfl (by exact rfl) (by exact rfl) (by exact rfl) (vm su2.src) g17 (Nat.min_eq_left hf8) (by rw[dx];show 0+x.found.length*1<=8;omega) hones hcopy (by omega) (by omega) (by(repeat apply aG rfl);exact bh) ?_;refine Y5 ?_;refine aD (dh (by exact rfl) YG (by assumption) (by assumption)) ?_;refine Y2 ?_;refine aD (vH (mm:=(s.take i).map stE) (f:=cO x.found) (n:=x.cost) (by exact rfl) (by exact rfl) (by exact rfl) ((z5 (by omega)).trans grG2) hp8 h8) ?_;refine bL ?_;refine Y7 ?_;refine⟨s.length-(i+1),by omega,i+1,by omega,rfl,rfl,rfl,?_,(WG2.as (AS.wr h.next _ _ _)).as (AS.wr h.next _ _ _),(by show H2.next<=G2.next;omega),λz hz=>(z5 (by omega)).trans ((z5 (by omega)).trans ((xG2.old z (by omega)).trans (oG z hz))),?_,FI1⟩
    ·rw[Heap.aB (by omega),Heap.aB (by omega)];exact hLG2
    ·rw[←hput];exact Heap.aI ((z5 (by omega)).trans grG2)
 ·obtain rfl:i=s.length:=by omega
  have mlt:aq .lss (.int .i64 (s.length:Nat)) (.int .i64 (s.length:Nat))=some (.bool false):=eH (by omega);rw[List.take_length]at grG;have QG:QuH G q m w (.slice a l.length c) nv (.slice a3 os.length c3) l os (os.map (bQ w)):=Q1.keep W1 (by omega) (λz hz _=>oG z hz) ⟨mm0,(oG m hmn).trans gm0,hmm0⟩;have TAIL:∀{e:Env},geT e 4=some (.int .i64 cost)->geT e 12=some (.pointer (some ⟨q,0,none⟩))->geT e 14=some (.map (some H1.next))->WE T h.next none caT _ e [] G:=λh4 h12 h14=>NT F (base:=h.next) hpc WG QG FI.form grG (by omega) cost hbb h4 h12 h14 (λe' _ h10 h11=>aA hLG (lU h10 (lU h11 Py)) rfl)
  refine Y10 ?_;exact TAIL rfl rfl rfl
end Go.A.Pk
end
section
namespace Go.A.Pk
section
variable {w:List Nat×List Nat} {l:List Pb} {ns:List (List (List Nat))}
theorem MU(hc:∀p∈l,1<=p.cost/\p.cost<=1000):∀{k:Nat} {f:List Nat} {a:Nat},l.length<=f.length->bF w l ns f<100000->(dL w l ns k f a).2.length<2 ^ (bD l.length f).length:=by
 intro k;induction k with
 |zero=>intro f a _ _;exact Nat.pow_pos (by omega)
 |succ k ih=>
  intro f a hf hv;unfold dL;by_cases h0:bF w l ns f=0
  ·rw[if_pos h0];exact Nat.pow_pos (by omega)
  ·rw[if_neg h0];obtain⟨hbm,hbv⟩:=sW hc hf h0 hv;obtain⟨hbl,_⟩:=gG.1 hbm;generalize fq (dO w l ns f) (bD l.length f)=b at*;have hbf:b<f.length:=by omega
   have h1:=mw (n:=l.length) (f:=f) (a:=1) hbf (by omega) hbm;have h2:=mw (n:=l.length) (f:=f) (a:=2) hbf (by omega) hbm;have hco:=(mW hc hbl).1;unfold dO at hbv;have i1:=ih (f:=f.set b 1) (a:=a+1) (by rw[List.length_set];exact hf) (by omega);have i2:=ih (f:=f.set b 2) (a:=a+1+(dL w l ns k (f.set b 1) (a+1)).2.length) (by rw[List.length_set];exact hf) (by omega);have p1:2 ^ (bD l.length (f.set b 1)).length<=2 ^ ((bD l.length f).length-1):=Nat.pow_le_pow_right (by omega) (by omega);have p2:2 ^ (bD l.length (f.set b 2)).length<=2 ^ ((bD l.length f).length-1):=Nat.pow_le_pow_right (by omega) (by omega);have p3:2 ^ (bD l.length f).length=2*2 ^ ((bD l.length f).length-1):=by
    obtain⟨n,hn⟩:∃n,(bD l.length f).length=n+1:=⟨(bD l.length f).length-1,by omega⟩;rw[hn,Nat.pow_succ,Nat.add_sub_cancel];omega
   simp only[List.length_cons,List.length_append];omega
end
structure VaK (w:List Nat×List Nat) (l:List Pb) (os:List (List Nat)):Prop where
 hw:IsW w
 l5:l.length<=5
 ok:opE w l os=0
 hc:∀p∈l,1<=p.cost/\p.cost<=1000
 hs:∀p∈l,IsS p.cells
section
variable {w:List Nat×List Nat} {l:List Pb} {os:List (List Nat)}
theorem VaK.cost(K:VaK w l os):j5 w l os=if 100000<=bF w l (os.map (bQ w)) z8 then(0,81)else(bF w l (os.map (bQ w)) z8,0):=by
 rw[rQ,if_neg (λq=>q K.ok)]
theorem VaK.str(K:VaK w l os)(hV:bF w l (os.map (bQ w)) z8<100000):(uP w l os).length<=31/\U7 w l (os.map (bQ w)) (uP w l os) (bF w l (os.map (bQ w)) z8):=by
 have h8:l.length<=8:=by have:=K.l5;omega
 unfold uP;have hE:(j5 w l os).2=0:=by rw[K.cost,if_neg (by omega)]
 rw[if_pos hE];refine⟨?_,SV K.hc h8 hV (Int.le_refl _)⟩;have h1:=MU (w:=w) (ns:=os.map (bQ w)) K.hc (k:=10) (f:=z8) (a:=0) h8 hV;have h2:2 ^ (bD l.length z8).length<=2 ^ 5:=Nat.pow_le_pow_right (by omega) (by have:=kr l.length z8;have:=K.l5;omega);unfold kW;have:(2:Nat) ^ 5=32:=by decide
 omega
theorem VaK.adv(K:VaK w l os){cost:Int}(hV:cost<=bF w l (os.map (bQ w)) z8)(h0:bF w l (os.map (bQ w)) z8=0->cost<=0):(Cf w l os).length<=243/\(∀x∈Cf w l os,x.found.length<=8)/\NN w l (os.map (bQ w)) (Cf w l os) cost:=by
 have h8:l.length<=8:=by have:=K.l5;omega
 unfold Cf;by_cases hv:bF w l (os.map (bQ w)) z8=0
 ·rw[if_neg (λe=>e.2 hv)];exact⟨by decide,λx hx=>(by cases hx),⟨⟨λx hx=>(by cases hx),λi x y h=>(by simp at h)⟩,λx hx=>(by cases hx), .inl (h0 hv)⟩⟩
 ·rw[if_pos ⟨K.ok,hv⟩];refine⟨?_,λx hx=> ?_,NO K.hw K.hs K.hc h8 hV⟩
  ·have h1:=AG (w:=w) (l:=l) (ns:=os.map (bQ w)) (k:=l.length) (i:=0) (f:=z8);have h2:3 ^ l.length<=3 ^ 5:=Nat.pow_le_pow_right (by omega) K.l5;unfold An;rw[List.length_map];have:(3:Nat) ^ 5=243:=by decide
   omega
  ·unfold An at hx;obtain⟨f,_,rfl⟩:=List.mem_map.1 hx;show(f.take l.length).length<=8;rw[List.length_take];omega
end
end Go.A.Pk
end
section
namespace Go.A.Pk
theorem NH{l:List Pb}{f:List Nat}(h:f.length=l.length):l.zip (cO f)=l.zip f:=by
 have:=NJ (l:=l) (fs:=cst f) (by rw[rS,h])
 rwa [FY,GN]at this
theorem Dv{f:List Nat}{b a:Nat}(h:b<f.length):(cO f).set b a=cO (f.set b a):=by
 unfold cO;rw[List.length_set,List.set_append_left _ _ h]
theorem vg{n:Nat}(h:n<=8):cO (List.replicate n 0)=z8:=by
 unfold cO;rw[List.length_replicate,List.replicate_append_replicate,show n+(8-n)=8 by omega];rfl
structure TpI (w:List Nat×List Nat) (l:List Pb) (ns:List (List (List Nat))) (t:List Nat) (cost:Int) (at_:Int) (f:List Nat) (paid:Int) (n:Nat):Prop where
 hon:td t l f
 st:∃k a:Nat,(bD l.length (cO f)).length<k/\at_=(dL w l ns k (cO f) a).1/\∀i,i<(dL w l ns k (cO f) a).2.length->(kW w l ns)[a+i]? =(dL w l ns k (cO f) a).2[i]?
 pay:paid+bF w l ns (cO f)<=cost
 p0:0<=paid
 lt:bF w l ns (cO f)<100000
 cnt:n+(bD l.length (cO f)).length<=l.length
section
variable {w:List Nat×List Nat} {l:List Pb} {ns:List (List (List Nat))} {t:List Nat}
theorem Og:AA (kW w l ns)=(dL w l ns 10 z8 0).1:=by
 have hr:=DW (w:=w) (l:=l) (ns:=ns) (k:=10) (f:=z8) (a:=0);unfold AA kW;rcases hr.1 with⟨q1,q2⟩|⟨q1,q2⟩
 ·rw[q1,q2];rfl
 ·rw[q1,if_neg (by omega)];rfl
theorem P0(hl:l.length<=8)(hV:bF w l ns z8<100000):TpI w l ns t (bF w l ns z8) (AA (kW w l ns)) (List.replicate l.length 0) 0 0:=by
 refine⟨⟨List.length_replicate,λi p k _ hk=> ?_⟩,⟨10,0,?_,?_,λi _=> ?_⟩,?_,Int.le_refl _,?_,?_⟩
 ·rw[List.getElem?_replicate]at hk;split at hk
  ·cases hk;exact .inl rfl
  ·cases hk
 ·have:=kr l.length (cO (List.replicate l.length 0));omega
 ·rw[vg hl];exact Og
 ·rw[vg hl,Nat.zero_add];rfl
 ·rw[vg hl];omega
 ·rw[vg hl];exact hV
 ·have:=kr l.length (cO (List.replicate l.length 0));omega
theorem Nb(hc:∀p∈l,1<=p.cost/\p.cost<=1000)(hl:l.length<=8){cost at_ paid:Int}{f:List Nat}{n:Nat}(I:TpI w l ns t cost at_ f paid n)(h:¬0<=at_):bF w l ns (cO f)=0/\paid<=cost:=by
 obtain⟨k,a,hk,e,_⟩:=I.st;have h0:=I.pay;cases k with
 |zero=>omega
 |succ k=>
  unfold dL at e;by_cases hv:bF w l ns (cO f)=0
  ·exact⟨hv,by omega⟩
  ·rw[if_neg hv]at e;dsimp only at e;omega
theorem GI(hc:∀p∈l,1<=p.cost/\p.cost<=1000)(hl:l.length<=8){cost at_ paid:Int}{f:List Nat}{n:Nat}(I:TpI w l ns t cost at_ f paid n)(h:0<=at_):
 ∃(x:Fk) (p:Pb) (a b:Nat),at_=a/\(kW w l ns)[a]? =some x/\x.probe=(b:Int)/\l[b]? =some p/\b<f.length/\n<l.length/\(TpI w l ns t cost (if sIn p.cells t then x.yes else x.no) (f.set b (oJ t p)) (paid+p.cost) (n+1)):=by
 obtain⟨k,a,hk,e,hs⟩:=I.st;have hf8:(cO f).length=8:=iG (by rw[I.hon.len];exact hl);have hfl:l.length<=(cO f).length:=by omega
 cases k with
 |zero=>omega
 |succ k=>
  unfold dL at e hs;by_cases hv:bF w l ns (cO f)=0
  ·rw[if_pos hv]at e;dsimp only at e;omega
  ·rw[if_neg hv]at e hs;obtain⟨hbm,hbv⟩:=sW hc hfl hv I.lt;obtain⟨hbl,hb0⟩:=gG.1 hbm;have hcb:=mW hc hbl;unfold dO at hbv;have hlt:=λx (hx:x≠0)=>mw (a:=x) (Nat.lt_of_lt_of_le hbl hfl) hx hbm;change bF w l ns (cO f)=dK l (fq (dO w l ns (cO f)) (bD l.length (cO f)))+max (bF w l ns ((cO f).set (fq (dO w l ns (cO f)) (bD l.length (cO f))) 1)) (bF w l ns ((cO f).set (fq (dO w l ns (cO f)) (bD l.length (cO f))) 2))at hbv;generalize fq (dO w l ns (cO f)) (bD l.length (cO f))=b at*;have hs0:=hs 0 (by simp);have hs1:∀i,i<(dL w l ns k ((cO f).set b 1) (a+1)).2.length->(kW w l ns)[a+1+i]? =(dL w l ns k ((cO f).set b 1) (a+1)).2[i]? :=λi hi=>by
    have:=hs (i+1) (by simp;omega);rw[show a+(i+1)=a+1+i by omega,List.getElem?_cons_succ,List.getElem?_append_left hi]at this;exact this
   have hs2:∀i,i<(dL w l ns k ((cO f).set b 2) (a+1+(dL w l ns k ((cO f).set b 1) (a+1)).2.length)).2.length->(kW w l ns)[a+1+(dL w l ns k ((cO f).set b 1) (a+1)).2.length+i]? =(dL w l ns k ((cO f).set b 2) (a+1+(dL w l ns k ((cO f).set b 1) (a+1)).2.length)).2[i]? :=λi hi=>by
    have:=hs ((dL w l ns k ((cO f).set b 1) (a+1)).2.length+i+1) (by simp;omega);rw[show a+((dL w l ns k ((cO f).set b 1) (a+1)).2.length+i+1)=a+1+(dL w l ns k ((cO f).set b 1) (a+1)).2.length+i by omega,List.getElem?_cons_succ,List.getElem?_append_right (by omega),Nat.add_sub_cancel_left]at this;exact this
   rw[Nat.add_zero,List.getElem?_cons_zero]at hs0;have hbf:b<f.length:=by rw[I.hon.len];exact hbl
   have hlb:l[b]? =some l[b]:=List.getElem?_eq_getElem hbl;have hca:dK l b=l[b].cost:=by unfold dK;rw[List.getD_eq_getElem?_getD,hlb];rfl
   have hpay:=I.pay;have hp0:=I.p0;have hcnt:=I.cnt;have hvl:=I.lt;refine⟨_,l[b],a,b,e,hs0,rfl,hlb,hbf,by have:=hlt 1 (by omega);omega,?_⟩;have hon:=I.hon.set (t:=t) hlb;rw[←hca];by_cases hi:sIn (l[b]).cells t=true
   ·have ea:oJ t l[b]=1:=by unfold oJ;rw[if_pos hi]
    rw[if_pos hi,ea];rw[ea]at hon;have h1:=hlt 1 (by omega);refine⟨hon,⟨k,a+1,?_,?_,?_⟩,?_,by omega,?_,?_⟩;all_goals rw[←Dv hbf]
    ·omega
    ·exact hs1
    ·omega
    ·omega
    ·omega
   ·have ea:oJ t l[b]=2:=by unfold oJ;rw[if_neg hi]
    rw[if_neg hi,ea];rw[ea]at hon;have h1:=hlt 2 (by omega);refine⟨hon,⟨k,a+1+(dL w l ns k ((cO f).set b 1) (a+1)).2.length,?_,?_,?_⟩,?_,by omega,?_,?_⟩;all_goals rw[←Dv hbf]
    ·omega
    ·exact hs2
    ·omega
    ·omega
    ·omega
end
theorem Nc{w:List Nat×List Nat}{l:List Pb}{os:List (List Nat)}(K:VaK w l os){t:List Nat}(ht:IsS t)(h1:Sub w.1 t)(h2:Sub t w.2)(hos:∀o∈os,IsS o){f:List Nat}(hh:td t l f)(hv:bF w l (os.map (bQ w)) (cO f)=0):
 ∃js:List Nat,uN w l (cst f) os=(js,0)/\js.length=os.length/\∀(i j:Nat) o,os[i]? =some o->js[i]? =some j->o≠s0/\((j=1/\wm t o=true)∨(j=2/\wm t o=false)):=by
 obtain⟨ho1,ho2⟩:=nu.1 K.ok;have ha:=jl.1 ho1;have hf8:(cO f).length=8:=iG (by rw[hh.len];have:=K.l5;omega);have ho:fG w l (os.map (bQ w)) (cO f)=false:=(jr K.hc (by have:=K.l5;omega)).2.2 hv;have hz:=pX (f:=f) K.hs;unfold fG at ho;rw[NH hh.len,F9 K.hw ht h1 h2 hz hh.hon,Bool.true_and]at ho;refine⟨_,by rw[Kg K.hw ht h1 h2 K.hs hh os,if_neg (by simp[ho1]),if_neg (by simp[ho2])],by rw[List.length_map],λi j o hi hj=> ?_⟩;rw[List.getElem?_map,hi]at hj;cases hj;have hom:=List.mem_of_getElem? hi;have hne:o≠s0:=λe=>by
  have:=List.any_eq_false.1 ha.2.2.1 o hom;simp[e]at this
 refine⟨hne,?_⟩;have h3:=List.any_eq_false.1 ho (bQ w o) (List.mem_map.2 ⟨o,hom,rfl⟩);have hr:=Hv K.hw (hos o hom) hne ht h1 h2 hz hh.hon;rcases Hu (l.zip f) (bsS w.1 (l.zip f)) (bQ w o)with q|q|q
 ·exact .inl ⟨q,hr.1 q⟩
 ·exact .inr ⟨q,hr.2 q⟩
 ·rw[q]at h3;simp at h3
theorem Pc{a b:List Nat}(ha:IsS a)(hb:IsS b)(h0:¬b=s0):wm a b=decide (0<(nw a b).length):=by
 rw[Bool.eq_iff_iff,decide_eq_true_eq,AB ha hb h0];constructor
 ·rintro⟨p,hp⟩;exact List.length_pos_of_mem ((vh ha hb h0).2 hp)
 ·intro h;obtain⟨p,hp⟩:=List.exists_mem_of_length_pos h;exact⟨p,(vh ha hb h0).1 hp⟩
def kL(u:Nat):Nat->List Ce->List Nat->List Nat
 |_,[],s=>s
 |i,c::L,s=>kL u (i+1) L (if Nat.testBit u (i % 64)=true then oh s c else s)
theorem sK{u:Nat}:∀{L:List Ce} {i:Nat} {s:List Nat},IsS s->(∀c∈L,inG c=true)->IsS (kL u i L s)/\Sub s (kL u i L s)/\∀x,ej (kL u i L s) x=true->ej s x=true∨x∈L
 |[],_,s,hs,_=>⟨hs,λ_ h=>h,λ_ h=> .inl h⟩
 |c::L,i,s,hs,hL=>by
  have hc:=hL c List.mem_cons_self;have hL':∀c∈L,inG c=true:=λx h=>hL x (List.mem_cons_of_mem _ h);unfold kL;by_cases hb:Nat.testBit u (i % 64)=true
  ·rw[if_pos hb];obtain⟨a,b,d⟩:=sK (u:=u) (i:=i+1) (hs.oh hc) hL';refine⟨a,λx hx=>b x (by rw[Bf hs hc,hx];rfl),λx hx=> ?_⟩;rcases d x hx with q|q
   ·rw[Bf hs hc,Bool.or_eq_true,decide_eq_true_eq]at q;rcases q with q|q
    ·exact .inl q
    ·rw[q];exact .inr List.mem_cons_self
   ·exact .inr (List.mem_cons_of_mem _ q)
  ·rw[if_neg hb];obtain⟨a,b,d⟩:=sK (u:=u) (i:=i+1) hs hL';exact⟨a,b,λx hx=>(d x hx).imp id (List.mem_cons_of_mem _)⟩
def sJ(w:List Nat×List Nat)(u:Nat):List Nat:=kL u 0 (aU (fH w.2 w.1) 512) w.1
theorem L7{w:List Nat×List Nat}(hw:IsW w)(u:Nat)(hin:sIn w.1 w.2=true):IsS (sJ w u)/\Sub w.1 (sJ w u)/\Sub (sJ w u) w.2:=by
 obtain⟨a,b,d⟩:=sK (u:=u) (i:=0) hw.a (L:=aU (fH w.2 w.1) 512) (λc hc=>jQ hc);refine⟨a,b,λx hx=> ?_⟩;rcases d x hx with q|q
 ·exact(dP hw.a hw.b).1 hin x q
 ·unfold aU at q;have:=(List.mem_filter.1 q).2;rw[tX hw.b hw.a,Bool.and_eq_true]at this;exact this.1
theorem zK{u:Nat}:∀{L:List Ce} {i j:Nat} {s:List Nat} {c:Ce},L[j]? =some c->kL u i (L.take (j+1)) s=if Nat.testBit u ((i+j) % 64)=true then oh (kL u i (L.take j) s) c else kL u i (L.take j) s
 |[],_,_,_,_,h=>by simp at h
 |x::L,i,0,s,c,h=>by
  simp at h;subst h;simp[kL]
 |x::L,i,j+1,s,c,h=>by
  rw[List.getElem?_cons_succ]at h;rw[List.take_succ_cons,List.take_succ_cons];unfold kL;rw[zK h,show i+1+j=i+(j+1)by omega]
end Go.A.Pk
end
section
namespace Go.A.Pk
variable {T:Nat->Option an}
theorem I8{base:Nat}{h:Heap}{e:Env}{x y:Operand}{a:Bool}(hx:ev h e x=some (.bool a))(hy:ev h e y=some (.bool a)):aop h base e (.bin (.beq true) x y)=some (.val (.bool false) h):=by
 rw[TE hx hy];cases a<;>rfl
end Go.A.Pk
end
