/- Walks of functions, plain laws, the table. -/
import Derived.Test.YtppgkemkfdkobaaGreatDoorGU5
import Derived.Test.YtppgkemkfdkobaaGreatDoorGD
set_option linter.all false
set_option maxHeartbeats 16000000
set_option maxRecDepth 100000
section
namespace Go.A.Pk
variable {T:Nat->Option aq}
def Mz(w:List Nat×List Nat)(l:List Pb)(os:List (List Nat))(s:List Fk)(b:Bool):Bool×Int:=if opE w l os≠0 then(false,opE w l os)else if 256<s.length then(false,2)else(b,0)
def rI(n:Nat)(L:List Int):List Nat:=(List.range n).map λ(c:Nat)=>L.count (c:Int)
def rP(n:Nat)(L:List Int):(rI n L).length=n:=by simp[rI]
variable{c n:Nat}
def uV(L:List Int)(h:c<n):(rI n L)[c]? =some (L.count (c:Int)):=by simp[rI,h]
def MC(n:Nat):rI n []=List.replicate n 0:=by
 refine wy λi=> ?_;by_cases h:i<n
 ·rw[uV [] h,GH,if_pos h];rfl
 ·rw[kz (by rw[rP];omega),kz (by rw[wx];omega)]
variable{L:List Int}
def MD(h:c<n):(rI n L).set c (L.count (c:Int)+1)=rI n (L++[(c:Int)]):=by
 refine wy λi=> ?_;rw[If];by_cases hi:i<n
 ·rw[uV _ hi,uV _ hi,rP];by_cases e:c=i
  ·subst e;simp[h]
  ·rw[if_neg e,List.count_append,List.count_singleton];have:¬ ((c:Int)==(i:Int))=true:=by simp;omega
   rw[if_neg this];rfl
 ·rw[if_neg ω,kz (by rw[rP];omega),kz (by rw[rP];omega)]
def EJ:rI n (L++[-1])=rI n L:=by
 unfold rI;refine List.map_congr_left λc _=> ?_;rw[List.count_append,List.count_singleton,if_neg (by simp)];rfl
def F2(s:List Fk):(ek s).length=2*s.length:=by
 induction s with
 |nil=>rfl
 |cons x s ih=>rw[uC,tb,tb,ih,tb];omega
variable{l:List Pb}
def AR{f:List Nat}:l.zip (f.take l.length)=l.zip f:=by
 induction l generalizing f with
 |nil=>simp
 |cons p l ih=>cases f with
  |nil=>simp
  |cons k f=>simp[ih]
def wA(w:List Nat×List Nat)(l:List Pb)(ns:List (List (List Nat)))(f:List Nat):eD w l ns (f.take l.length)=eD w l ns f:=by unfold eD;rw[AR]
def zi{w:List Nat×List Nat}{l:List Pb}{ns:List (List (List Nat))}{s:List Fk}(b:PO l s):∀{k:Nat} {a:Int} {f:List Nat} {cost:Int},pL w l ns s k a (f.take l.length) cost=pL w l ns s k a f cost
 |0,_,_,_=>rfl
 |k+1,a,f,cost=>by
  unfold pL;rw[wA];by_cases h1:cost<0
  ·rw[if_pos h1,if_pos h1]
  rw[if_neg h1,if_neg h1];by_cases h2:a= -1
  ·rw[if_pos h2,if_pos h2]
  rw[if_neg h2,if_neg h2];cases hx:s[a.toNat]? with
  |none=>rfl
  |some x=>
   dsimp only;have hp:=(b _ x hx).1;have e:(f.take l.length).getD x.probe.toNat 0=f.getD x.probe.toNat 0:=by
    rw[dn,dn,ac7,if_pos ω]
   rw[e,←List.take_set,←List.take_set,zi b,zi b]
structure LJ (T:Nat->Option aq):Prop where
 rf:En T
 f28:T 11=some f28
def Pr(F:LJ T){h:Heap}(hr:Rdy h){w:List Nat×List Nat}(J:IsW w){pv:Value}(sp:PbS h pv l)(hl:l.length<1000000){ov:Value}{os:List (List Nat)}(so:SsQ h ov os)(U:os.length<1000000){sv:Value}{s:List Fk}(S0:FkS h sv s)(cX:s.length<1000000){cost:Int}(bo: -9223372036854775808<=cost/\cost<9223372036854775808){b:Bool}(hb:b=true↔Tk w l (os.map (cE w)) s cost):
 Pu T 11 [wV w,pv,ov,sv, zc cost] h (.tuple #[.bool (Mz w l os s b).1, zc (Mz w l os s b).2]):=by
 have hp:=F.rf.rj.rc.r8.p;refine .of hp F.f28 hr rfl ?_;have eI:cellsOf (wV w)=wL w:=by show(wL w).toArray.toList=_;simp
 obtain⟨pa,pc,rfl⟩:=sp.form;obtain⟨oa,oc,rfl⟩:=so.sl.form;obtain⟨sa,sc,rfl⟩:=aH.form S0;have x0:Ext h (h.push (qt (cellsOf (wV w)))):=(Ext.refl h).push _;have g0:(h.push (qt (cellsOf (wV w)))).get h.next=some (qt (wL w)):=by rw[eI];exact z3 h _
 have n0:(h.push (qt (cellsOf (wV w)))).next=h.next+1:=rfl
 refine Y5 ?_;generalize(h.push (qt (cellsOf (wV w))))=H at*;have W:=x0.wf hr.wf;have hL:=x0.log.trans hr.log;have wk:=ja J;have fg:=gu J;have C1:=wK F.rf.rj.rc (h:=η H) (.of W) J ((sp.ext x0).log []) hl ((so.ext x0).log []) U;unfold Mz opE;have X:=Cr (w:=w) (l:=l) (os:=os);have A:=j5 (w:=w) (l:=l) (os:=os);generalize mM w l os=er at*;by_cases he:er=0;case neg=>
  rw[if_pos (show er≠0 from he),if_pos (show er≠0 from he)];have m1:zz er 0 false:=jH he;have m2:zB er 0 true:=iY he;refine Y5 ?_;refine FW.pu C1 ?_;refine Y36 ?_;exact an hL rfl rfl
 subst he;rw[if_neg (show¬ (0:Int)≠0 from λq=>q rfl)];obtain⟨dT,eQ,D,cj⟩:=X rfl;have cJ:=qH (A.1 rfl).2.2.2.2;clear X A;have C3:=Hg F.rf.rj.rc.n3 (h:=η H) (.of W) J dT;cases hm:nQ w with
 |true=>
  rw[hm,if_pos rfl]at C3;rw[if_pos rfl,if_pos (by decide)];refine Y5 ?_;refine FW.pu C1 ?_;refine Y11 ?_;refine FW.pu C3 ?_;refine Y28 ?_;exact an hL rfl rfl
 |false=>
 rw[hm,if_neg (by simp)]at C3;rw[if_neg (by simp)];by_cases h256:256<s.length
 ·have mg:zs s.length 256 true:=fh ω;rw[if_pos h256];refine Y5 ?_;refine FW.pu C1 ?_;refine Y11 ?_;refine FW.pu C3 ?_;refine Y32 ?_;exact an hL rfl rfl
 have mg:zs s.length 256 false:=gT ω;rw[if_neg h256];refine Y5 ?_;refine FW.pu C1 ?_;clear C1;refine Y11 ?_;refine FW.pu C3 ?_;clear C3;refine Y29 ?_;refine aG (lE ρ ρ (bl _) ω ω rfl) ?_;refine WO.M9 ?_;intro H1 N;have x1:Ext H H1:=by rw[N];exact(Ext.refl H).push _
 have n1:H1.next=H.next+1:=by rw[N];rfl
 have g1:H1.get H.next=some (qt (ints (zI (rI s.length [])))):=by rw[N,zJ,MC];exact z3 _ _
 clear N;refine Y7 ?_
 refine aY (λk' e ds z=>∃i:Nat,i<=s.length/\s.length-i=k'∧e=[(1, .slice pa l.length pc),(2, .slice oa os.length oc),(3, .slice sa s.length sc),(4, zc cost),(5, sb h.next),(13, sh H.next s.length s.length),(14, zc (i:Nat))]/\ds=[]/\Ext H z∧H.next<z.next/\z.get H.next=some (qt (ints (zI (rI s.length (ek (s.take i))))))/\∀(j:Nat) x,j<i->s[j]? =some x->(0<=x.probe/\x.probe<l.length)/\mL x.yes j s.length/\mL x.no j s.length)
  ⟨0,hK _,rfl,rfl,rfl,x1,ω,by simpa[ek]using g1,λj x hj=>absurd hj ω⟩ ?_
 clear x1 n1 g1;rintro k' e ds G ⟨i,hi,rfl,rfl,rfl,xG,nG,gN,V⟩;have WG:=xG.wf W;have f:=xG.log.trans hL;have d:=x0.trans xG;by_cases hlt:i<s.length
 ·have ar:zd i s.length true:=dz ω;obtain⟨x,hx⟩:∃x,s[i]? =some x:=⟨s[i],bx hlt⟩;obtain⟨bF,oF,cF,fd,f0,tF,eq,gF,bj,f9,d9,da,fb⟩:=S0.elem hx;cases eq;have dC:=(d.old _ bj).trans gF;have g:b=false∨(0<=x.probe/\x.probe<l.length)/\mL x.yes i s.length/\mL x.no i s.length:=by
   cases b with
   |false=>exact .inl rfl
   |true=>exact .inr ((hb.1 rfl).1 i x hx)
  have CY:=Eu F.rf (h:=η G) (.of WG) x.yes (i:Nat) (s.length:Nat);have CN:=Eu F.rf (h:=η G) (.of WG) x.no (i:Nat) (s.length:Nat);by_cases p1:x.probe<0
  ·obtain rfl:b=false:=g.resolve_right λq=>ω
   have m1:zd x.probe 0 true:=dz p1;refine Y40 ?_;refine Y27 ?_;exact an f rfl rfl
  have m1:zd x.probe 0 false:=dG ω;by_cases p2:(l.length:Int)<=x.probe
  ·obtain rfl:b=false:=g.resolve_right λq=>ω
   have m2:zt x.probe l.length true:=oS p2;refine Y40 ?_;refine Y35 ?_;exact an f rfl rfl
  have m2:zt x.probe l.length false:=uu ω;by_cases p3:mL x.yes i s.length;case neg=>
   obtain rfl:b=false:=g.resolve_right λq=>p3 q.2.1;rw[decide_eq_false p3]at CY;refine Y40 ?_;refine Y17 ?_;refine FW.pu CY ?_;refine Y28 ?_;exact an f rfl rfl
  rw[decide_eq_true p3]at CY;by_cases p4:mL x.no i s.length;case neg=>
   obtain rfl:b=false:=g.resolve_right λq=>p4 q.2.2;rw[decide_eq_false p4]at CN;refine Y40 ?_;refine Y17 ?_;refine FW.pu CY ?_;refine Y22 ?_;refine FW.pu CN ?_;refine Y16 ?_;exact an f rfl rfl
  rw[decide_eq_true p4]at CN;refine Y12 ?_;refine D0 (E:=[(1, .slice pa l.length pc),(2, .slice oa os.length oc),(3, .slice (some ⟨bF,oF,none⟩) s.length sc),(4, zc cost),(5, sb h.next),(13, sh H.next s.length s.length),(14, zc (i:Nat)),(83, .bool false)]) (H:=G) ?_ ?_
  ·refine Y40 ?_;refine Y4 ?_;refine FW.pu CY ?_;refine Y22 ?_;refine FW.pu CN ?_;refine Y6 ?_;exact⟨rfl,rfl,rfl,rfl⟩
  clear CY CN g;have ae:=KT hx;have cd:∀L:List Int,L.length<=2*s.length->∀c:Int,((L.count c:Nat):Int)<=2000000:=λL f8 c=>by
   have:=List.count_le_length (a:=c) (l:=L);omega
  have e9:(ek (s.take i)).length<=2*s.length:=by rw[F2,lp];omega
  have eg:(ek (s.take i)++[x.yes]).length<=2*s.length:=by rw[dk,F2,lp,Do];omega
  have cY:∀L,(ints (zI (rI s.length L))).length=s.length:=λL=>by rw[jZ,rP]
  have aE:∀{c:Nat} {L:List Int},c<s.length->(ints (zI (rI s.length L))).set (0+c*1) (zc ((L.count (c:Int)+1:Nat):Int))=ints (zI (rI s.length (L++[(c:Int)]))):=λ{c L} Q=>by rw[Ec,MD Q]
  have LD:∀{c:Nat} {L:List Int},c<s.length->bN (ints (zI (rI s.length L))) (0+c*1)=some (zc ((L.count (c:Int):Nat):Int)):=λ{c L} Q=>by rw[cC,hF,xr];exact Cg (uV L Q)
  refine WY (E0:=λr=>(1, .slice pa l.length pc)::(2, .slice oa os.length oc)::(3, .slice (some ⟨bF,oF,none⟩) s.length sc)::(4, zc cost)::(5, sb h.next)::(13, sh H.next s.length s.length)::(14, zc (i:Nat))::r) (P:=λz=>Ext H z∧H.next<z.next/\z.get H.next=some (qt (ints (zI (rI s.length (ek (s.take i)++[x.yes])))))) ?_ ?_
  ·rcases p3 with q|q
   ·rw[q]at d9;have m3:zt (-1) 0 false:=rfl;refine Y10 ?_;exact⟨rfl,⟨_,rfl⟩,rfl,xG,nG,by rw[q,EJ];exact gN⟩
   ·obtain⟨c,Q⟩:∃c:Nat,x.yes=(c:Int):=⟨x.yes.toNat,ω⟩;have B:c<s.length:=ω
    rw[Q]at d9;have m3:zt c 0 true:=oS ω;have dE:=cd _ e9 (c:Int);have u1:=aE (c:=c) (L:=ek (s.take i)) B;have d1:=LD (c:=c) (L:=ek (s.take i)) B;have eJ:=cY (ek (s.take i));rw[Q];generalize(ek (s.take i)).count (c:Int)=ct at*;have dj:zE ct 1 ((ct+1:Nat):Int):=by
     have:=fK (a:=(ct:Nat)) (b:=1) (aO ω ω);exact this
    refine Y26 ?_;refine iU rfl rfl rfl ρ ρ ρ τ ρ ρ ω ω ω (by(repeat apply aB rfl);exact aQ) ?_;refine Y2 ?_;exact⟨rfl,⟨_,rfl⟩,rfl,xG.wr (bl _) ω,nG,by rw[Heap.aM gN,u1]⟩
  rintro r G2 ⟨M,du,ba⟩;have f7:=M.wf W;have eK:=((x0.trans M).old _ bj).trans gF;clear dC gN xG nG WG f d;have f:=M.log.trans hL;have Y:∀(j:Nat) y,j<i+1->s[j]? =some y->(0<=y.probe/\y.probe<l.length)/\mL y.yes j s.length/\mL y.no j s.length:=λj y hj hy=>by
   by_cases e:j=i
   ·subst e;cases Option.some.inj (hx.symm.trans hy);exact⟨⟨ω,ω⟩,p3,p4⟩
   ·exact V j y ω hy
  have dp:zE i 1 ((i+1:Nat):Int):=by
   have:=fK (a:=(i:Nat)) (b:=1) (aO ω ω);exact this
  clear V;rcases p4 with q|q
  ·rw[q]at da;have m3:zt (-1) 0 false:=rfl;refine Y17 ?_;exact⟨s.length-(i+1),ω,i+1,ω,rfl,rfl,rfl,M,du,by rw[ae,q,EJ];exact ba,Y⟩
  ·obtain⟨c,Q⟩:∃c:Nat,x.no=(c:Int):=⟨x.no.toNat,ω⟩;have B:c<s.length:=ω
   rw[Q]at da;have m3:zt c 0 true:=oS ω;have dE:=cd _ eg (c:Int);have u1:=aE (c:=c) (L:=ek (s.take i)++[x.yes]) B;have d1:=LD (c:=c) (L:=ek (s.take i)++[x.yes]) B;have eJ:=cY (ek (s.take i)++[x.yes]);rw[Q]at ae;generalize(ek (s.take i)++[x.yes]).count (c:Int)=ct at*;have dj:zE ct 1 ((ct+1:Nat):Int):=by
    have:=fK (a:=(ct:Nat)) (b:=1) (aO ω ω);exact this
   refine Y26 ?_;refine iU rfl rfl rfl ρ ρ ρ τ ρ ρ ω ω ω (by(repeat apply aB rfl);exact aQ) ?_;refine Y9 ?_;exact⟨s.length-(i+1),ω,i+1,ω,rfl,rfl,rfl,M.wr (bl _) ω,du,by rw[Heap.aM ba,u1,ae],Y⟩
 obtain rfl:i=s.length:=ω
 rw[wd]at gN;have u:PO l s:=λj x hx=>V j x (List.getElem?_eq_some_iff.1 hx).1 hx;clear V;have ar:zd s.length s.length false:=dG ω;refine Y18 ?_
 refine aY (λk' e ds z=>∃i:Nat,i<=s.length/\s.length-i=k'∧e=[(1, .slice pa l.length pc),(2, .slice oa os.length oc),(3, .slice sa s.length sc),(4, zc cost),(5, sb h.next),(13, sh H.next s.length s.length),(15, zc (i:Nat))]/\ds=[]/\G=z∧∀j:Nat,0<j->j<i->(ek s).count (j:Int)=1)
  ⟨0,hK _,rfl,rfl,rfl,rfl,λj h1 h2=>absurd h2 ω⟩ ?_
 rintro k' e ds _ ⟨i,hi,rfl,rfl,rfl,rfl,C⟩;by_cases hlt:i<s.length
 ·have ar:zd i s.length true:=dz ω;have dp:zE i 1 ((i+1:Nat):Int):=by
   have:=fK (a:=(i:Nat)) (b:=1) (aO ω ω);exact this
  by_cases h0:i=0
  ·have m1:zs i 0 false:=gT ω;refine Y32 ?_;exact⟨s.length-(i+1),ω,i+1,ω,rfl,rfl,rfl,rfl,λj h1 h2=>absurd h1 ω⟩
  have m1:zs i 0 true:=fh ω;have d1:bN (ints (zI (rI s.length (ek s)))) (0+i*1)=some (zc (((ek s).count (i:Int):Nat):Int)):=by rw[cC,hF,xr];exact Cg (uV _ hlt)
  by_cases h1:(ek s).count (i:Int)=1
  ·have m2:zB (((ek s).count (i:Int):Nat):Int) 1 false:=uv ω;refine Y37 ?_;exact⟨s.length-(i+1),ω,i+1,ω,rfl,rfl,rfl,rfl,λj h2 h3=>by
    by_cases e:j=i
    ·rw[e];exact h1
    ·exact C j h2 ω⟩
  ·have m2:zB (((ek s).count (i:Int):Nat):Int) 1 true:=iY ω;obtain rfl:b=false:=by
    cases b with
    |false=>rfl
    |true=>exact absurd ((hb.1 rfl).2.1 i ω hlt) h1
   refine Y39 ?_;exact an f rfl rfl
 obtain rfl:i=s.length:=ω
 have ar:zd s.length s.length false:=dG ω;have t:pL w l (os.map (cE w)) s 10 (mT s) (List.replicate l.length 0) cost=b:=by
  have e:List.replicate l.length 0=z8.take l.length:=by
   refine wy λj=> ?_;rw[GH,ac7];by_cases q:j<l.length
   ·rw[if_pos q,if_pos q,QU ω]
   ·rw[if_neg q,if_neg q]
  rw[e,zi u,In,hb];exact⟨λq=>⟨u,λj h1 h2=>C j h1 h2,q⟩,λq=>q.2.2⟩
 have CA:=GD F.rf.rj.rc (h:={G.push (.cells (ints (zI (List.replicate l.length 0))) true (bS [I.O]))with log:=[]}) (.of (WG.push _)) J ((so.ext (d.push _)).log []) U D;have S:mL (mT s) (-1) s.length:=by
  unfold mT mL;split<;>omega
 have be:=(xG.old _ ω).trans g0;clear C gN hb;by_cases hs0:s.length=0
 ·have mz:zs s.length 0 false:=gT ω;have hf:mT s= -1:=by unfold mT;rw[if_pos hs0]
  rw[hf]at t S;refine Y35 ?_;refine ru rfl rfl rfl ρ ρ ρ (lE ρ ρ (bl _) ω ω rfl) (by refine bY (ah rfl (vV ρ) (by exact dh _ _)) ?_;refine bY (ah rfl (dM ρ) (by exact dw _ _ _)) ?_;refine bY (ah rfl (dM ρ) (by exact dh _ _)) ?_;refine bY (ah rfl (dM ρ) (by exact dw _ _ _)) ?_;refine bY (ah rfl (dM ρ) (by exact dw _ _ _)) ?_;refine bY (ah rfl (bW ρ YG τ τ) (by exact BY _)) ?_;refine bY (ah rfl (dM ρ) (by exact dw _ _ _)) ?_;refine bY (ah rfl (bW ρ YG τ τ) (by exact BY _)) ?_;exact qT) ?_;rw[zJ];have x5:Ext G (G.push (.cells (ints (zI (List.replicate l.length 0))) true (bS [I.O]))):=(Ext.refl G).push _;have g5:(G.push (.cells (ints (zI (List.replicate l.length 0))) true (bS [I.O]))).get G.next=some (.cells (ints (zI (List.replicate l.length 0))) true (bS [I.O])):=z3 _ _
  have n5:(G.push (.cells (ints (zI (List.replicate l.length 0))) true (bS [I.O]))).next=G.next+1:=rfl
  generalize(G.push (.cells (ints (zI (List.replicate l.length 0))) true (bS [I.O])))=G5 at*;have Z:=(x5.old _ (by have:=d.next;omega)).trans be;refine Y2 ?_;refine FW.alD CA (λv z m q=>q.log m) ?_;clear CA;rintro nv G6 K sn;have k:=(d.trans x5).trans K;have W6:=k.wf hr.wf;have g6:=(K.old _ ω).trans g5;have dv:=(K.old _ (by have:=d.next;omega)).trans Z;have eh:=K.next
  obtain⟨na,nc,rfl⟩:=sn.form;refine⟨_,by apply au rfl (ah rfl (dM ρ) (by exact dh _ _)) rfl;apply au rfl (ye rfl) ρ;apply au rfl (ah rfl (vV ρ) (by exact dh _ _)) rfl;apply au rfl (ah rfl (dM ρ) (by exact dw _ _ _)) rfl;apply au rfl (ah rfl (dM ρ) (by exact dh _ _)) rfl;apply au rfl (ah rfl (dM ρ) (by exact dw _ _ _)) rfl;(repeat apply aB rfl);apply au rfl (ah rfl (dM ρ) (by exact dw _ _ _)) rfl;apply au rfl (ah rfl (bW ρ τ τ τ) (by exact BY _)) rfl;exact aQ,?_⟩;have aw:aH G6 1 (sh G.next l.length l.length) (List.replicate l.length 0).length (ints (zI (List.replicate l.length 0))):=by
   rw[wx];exact .mem ⟨ω,⟨_,_,_,g6,by rw[aT,ww,bw,go (by rw[jZ,wx];omega)]⟩,by rw[jZ,wx];omega⟩ (bl _)
  have C7:=zj F.rf J cj cJ (ns:=os.map (cE w)) (by rw[j3];exact U) (λr hr=>by
   obtain⟨o,ho,rfl⟩:=List.mem_map.1 hr;exact⟨xj (nr w o) (by decide),λn hn=>⟨pU J hn,vt J (so.ok o ho) (D o ho) hn⟩⟩) cX u 10 (h:=η G6) (.of W6) ((sp.ext k).log []) (sn.log []) (aH.log (aH.ext S0 k) []) (aw.log []) (by rw[wx]) (λy hy=>by rw[ac2 hy];omega) S bo (by have:=jQ l.length (List.replicate l.length 0);omega)
  rw[t,j3]at C7;rw[j3];skip;refine qC ?_;refine FW.puD C7 (by(repeat apply aB rfl);exact aQ) ?_;refine Y6 ?_;exact an ((K.log.trans x5.log).trans f) rfl rfl
 ·have mz:zs s.length 0 true:=fh ω;have hf:mT s=0:=by unfold mT;rw[if_neg hs0]
  rw[hf]at t S;refine Y36 ?_;refine ru rfl rfl rfl ρ ρ ρ (lE ρ ρ (bl _) ω ω rfl) (by refine bY (ah rfl (vV ρ) (by exact dh _ _)) ?_;refine bY (ah rfl (dM ρ) (by exact dw _ _ _)) ?_;refine bY (ah rfl (dM ρ) (by exact dh _ _)) ?_;refine bY (ah rfl (dM ρ) (by exact dw _ _ _)) ?_;refine bY (ah rfl (dM ρ) (by exact dw _ _ _)) ?_;refine bY (ah rfl (bW ρ YG τ τ) (by exact BY _)) ?_;refine bY (ah rfl (dM ρ) (by exact dw _ _ _)) ?_;refine bY (ah rfl (bW ρ YG τ τ) (by exact BY _)) ?_;exact qT) ?_;rw[zJ];have x5:Ext G (G.push (.cells (ints (zI (List.replicate l.length 0))) true (bS [I.O]))):=(Ext.refl G).push _;have g5:(G.push (.cells (ints (zI (List.replicate l.length 0))) true (bS [I.O]))).get G.next=some (.cells (ints (zI (List.replicate l.length 0))) true (bS [I.O])):=z3 _ _
  have n5:(G.push (.cells (ints (zI (List.replicate l.length 0))) true (bS [I.O]))).next=G.next+1:=rfl
  generalize(G.push (.cells (ints (zI (List.replicate l.length 0))) true (bS [I.O])))=G5 at*;have Z:=(x5.old _ (by have:=d.next;omega)).trans be;refine Y2 ?_;refine FW.alD CA (λv z m q=>q.log m) ?_;clear CA;rintro nv G6 K sn;have k:=(d.trans x5).trans K;have W6:=k.wf hr.wf;have g6:=(K.old _ ω).trans g5;have dv:=(K.old _ (by have:=d.next;omega)).trans Z;have eh:=K.next
  obtain⟨na,nc,rfl⟩:=sn.form;refine⟨_,by apply au rfl (ah rfl (dM ρ) (by exact dh _ _)) rfl;apply au rfl (ye rfl) ρ;apply au rfl (ah rfl (vV ρ) (by exact dh _ _)) rfl;apply au rfl (ah rfl (dM ρ) (by exact dw _ _ _)) rfl;apply au rfl (ah rfl (dM ρ) (by exact dh _ _)) rfl;apply au rfl (ah rfl (dM ρ) (by exact dw _ _ _)) rfl;(repeat apply aB rfl);apply au rfl (ah rfl (dM ρ) (by exact dw _ _ _)) rfl;apply au rfl (ah rfl (bW ρ τ τ τ) (by exact BY _)) rfl;exact aQ,?_⟩;have aw:aH G6 1 (sh G.next l.length l.length) (List.replicate l.length 0).length (ints (zI (List.replicate l.length 0))):=by
   rw[wx];exact .mem ⟨ω,⟨_,_,_,g6,by rw[aT,ww,bw,go (by rw[jZ,wx];omega)]⟩,by rw[jZ,wx];omega⟩ (bl _)
  have C7:=zj F.rf J cj cJ (ns:=os.map (cE w)) (by rw[j3];exact U) (λr hr=>by
   obtain⟨o,ho,rfl⟩:=List.mem_map.1 hr;exact⟨xj (nr w o) (by decide),λn hn=>⟨pU J hn,vt J (so.ok o ho) (D o ho) hn⟩⟩) cX u 10 (h:=η G6) (.of W6) ((sp.ext k).log []) (sn.log []) (aH.log (aH.ext S0 k) []) (aw.log []) (by rw[wx]) (λy hy=>by rw[ac2 hy];omega) S bo (by have:=jQ l.length (List.replicate l.length 0);omega)
  rw[t,j3]at C7;rw[j3];skip;refine qC ?_;refine FW.puD C7 (by(repeat apply aB rfl);exact aQ) ?_;refine Y6 ?_;exact an ((K.log.trans x5.log).trans f) rfl rfl
end Go.A.Pk
end
section
namespace Go.A.Pk
def CI:∀{f g:List Nat},f.length=g.length->(∀k∈f,k<=2)->(∀k∈g,k<=2)->ez f=ez g->f=g
 |[],[],_,_,_,_=>rfl
 |[],_::_,h,_,_,_=>by simp at h
 |_::_,[],h,_,_,_=>by simp at h
 |a::f,b::g,hl,hf,hg,h=>by
  have hl':f.length=g.length:=by simpa using hl
  have c:∀k∈f,k<=2:=λk l=>hf k (bz _ l);have d:∀k∈g,k<=2:=λk l=>hg k (bz _ l);have m:=qw c;have n:=qw d;have o:=hf a b7;have p:=hg b b7;rw[mA,mA,hl']at h;rw[hl']at m;have e:a=b/\ez f=ez g:=by
   generalize 3 ^ g.length=P at*;generalize ez f=x at*;generalize ez g=y at*;have i:a=0∨a=1∨a=2:=ω
   have j:b=0∨b=1∨b=2:=ω
   rcases i with rfl|rfl|rfl<;>rcases j with rfl|rfl|rfl<;>omega
  rw[e.1,CI hl' c d e.2]
def SL{f g:List Nat}(h:f.length=g.length)(e:jh f=jh g):f=g:=by
 unfold jh at e;rw[h]at e;exact List.append_cancel_right e
def owL(o:List Int)(s:List Sta):List Int:=s.foldl (λo x=>o.set (ez x.found) x.cost) o
def OP(o:List Int)(s:List Sta)(x:Sta):owL o (s++[x])=(owL o s).set (ez x.found) x.cost:=by unfold owL;rw[yr];rfl
def Jg:∀(s:List Sta) (o:List Int),(owL o s).length=o.length
 |[],_=>rfl
 |x::s,o=>(Jg s _).trans (hG ..)
def Hz{j:Nat}:∀{s:List Sta} {o:List Int},(∀x∈s,ez x.found≠j)->(owL o s)[j]? =o[j]?
 |[],_,_=>rfl
 |x::s,o,h=>by
  show(owL (o.set (ez x.found) x.cost) s)[j]? =_;rw[Hz λy hy=>h y (bz _ hy),So (h x b7)]
def OO:∀{s:List Sta} {o:List Int},(s.Pairwise λx y=>ez x.found<ez y.found)->∀x∈s,ez x.found<o.length->(owL o s)[ez x.found]? =some x.cost
 |[],_,_,x,hx,_=>by cases hx
 |y::s,o,hp,x,hx,hl=>by
  obtain⟨h1,h2⟩:=List.pairwise_cons.1 hp;show(owL (o.set (ez y.found) y.cost) s)[ez x.found]? =_;rcases List.mem_cons.1 hx with rfl|hx
  ·rw[Hz λz a=>by have:=h1 z a;omega,UV hl]
  ·exact OO h2 x hx (by rw[hG];exact hl)
section
variable {l:List Pb} {s:List Sta}
def RK(h:∀(i:Nat) x y,s[i]? =some x->s[i+1]? =some y->ez x.found<ez y.found):s.Pairwise λx y=>ez x.found<ez y.found:=by
 induction s with
 |nil=>exact .nil
 |cons x s ih=>
  have c:=ih λi a b f g=>h (i+1) a b (by simpa using f) (by simpa using g);refine .cons (λy d=> ?_) c;cases s with
  |nil=>cases d
  |cons z s=>
   have e:=h 0 x z rfl rfl;rcases List.mem_cons.1 d with rfl|d
   ·exact e
   ·exact Nat.lt_trans e ((List.pairwise_cons.1 c).1 y d)
variable{f:List Nat}
def Jk(l:List Pb)(h:f.length=l.length)(a:∀k∈f,k<=2):ez f<3 ^ l.length:=by rw[←h];exact qw a
def Jh(h:IS l s)(c:f.length=l.length)(d:∀k∈f,k<=2):(owL (List.replicate (3 ^ l.length) 0) s)[ez f]? =some (lkS s (jh f)):=by
 have a:=Jk l c d;have j:=RK h.2;unfold lkS;cases hq:s.find? (λx=>decide (jh x.found=jh f))with
 |some y=>
  have i:=List.mem_of_find?_eq_some hq;have e:y.found=f:=SL ((h.1 y i).1.trans c.symm) (by simpa using List.find?_some hq);have:=OO (o:=List.replicate (3 ^ l.length) 0) j y i (by rw[wx,e];exact a);rw[e]at this;exact this
 |none=>
  rw[Hz,GH,if_pos a];intro x g e;have b:=h.1 x g;have:=CI (b.1.trans c.symm) b.2.1 d e;have:=List.find?_eq_none.1 hq x g
  simp_all
def zv:∀n:Nat,ez (List.replicate n 0)=0
 |0=>rfl
 |n+1=>by rw[List.replicate_succ,mA,zv n];simp
variable{n:Nat}
def SM(h:n<=8):jh (List.replicate n 0)=z8:=by
 unfold jh;rw[wx,List.replicate_append_replicate,show n+(8-n)=8 by omega];rfl
def KG(h:IS l s)(b:l.length<=8):(owL (List.replicate (3 ^ l.length) 0) s)[0]? =some (lkS s z8):=by
 have:=Jh h (f:=List.replicate l.length 0) (by simp) (λk a=>by rw[ac2 a];omega)
 rwa [zv,SM b]at this
variable{p:Nat}
def OT{a:Nat}(h:p<f.length):jh (f.set p a)=(jh f).set p a:=by
 unfold jh;rw[hG,List.set_append_left _ _ h]
def Ef(a:f.length=l.length):l.zip (jh f)=l.zip f:=by
 rw[←AR];unfold jh;rw[←a,List.take_left'];rfl
def Na(h:p<f.length):(jh f).getD p 0=f.getD p 0:=by
 unfold jh;rw[dn,dn,oB h]
def NG(h:f.length=n):bM n (jh f)=bM n f:=by
 unfold bM;refine HG λp a=> ?_;have:=List.mem_range.1 a;rw[Na ω]
end
def xJ(w:List Nat×List Nat)(l:List Pb)(s:List Sta)(x:Sta)(p a:Nat):Bool:=JN w l (lkS s) (jh x.found) x.cost p a
variable{w:List Nat×List Nat}{x:Sta}
def Rc{l:List Pb}{s:List Sta}{p a:Nat}(b:x.found.length=l.length)(c:p<l.length):xJ w l s x p a=(bsB w (l.zip (x.found.set p a))&&(decide (x.cost-cM l p<=0)||decide (x.cost-cM l p<=lkS s (jh (x.found.set p a))))):=by
 unfold xJ JN;rw[←OT ω,Ef (by rw[hG];exact b)];congr 2;exact decide_eq_decide.2 ω
def IW{l:List Pb}{s:List Sta}(d:x.found.length=l.length):Nf w l (lkS s) (jh x.found) x.cost=true↔ ∀p,p<l.length->x.found.getD p 0=0->(xJ w l s x p 1||xJ w l s x p 2)=true:=by
 unfold Nf;rw[NG d,PP];constructor
 ·intro h p a b;exact h p (fJ.2 ⟨a,b⟩)
 ·intro h p c;obtain⟨a,b⟩:=fJ.1 c;exact h p a b
end Go.A.Pk
end
section
namespace Go.A.Pk
def uY:∀{n i:Nat},∀k∈kY n i,k<=2
 |0,_,k,h=>by cases h
 |n+1,i,k,h=>by
  rw[kY]at h;rcases List.mem_append.1 h with h|h
  ·exact uY k h
  ·rw[List.mem_singleton]at h;omega
def RR(f:List Nat)(k:Nat):ez (f++[k])=3*ez f+k:=by unfold ez;rw[yr];rfl
def CH:∀{n i:Nat},i<3 ^ n->ez (kY n i)=i
 |0,i,h=>by
  have:i=0:=by simpa using h
  rw[this];rfl
 |n+1,i,h=>by
  rw[kY,RR,CH (show i / 3<3 ^ n by rw[Hc]at h;omega)];omega
variable{n:Nat}
def IK{f:List Nat}(b:f.length=n)(a:∀k∈f,k<=2):kY n (ez f)=f:=by
 have c:=qw a;rw[b]at c;exact CI (by rw[rT,b]) uY a (CH c)
def IX:∀{f:List Nat} {p a:Nat},f[p]? =some 0->ez (f.set p a)=ez f+a*3 ^ (f.length-1-p)
 |[],p,a,h=>by simp at h
 |x::f,0,a,h=>by
  have h:x=0:=by simpa using h
  subst h;rw[List.set_cons_zero,mA,mA,tb];show 3 ^ f.length*a+ez f=3 ^ f.length*0+ez f+a*3 ^ (f.length+1-1-0);rw[show f.length+1-1-0=f.length by omega,Nat.mul_comm a];omega
 |x::f,p+1,a,h=>by
  have h:f[p]? =some 0:=by simpa using h
  rw[List.set_cons_succ,mA,mA,IX h,hG,tb,show f.length+1-1-(p+1)=f.length-1-p by omega];omega
def Ry{i p a:Nat}(hi:i<3 ^ n)(h:a<=2)(g:(kY n i)[p]? =some 0):i+a*3 ^ (n-1-p)<3 ^ n/\kY n (i+a*3 ^ (n-1-p))=(kY n i).set p a:=by
 have b:∀k∈(kY n i).set p a,k<=2:=λk f=>by
  rcases A3 f with q|q
  ·exact uY k q
  ·omega
 have d:((kY n i).set p a).length=n:=by rw[hG,rT]
 have e:=IX (a:=a) g;rw[rT,CH hi]at e;have c:=qw b;rw[d,e]at c;exact⟨c,by rw[←e];exact IK d b⟩
section
variable (w:List Nat×List Nat) (l:List Pb) (ns:List (List (List Nat)))
def kZ(n lo:Nat):List Int:=(List.range (3 ^ n)).map λj=>if lo<=j then sQ w l ns (kY n j)else 0
def pe(n lo:Nat):List Bool:=(List.range (3 ^ n)).map λj=>if lo<=j then bsB w (l.zip (kY n j))else false
end
section
variable {w:List Nat×List Nat} {l:List Pb} {ns:List (List (List Nat))}
def mJ(n lo:Nat):(kZ w l ns n lo).length=3 ^ n:=by simp[kZ]
def ta(n lo:Nat):(pe w l n lo).length=3 ^ n:=by simp[pe]
variable{j lo n:Nat}
def DW(h:lo<=j)(a:j<3 ^ n):(kZ w l ns n lo)[j]? =some (sQ w l ns (kY n j)):=by simp[kZ,a,h]
def JA(h:lo<=j)(a:j<3 ^ n):(pe w l n lo)[j]? =some (bsB w (l.zip (kY n j))):=by simp[pe,a,h]
def Qc(n:Nat):kZ w l ns n (3 ^ n)=List.replicate (3 ^ n) 0:=by
 refine wy λj=> ?_;by_cases h:j<3 ^ n
 ·rw[GH,if_pos h];unfold kZ;rw[wt,List.getElem?_range h];show some (if 3 ^ n<=j then _ else(0:Int))=_;rw[if_neg ω]
 ·rw[kz (by rw[mJ];omega),kz (by rw[wx];omega)]
def Qa(n:Nat):pe w l n (3 ^ n)=List.replicate (3 ^ n) false:=by
 refine wy λj=> ?_;by_cases h:j<3 ^ n
 ·rw[GH,if_pos h];unfold pe;rw[wt,List.getElem?_range h];show some (if 3 ^ n<=j then _ else false)=_;rw[if_neg ω]
 ·rw[kz (by rw[ta];omega),kz (by rw[wx];omega)]
def Qb(h:lo<3 ^ n):(kZ w l ns n (lo+1)).set lo (sQ w l ns (kY n lo))=kZ w l ns n lo:=by
 refine wy λj=> ?_;rw[If,mJ];by_cases hj:j<3 ^ n
 ·by_cases e:lo=j
  ·subst e;rw[if_pos rfl,if_pos h,DW (bl _) h]
  ·rw[if_neg e];unfold kZ;rw[wt,wt,List.getElem?_range hj];show some (if lo+1<=j then _ else(0:Int))=some (if lo<=j then _ else 0);by_cases q:lo+1<=j
   ·rw[if_pos q,if_pos ω]
   ·rw[if_neg q,if_neg ω]
 ·rw[if_neg ω,kz (by rw[mJ];omega),kz (by rw[mJ];omega)]
def P9(h:lo<3 ^ n):(pe w l n (lo+1)).set lo (bsB w (l.zip (kY n lo)))=pe w l n lo:=by
 refine wy λj=> ?_;rw[If,ta];by_cases hj:j<3 ^ n
 ·by_cases e:lo=j
  ·subst e;rw[if_pos rfl,if_pos h,JA (bl _) h]
  ·rw[if_neg e];unfold pe;rw[wt,wt,List.getElem?_range hj];show some (if lo+1<=j then _ else false)=some (if lo<=j then _ else false);by_cases q:lo+1<=j
   ·rw[if_pos q,if_pos ω]
   ·rw[if_neg q,if_neg ω]
 ·rw[if_neg ω,kz (by rw[ta];omega),kz (by rw[ta];omega)]
def pJ(w:List Nat×List Nat)(l:List Pb)(ns:List (List (List Nat)))(f:List Nat)(p:Nat):Int:=mnF (λq=>cM l q+mH w l ns f q 2) (bM p f) nvr
def MK(f:List Nat):pJ w l ns f 0=nvr:=rfl
variable{f:List Nat}{p:Nat}
def MI(h:f.getD p 0≠0):pJ w l ns f (p+1)=pJ w l ns f p:=by
 unfold pJ;rw[pO,if_neg h,wl]
def MJ(h:f.getD p 0=0):pJ w l ns f (p+1)=min (pJ w l ns f p) (cM l p+mH w l ns f p 2):=by
 unfold pJ;rw[pO,if_pos h,Fv]
def Ti(a:∀p∈l,1<=p.cost/\p.cost<=1000)(f:List Nat):0<=sQ w l ns f/\sQ w l ns f<=nvr:=by
 unfold sQ;split
 ·exact GP (gr (hc0 a) f)
 ·unfold nvr;omega
def DG(b:∀p∈l,1<=p.cost/\p.cost<=1000)(f:List Nat)(p:Nat):∀a,0<=mH w l ns f p a/\mH w l ns f p a<=nvr
 |0=>⟨ab6 _,by show(0:Int)<=nvr;unfold nvr;omega⟩
 |a+1=>by
  have h1:=DG b f p a;have c:=Ti (w:=w) (ns:=ns) b (f.set p (a+1));rw[mH];split
  ·omega
  ·exact h1
def U3(a:∀p∈l,1<=p.cost/\p.cost<=1000)(f:List Nat)(e:p<=l.length):0<=pJ w l ns f p/\pJ w l ns f p<=nvr:=by
 refine⟨CZ (by unfold nvr;omega) λq b=> ?_,mG _ _ _⟩;have c:=lH a (show q<l.length by have:=(fJ.1 b).1;omega);have d:=DG (w:=w) (ns:=ns) a f q 2;omega
def Rx(b:∀p∈l,1<=p.cost/\p.cost<=1000)(d:l.length<=8)(c:l.length<=f.length)(a:eD w l ns f=true):pJ w l ns f l.length=sQ w l ns f:=by
 unfold pJ;rw[Pv b d c a];unfold sQ;rw[if_pos (sK a)]
def Tj(h:bsB w (l.zip f)=false):sQ w l ns f=nvr:=by unfold sQ;rw[if_neg (by rw[h];simp)]
def KQ(a:∀p∈l,1<=p.cost/\p.cost<=1000)(d:l.length<=8)(b:l.length<=f.length)(h:bsB w (l.zip f)=true)(c:eD w l ns f=false):sQ w l ns f=0:=by
 unfold sQ;rw[if_pos h,(j9 (w:=w) (ns:=ns) a b).2.1 c];rfl
end
variable{T:Nat->Option aq}
def bls(l:List Bool):List Value:=l.map λb=> .bool b
def Rh(l:List Bool):(bls l).length=l.length:=by simp[bls]
variable{i:Nat}
def UU{l:List Bool}{b:Bool}(h:l[i]? =some b):bN (bls l) (0+i*1)=some (.bool b):=by rw[cC,hF,xr];simp[bls,h]
def Ri(l:List Bool)(i:Nat)(b:Bool):(bls l).set (0+i*1) (.bool b)=bls (l.set i b):=by rw[hF,xr];unfold bls;rw[WP]
def UA:∀n,eR n [Value.bool false]=bls (List.replicate n false)
 |0=>rfl
 |n+1=>by
  show eL [Value.bool false] (eR n _)=_;rw[UA n,List.replicate_succ];rfl
def CK{l:List Int}{b:Int}(h:l[i]? =some b):bN (ints l) (0+i*1)=some (zc b):=by rw[cC,hF,xr];simp[ints,h]
def zy(l:List Int)(i:Nat)(b:Int):(ints l).set (0+i*1) (zc b)=ints (l.set i b):=by rw[hF,xr];unfold ints;rw[WP]
variable{h:Heap}{n:Nat}
def aH.at1{h':Heap}{b o c sz m:Nat}{cs:List Value}(s:aH h sz (.slice (some ⟨b,o,none⟩) n c) m cs)(g:h.next<=h'.next)(f:h'.get b=h.get b):aH h' sz (.slice (some ⟨b,o,none⟩) n c) m cs:=by
 cases s with
 |mem s hc=>
  obtain⟨i,a,t,d,e⟩:=s.obj;exact .mem ⟨m6 s.lt g,⟨i,a,t,f.trans d,e⟩,s.len⟩ hc
structure Gx (T:Nat->Option aq):Prop where
 rf:En T
 f57:T 7=some f57
 f145:T 29=some f145
variable{os:List (List Nat)}
def MH(F:Gx T)(hr:Rdy h){w:List Nat×List Nat}(hw:IsW w){pv:Value}{l:List Pb}(sp:PbS h pv l)(A:l.length<=8)(O:∀p∈l,1<=p.cost/\p.cost<=1000){ov:Value}(so:SsQ h ov os)(fg:os.length<1000000)(aE:∀s∈os,¬s=s0):
 Al T 29 [wV w,pv,ov] h λv y=>∃b u,v= .tuple #[sh b (3 ^ l.length) (3 ^ l.length),u]/\y.get b=some (qt (ints (kZ w l (os.map (cE w)) l.length 0))):=by
 have hp:=F.rf.rj.rc.r8.p;refine .of hp F.f145 hr (λv h1 hv ⟨b,u,e,_⟩=>by subst e;cases hv) ?_;have io:cellsOf (wV w)=wL w:=by show(wL w).toArray.toList=_;simp
 obtain⟨pa,pc,rfl⟩:=sp.form;obtain⟨oa,oc,rfl⟩:=so.sl.form;have x0:Ext h (h.push (qt (cellsOf (wV w)))):=(Ext.refl h).push _;have g0:(h.push (qt (cellsOf (wV w)))).get h.next=some (qt (wL w)):=by rw[io];exact z3 h _
 have n0:(h.push (qt (cellsOf (wV w)))).next=h.next+1:=rfl
 refine Y5 ?_;generalize(h.push (qt (cellsOf (wV w))))=H at*;have W:=x0.wf hr.wf;have hL:=x0.log.trans hr.log;have wk:=ja hw;have pD:=gu hw;have CA:=GD F.rf.rj.rc (h:=η H) (.of W) hw ((so.ext x0).log []) fg aE;refine Y9 ?_;refine FW.al CA (λv y m q=>q.log m) ?_;clear CA;rintro nv d x1 sn;obtain⟨na,nc,rfl⟩:=sn.form;rw[j3];have J:=x0.trans x1;have W1:=J.wf hr.wf;have K:=x1.log.trans hL;have n1:=x1.next
 have hZ:=(x1.old _ ω).trans g0;have i5:=tK A;have hP:=λ{G:Heap} (e:Ext d G) {n:Nat} (hn:n<=8)=>FN F.rf.rp (h:=η G) (.of (e.wf W1)) (n:=n) hn;have fd:∀r∈os.map (cE w),r.length<1000000/\∀n∈r,IsS n/\Sub n w.2:=λr hr=>by
  obtain⟨o,ho,rfl⟩:=List.mem_map.1 hr;exact⟨xj (nr w o) (by decide),λn hn=>⟨pU hw hn,vt hw (so.ok o ho) (aE o ho) hn⟩⟩
 have il:(os.map (cE w)).length<1000000:=by rw[j3];exact fg
 have aw:(os.map (cE w)).length=os.length:=j3 ..;generalize os.map (cE w)=ns at*;obtain⟨N,C⟩:∃N,N=3 ^ l.length:=⟨_,rfl⟩;have bo:=hP (.refl d) A;rw[←C]at bo i5;have lO:0<N:=by rw[C];exact AC (by simp)
 refine Y5 ?_;refine FW.pu bo ?_;clear bo;skip;refine aG (lE ρ ρ (bl _) ω ω rfl) ?_;refine WO.M9 ?_;intro j x;have x2:Ext d j:=by rw[x];exact(Ext.refl d).push _
 have n2:j.next=d.next+1:=by rw[x];rfl
 have g2:j.get d.next=some (qt (ints (kZ w l ns l.length N))):=by
  rw[x,zJ,C,Qc,←C];have e:zI (List.replicate N 0)=List.replicate N 0:=by show(List.replicate N 0).map Int.ofNat=List.replicate N 0;rw[List.map_replicate];rfl
  rw[e];exact z3 _ _
 clear x;have cd:=hP x2 A;rw[←C]at cd;refine Y5 ?_;refine FW.pu cd ?_;clear cd;skip;refine aG (lE ρ ρ (bl _) ω ω rfl) ?_;refine WO.M9 ?_;intro H3 x;have x3:Ext j H3:=by rw[x];exact(Ext.refl j).push _
 have n3:H3.next=j.next+1:=by rw[x];rfl
 have g3:H3.get j.next=some (qt (bls (pe w l l.length N))):=by
  rw[x,UA,C,Qa,←C];exact z3 _ _
 clear x;have dE:=(x3.old _ ω).trans g2;have B:=x2.trans x3;have cj:=hP B A;rw[←C]at cj;have ms:vi N 1 ((N:Int)-1):=jD (aO ω ω);refine Y6 ?_;refine FW.pu cj ?_;clear cj;refine Y4 ?_;have ii:∀t,(ints (kZ w l ns l.length t)).length=N:=λt=>by rw[mB,mJ,C]
 have i9:∀t,(bls (pe w l l.length t)).length=N:=λt=>by rw[Rh,ta,C]
 refine aY (λI e ds y=>∃z:Int,I≤N/\z=(I:Int)-1/\e=[(1, .slice pa l.length pc),(3, sb h.next),(8, zc (l.length:Nat)),(9, .slice na os.length nc),(10, sh d.next N N),(11, sh j.next N N),(12, zc z)]/\ds=[]/\Ext d y∧j.next<y.next/\y.get d.next=some (qt (ints (kZ w l ns l.length I)))/\y.get j.next=some (qt (bls (pe w l l.length I))))
  ⟨(N:Int)-1,bl _,rfl,rfl,rfl,B,ω,dE,g3⟩ ?_
 clear g2 g3 dE B x2 x3 n3;rintro I e ds G ⟨z,nl,D,rfl,rfl,xG,nG,gC,gB⟩;have WG:=xG.wf W1;have i7:=xG.log.trans K;have ld:=J.trans xG;cases I with
 |zero=>
  have D:z= -1:=ω
  subst D;have mg:zt (-1) 0 false:=rfl;refine Y18 ?_;exact cW i7 rfl ⟨d.next, sh j.next N N,by rw[←C];rfl,gC⟩
 |succ i=>
 have D:z=(i:Nat):=ω
 subst D;have Y:i<3 ^ l.length:=by rw[←C];omega
 have mg:zt i 0 true:=oS ω;have po:vi i 1 ((i:Int)-1):=jD (aO ω ω);have C2:=EX F.rf.rp (h:=η G) (.of WG) A (i:=i) ω;have V:=rT l.length i;have f9:∀k∈kY l.length i,k<=2:=uY;have cJ:=Qb (w:=w) (l:=l) (ns:=ns) Y;have ae:=P9 (w:=w) (l:=l) Y;have cX:=λ{p a:Nat} (ha:a<=2) hp=>Ry (n:=l.length) (i:=i) (p:=p) (a:=a) Y ha hp;refine Y14 ?_;refine FW.al C2 (λv y m ⟨c,e,q⟩=>⟨c,e,q.log m⟩) ?_;clear C2;rintro _ Q x2 ⟨cf,rfl,sF⟩;have Z:=xG.trans x2;have gt:=J.trans Z;have W2:=Z.wf W1;have ll:=Z.log.trans K;have pA:=x2.next
 have du:=(Z.old _ ω).trans hZ;have eq:=(x2.old _ ω).trans gC;have dT:=(x2.old _ ω).trans gB;have sF:aH Q 1 (sh G.next l.length cf) l.length (ints (zI (kY l.length i))):=sF;generalize hfd:kY l.length i=f at*;have da:aH Q 1 (sh G.next l.length cf) (zI f).length (ints (zI f)):=by rw[jq,V];exact sF
 have C3:=pG F.rf.rj.rc.r8 (h:=η Q) (.of W2) hw ((sp.ext gt).log []) ω (da.log []) (by rw[jq];exact V) (Gv f9);rw[pE]at C3;have ib:IsS (bsS w.1 (l.zip f)):=kE hw.a (pz sp.ok);have oY:=ib.len;have M:=zA (w:=w) (l:=l) (ns:=ns) (g:=f);have x3:=ff (h:=Q) (base:=h.next) ω (qt (aL 8 (.int .u64 0))) (qt (us (bsS w.1 (l.zip f))));have n3:((Q.push (qt (aL 8 (.int .u64 0)))).wr h.next Q.next (qt (us (bsS w.1 (l.zip f))))).next=Q.next+1:=rfl
 clear gC gB;refine Y7 ?_;refine FW.pu C3 ?_;clear C3;refine Y4 ?_;refine aG (bH ρ ρ YG (by(simp only[aF];assumption)) ρ (by exact bZ _)) ?_;refine Y2 ?_;generalize((Q.push (qt (aL 8 (.int .u64 0)))).wr h.next Q.next (qt (us (bsS w.1 (l.zip f)))))=G3 at*;have jp:=x2.trans x3;have B:=xG.trans jp;have W3:=B.wf W1;have lr:=B.log.trans K;have dv:=(x3.old _ ω).trans du;have eI:=(x3.old _ ω).trans eq;have e9:=(x3.old _ ω).trans dT;have fY:=da.ext x3;have pf:=ii (i+1);have ip:=i9 (i+1);have eB:(bls (pe w l l.length (i+1))).set (0+i*1) (.bool (bsB w (l.zip f)))=bls (pe w l l.length i):=by rw[Ri,ae]
 have eC:(ints (kZ w l ns l.length (i+1))).set (0+i*1) (zc 1099511627776)=ints ((kZ w l ns l.length (i+1)).set i (pJ w l ns f 0)):=by rw[zy];rfl
 clear du eq dT sF da ae;refine Y5 ?_;refine aG (jL ρ ρ τ ρ ρ ω) ?_;refine y3 ?_;have eg:(G3.wr h.next j.next (qt ((bls (pe w l l.length (i+1))).set (0+i*1) (.bool (bsB w (l.zip f)))))).get j.next=some (qt (bls (pe w l l.length i))):=by rw[eB];exact Heap.aM e9
 have w4:∀z,z≠j.next->(G3.wr h.next j.next (qt ((bls (pe w l l.length (i+1))).set (0+i*1) (.bool (bsB w (l.zip f)))))).get z=G3.get z:=λz D=>z5 D
 have n4:(G3.wr h.next j.next (qt ((bls (pe w l l.length (i+1))).set (0+i*1) (.bool (bsB w (l.zip f)))))).next=G3.next:=rfl
 have x4:Ext d (G3.wr h.next j.next (qt ((bls (pe w l l.length (i+1))).set (0+i*1) (.bool (bsB w (l.zip f)))))):=B.wr ω ω;generalize(G3.wr h.next j.next (qt ((bls (pe w l l.length (i+1))).set (0+i*1) (.bool (bsB w (l.zip f))))))=G4 at*;have eJ:=(w4 _ ω).trans eI;have dC:=(w4 _ ω).trans dv;have eK:=w4 G.next ω
 clear eI e9 dv;refine Y4 ?_;refine aG (jL ρ ρ τ ρ ρ ω) ?_;refine y3 ?_;have be:(G4.wr h.next d.next (qt ((ints (kZ w l ns l.length (i+1))).set (0+i*1) (zc 1099511627776)))).get d.next=some (qt (ints ((kZ w l ns l.length (i+1)).set i (pJ w l ns f 0)))):=by rw[eC];exact Heap.aM eJ
 have w5:∀z,z≠d.next->(G4.wr h.next d.next (qt ((ints (kZ w l ns l.length (i+1))).set (0+i*1) (zc 1099511627776)))).get z=G4.get z:=λz D=>z5 D
 have n5:(G4.wr h.next d.next (qt ((ints (kZ w l ns l.length (i+1))).set (0+i*1) (zc 1099511627776)))).next=G4.next:=rfl
 have x5:Ext d (G4.wr h.next d.next (qt ((ints (kZ w l ns l.length (i+1))).set (0+i*1) (zc 1099511627776)))):=x4.wr ω ω;generalize(G4.wr h.next d.next (qt ((ints (kZ w l ns l.length (i+1))).set (0+i*1) (zc 1099511627776))))=G5 at*;have ba:=(w5 _ ω).trans eg;have i0:=(w5 _ ω).trans dC;have W5:=x5.wf W1;have hJ:=J.trans x5;have i6:=x5.log.trans K;have dj:aH G5 1 (sh G.next l.length cf) (zI f).length (ints (zI f)):=aH.at1 fY ω ((w5 _ ω).trans eK);clear eJ eg dC w4 w5 x4 B eK fY ip;cases hcan:bsB w (l.zip f)with
 |false=>
  refine Y15 ?_;refine⟨i,ω,_,ω,rfl,rfl,rfl,x5,ω,?_,ba⟩;rw[be,←cJ,Tj hcan,MK]
 |true=>
 have M:=M hcan;have C5:=uE F.rf.rj (h:=η G5) (.of W5) hw ((sp.ext hJ).log []) ω (dj.log []) (by rw[jq];exact V) (Gv f9) ((sn.ext x5).log []) il (by rw[pE];exact hcan) fd;rw[pE,aw]at C5;refine Y14 ?_;refine FW.al C5 (λv y m q=>q.log m) ?_;clear C5;rintro v6 G6 x6 o6;have o6:Own G5.next G6 1 v6 os.length (fL (ns.map (jP (l.zip f) (bsS w.1 (l.zip f))))):=o6
 generalize hjl:ns.map (jP (l.zip f) (bsS w.1 (l.zip f)))=jl at*;have ik:jl.length=os.length:=by rw[←hjl,j3,aw]
 have gg:=x5.trans x6;have W6:=x6.wf W5;have lw:=x6.log.trans i6;have n6:=x6.next
 have s6:=o6.slice ω;rw[←ik]at s6;have C9:=oA F.rf.rj (h:=η G6) (.of W6) (s6.log []) ω;rw[M]at C9;obtain⟨b6,d6,rfl⟩:=s6.form;have bj:=(x6.old _ ω).trans be;have eh:=(x6.old _ ω).trans ba;have ge:=dj.ext x6;rw[jq,V]at ge;clear hjl o6 s6 be ba dj i0;have fX:∀c,(ints ((kZ w l ns l.length (i+1)).set i c)).length=N:=λc=>by rw[mB,hG,mJ,C]
 cases hop:eD w l ns f with
 |false=>
  rw[hop]at C9;have k0:=fX (pJ w l ns f 0);refine Y6 ?_;refine FW.pu C9 ?_;refine Y6 ?_;refine aG (jL ρ ρ τ ρ ρ ω) ?_;refine Y10 ?_;refine⟨i,ω,_,ω,rfl,rfl,rfl,gg.wr ω ω,by show j.next<G6.next;omega,?_,(z5 ω).trans eh⟩;rw[Heap.aM bj,zy,List.set_set,←cJ,KQ O A ω hcan hop]
 |true=>
 rw[hop]at C9;have m8:=A;refine Y6 ?_;refine FW.pu C9 ?_;clear C9;refine Y8 ?_
 refine aY (λI e ds y=>∃p:Nat,p<=l.length/\l.length-p=I∧e=[(1, .slice pa l.length pc),(3, sb h.next),(8, zc (l.length:Nat)),(9, .slice na os.length nc),(10, sh d.next N N),(11, sh j.next N N),(12, zc (i:Nat)),(13, sh G.next l.length cf),(17, zc (p:Nat))]/\ds=[]/\Ext d y∧y.next=G6.next/\(∀z,z≠d.next->y.get z=G6.get z)/\y.get d.next=some (qt (ints ((kZ w l ns l.length (i+1)).set i (pJ w l ns f p)))))
  ⟨0,hK _,rfl,rfl,rfl,gg,rfl,λ_ _=>rfl,bj⟩ ?_
 clear bj;rintro I e ds L ⟨p,o0,rfl,rfl,rfl,xL,nL,oL,S⟩;have WL:=xL.wf W1;have lL:=xL.log.trans K;have i4:=(oL _ ω).trans eh;have hY:=J.trans xL;by_cases hpl:p<l.length;case neg=>
  obtain rfl:p=l.length:=ω
  have pm:zd l.length l.length false:=dG ω;rw[Rx O A ω hop,cJ]at S;refine Y18 ?_;exact⟨i,ω,_,ω,rfl,rfl,rfl,xL,ω,S,i4⟩
 have pk:zd p l.length true:=dz ω;have kd:zE p 1 ((p+1:Nat):Int):=by
  have:=fK (a:=(p:Nat)) (b:=1) (aO ω ω);exact this
 obtain⟨pb,cY⟩:∃r,l[p]? =some r:=⟨l[p],bx hpl⟩;obtain⟨fp,X⟩:∃r,f[p]? =some r:=⟨f[p]' ω,bx ω⟩;have fb:f.getD p 0=fp:=by rw[dn,X];rfl
 have ie:cM l p=pb.cost:=by unfold cM;rw[dn,cY];rfl
 have mf:=O pb (ci cY);obtain⟨bG,oG,cG,pB,ke,tG,d9,gG,m9,kG⟩:=uc ge (Cg X);cases d9;have lf:=(oL G.next ω).trans gG;have ph:=fX (pJ w l ns f p);by_cases D:fp=0;case neg=>
  have m3:zB ((fp:Nat):Int) 0 true:=iY ω;refine Y29 ?_;refine⟨l.length-(p+1),ω,p+1,ω,rfl,rfl,rfl,xL,nL,oL,?_⟩;rw[S,MI (by rw[fb];exact D)]
 subst D;have m3:zB ((0:Nat):Int) 0 false:=rfl;have pp:vi l.length 1 ((l.length:Int)-1):=jD (aO ω ω);have py:af .sub (.int .i64 ((l.length:Int)-1)) (.int .i64 (p:Int))=some (.int .i64 ((l.length-1-p:Nat):Int)):=by
  have:=jD (a:=(l.length:Int)-1) (b:=(p:Nat)) (aO ω ω);rw[this];congr 2;omega
 have dp:=hP xL (n:=l.length-1-p) ω;have f7:=cX (p:=p) (a:=1) ω X;have f8:=cX (p:=p) (a:=2) ω X;have fj:=DG (w:=w) (ns:=ns) O f p;rw[←C]at f7 f8;have fw:3 ^ (l.length-1-p)<=6561:=tK ω;have ju:0<3 ^ (l.length-1-p):=AC (by simp);generalize 3 ^ (l.length-1-p)=st at*;have eQ:∀a,1<=a->a<=2->i+a*st<N/\bN (bls (pe w l l.length i)) (0+(i+a*st)*1)=some (.bool (bsB w (l.zip (f.set p a))))/\bN (ints ((kZ w l ns l.length (i+1)).set i (pJ w l ns f p))) (0+(i+a*st)*1)=some (zc (sQ w l ns (f.set p a))):=λa h1 h2=>by
  have U:i+a*st<N/\kY l.length (i+a*st)=f.set p a:=by
   have:a=1∨a=2:=ω
   rcases this with rfl|rfl
   ·exact f7
   ·exact f8
  have nf:i<i+a*st:=by
   have:a=1∨a=2:=ω
   rcases this with rfl|rfl<;>omega
  have ar:i+a*st<3 ^ l.length:=by rw[←C];exact U.1
  refine⟨U.1,UU ?_,CK ?_⟩
  ·rw[JA ω ar,U.2]
  ·rw[So ω,DW ω ar,U.2]
 refine Y28 ?_;refine FW.pu dp ?_;clear dp;refine Y5 ?_;refine cQ (E0:=[(1, .slice pa l.length pc),(3, sb h.next),(8, zc (l.length:Nat)),(9, .slice na os.length nc),(10, sh d.next N N),(11, sh j.next N N),(12, zc (i:Nat)),(13, sh G.next l.length cf),(17, zc (p:Nat)),(18, zc (st:Nat)),(19, zc (mH w l ns f p 2)),(20, zc 3),(84, .bool false)]) (P:=λy=>y=L) ?_ ?_
 ·refine Y4 ?_
  refine aY (λI e ds y=>∃a:Nat,a<=2/\2-a=I∧e=[(1, .slice pa l.length pc),(3, sb h.next),(8, zc (l.length:Nat)),(9, .slice na os.length nc),(10, sh d.next N N),(11, sh j.next N N),(12, zc (i:Nat)),(13, sh G.next l.length cf),(17, zc (p:Nat)),(18, zc (st:Nat)),(19, zc (mH w l ns f p a)),(20, zc ((a+1:Nat):Int))]/\ds=[]/\L=y)
   ⟨0,hK _,rfl,rfl,rfl,rfl⟩ ?_
  rintro I e ds _ ⟨a,ha,rfl,rfl,rfl,rfl⟩;by_cases ha2:a<2;case neg=>
   obtain rfl:a=2:=ω
   have ma:zp ((2+1:Nat):Int) 2 false:=rfl;refine Y10 ?_;exact⟨rfl,rfl,rfl,rfl⟩
  obtain⟨q1,q2,q3⟩:=eQ (a+1) ω ω;have ma:zp ((a+1:Nat):Int) 2 true:=fF ω;have jz:zE ((a+1:Nat):Int) 1 ((a+1+1:Nat):Int):=by
   have:=fK (a:=((a+1:Nat):Int)) (b:=1) (aO ω ω);exact this
  have np:(a+1)*st<=13122:=by
   have:=Hn (show a+1<=2 by omega) fw;omega
  have E:mH w l ns f p (a+1)=if bsB w (l.zip (f.set p (a+1)))=true then max (mH w l ns f p a) (sQ w l ns (f.set p (a+1)))else mH w l ns f p a:=rfl
  have mm:vj ((a+1:Nat):Int) st (((a+1)*st:Nat):Int):=by
   have e:(((a+1)*st:Nat):Int)=((a+1:Nat):Int)*(st:Nat):=by rw[Int.natCast_mul]
   have:=zK (a:=((a+1:Nat):Int)) (b:=(st:Nat)) (by rw[←e];omega) (by rw[←e];omega);rw[←e]at this;exact this
  have mi:zE i (((a+1)*st:Nat):Int) ((i+(a+1)*st:Nat):Int):=by
   have:=fK (a:=(i:Nat)) (b:=(((a+1)*st:Nat):Int)) (aO ω ω);exact this
  generalize i+(a+1)*st=ix at*;cases hb:bsB w (l.zip (f.set p (a+1)))with
  |false=>
   rw[hb]at q2 E;rw[if_neg (by simp)]at E;refine Y29 ?_;exact⟨2-(a+1),ω,a+1,ω,rfl,by rw[E],rfl,rfl⟩
  |true=>
   rw[hb]at q2 E;rw[if_pos rfl,←Hl]at E;refine Y31 ?_;refine aG (Eo ρ ρ) ?_;refine yM ?_;refine bA ?_;refine Y8 ?_;exact⟨2-(a+1),ω,a+1,ω,rfl,by rw[E],rfl,rfl⟩
 rintro _ rfl;obtain⟨bP,oP,cP,pC,lc,tP,d9,gP,i8,kP⟩:=sp.elem cY;cases d9;have lh:=(hY.old _ i8).trans gP;have oX:=kP.cost;have md:=U3 (w:=w) (ns:=ns) O f (p:=p) ω;have ol:=fj 2;have f0:=MJ (w:=w) (l:=l) (ns:=ns) (f:=f) (p:=p) fb;rw[ie,←NZ]at f0;have pi:bN (ints ((kZ w l ns l.length (i+1)).set i (pJ w l ns f p))) (0+i*1)=some (zc (pJ w l ns f p)):=CK (by rw[UV (by rw[mJ];exact Y)]);have pj:zE pb.cost (mH w l ns f p 2) (pb.cost+mH w l ns f p 2):=fK (aO (by unfold nvr at*;omega) (by unfold nvr at*;omega));generalize mH w l ns f p 2=ra at*;generalize hcp':pJ w l ns f p=cu at*;clear eQ fj cX;refine Y16 ?_;refine iU rfl rfl rfl ρ ρ ρ τ ρ ρ ω ω ω (by(repeat apply aB rfl);exact aQ) ?_;refine Y9 ?_;refine⟨l.length-(p+1),ω,p+1,ω,rfl,rfl,rfl,xL.wr ω ω,nL,λz D=>(z5 D).trans (oL z D),?_⟩;rw[Heap.aM S,zy,List.set_set,f0]
def AN{w:List Nat×List Nat}{l:List Pb}{ns:List (List (List Nat))}:∀{k:Nat} {f:List Nat},jT w l ns k (f.take l.length)=jT w l ns k f
 |0,f=>by unfold jT;rw[wA]
 |k+1,f=>by
  have e:bM l.length (f.take l.length)=bM l.length f:=by
   unfold bM;refine HG λp a=> ?_;have:=List.mem_range.1 a;rw[dn,dn,ac7,if_pos this]
  unfold jT;rw[wA,e];congr 1;refine tD λp _=> ?_;rw[←List.take_set,←List.take_set,AN,AN]
def T6(h:n<=8):List.replicate n 0=z8.take n:=by
 refine wy λj=> ?_;rw[GH,ac7];by_cases q:j<n
 ·rw[if_pos q,if_pos q,QU ω]
 ·rw[if_neg q,if_neg q]
def IB:∀{z:Zs},(∀x∈z,x.2=0)->∀s,bsS s z=s/\alB z s=true
 |[],_,_=>⟨rfl,rfl⟩
 |x::z,h,s=>by
  have h0:=h x b7;have a:=IB (z:=z) (λy c=>h y (bz _ c)) s;have e:bsJ s x=s:=by unfold bsJ;rw[h0];rfl
  refine⟨?_,?_⟩
  ·show bsS (bsJ s x) z=s;rw[e];exact a.1
  ·have b:alB (x::z) s=(!(decide (x.2=2)&&sIn x.1.cells s)&&alB z s):=rfl;rw[b,a.2,h0];rfl
def UY{w:List Nat×List Nat}{l:List Pb}(h:sIn w.1 w.2=true):bsB w (l.zip z8)=true:=by
 have q:=IB (z:=l.zip z8) (λx c=>by
  have:=(List.of_mem_zip (a:=x.1) (b:=x.2) c).2;unfold z8 at this;simpa using this) w.1
 unfold bsB;rw[q.1,q.2,h];rfl
def MM(h:n<=8):kY n 0=z8.take n:=by
 have:=IK (n:=n) (f:=List.replicate n 0) (wx ..) (λk a=>by rw[ac2 a];omega);rw[zv]at this;rw[this,T6 h]
def Qg{w:List Nat×List Nat}{l:List Pb}{ns:List (List (List Nat))}(h:sIn w.1 w.2=true)(a:l.length<=8):bN (ints (kZ w l ns l.length 0)) (0+0*1)=some (zc (cvF (bB w l ns z8))):=by
 refine CK ?_;rw[DW (bl _) (AC (by simp)),MM a];unfold sQ bB;rw[AR,UY h,if_pos rfl,AN]
def Tg(F:Gx T)(hr:Rdy h){w:List Nat×List Nat}(r:IsW w){E:Value}{l:List Pb}(z:PbS h E l)(I:l.length<1000000){D:Value}(y:SsQ h D os)(k:os.length<1000000):
 Pu T 7 [wV w,E,D] h (.tuple #[zc (pI w l os).1, zc (pI w l os).2]):=by
 have J:=F.rf.rj.rc.r8.p;refine .of J F.f57 hr rfl ?_;have x:cellsOf (wV w)=wL w:=by show(wL w).toArray.toList=_;simp
 obtain⟨pa,pc,rfl⟩:=z.form;obtain⟨oa,oc,rfl⟩:=y.sl.form;have d:Ext h (h.push (qt (cellsOf (wV w)))):=(Ext.refl h).push _;have Q:(h.push (qt (cellsOf (wV w)))).get h.next=some (qt (wL w)):=by rw[x];exact z3 h _
 have n0:(h.push (qt (cellsOf (wV w)))).next=h.next+1:=rfl
 refine Y5 ?_;generalize(h.push (qt (cellsOf (wV w))))=H at*;have W:=d.wf hr.wf;have t:=d.log.trans hr.log;have wk:=ja r;have L:=gu r;have s:=wK F.rf.rj.rc (h:=η H) (.of W) r ((z.ext d).log []) I ((y.ext d).log []) k;unfold pI;have c:=Cr (w:=w) (l:=l) (os:=os);have a:=j5 (w:=w) (l:=l) (os:=os);generalize mM w l os=er at*;by_cases he:er=0;case neg=>
  rw[if_pos (show er≠0 from he)];have X:zz er 0 false:=jH he;have Y:zB er 0 true:=iY he;refine Y5 ?_;refine FW.pu s ?_;refine Y23 ?_;exact an t rfl rfl
 subst he;rw[if_neg (show¬ (0:Int)≠0 from λq=>q rfl)];obtain⟨i,B,n,j⟩:=c rfl;have o:=qH (a.1 rfl).2.2.2.2;clear c a;have f:=Hg F.rf.rj.rc.n3 (h:=η H) (.of W) r i;cases hm:nQ w with
 |true=>
  rw[hm,if_pos rfl]at f;rw[if_pos rfl];refine Y5 ?_;refine FW.pu s ?_;refine Y11 ?_;refine FW.pu f ?_;refine Y15 ?_;exact an t rfl rfl
 |false=>
 rw[hm,if_neg (by simp)]at f;rw[if_neg (by simp)];have A:=MH F (h:=η H) (.of W) r ((z.ext d).log []) j o ((y.ext d).log []) k n;have C:=Qg (ns:=os.map (cE w)) i j;have P:=gr (w:=w) (ns:=os.map (cE w)) (hc0 o) z8;have K:(ints (kZ w l (os.map (cE w)) l.length 0)).length=3 ^ l.length:=by rw[mB,mJ]
 have G:0<3 ^ l.length:=AC (by simp);generalize 3 ^ l.length=N at*;generalize bB w l (os.map (cE w)) z8=V at*;generalize ints (kZ w l (os.map (cE w)) l.length 0)=cs at*;refine Y5 ?_;refine FW.pu s ?_;clear s;refine Y11 ?_;refine FW.pu f ?_;clear f;refine Y15 ?_;refine FW.al A (λv U m q=>q) ?_;clear A;rintro _ O M ⟨b,u,rfl,S⟩;have g:=M.log.trans t;by_cases hv:100000<=V
 ·obtain rfl:V=100000:=ω
  have e:cvF 100000=1099511627776:=rfl;rw[e]at C;rw[if_pos hv];refine Y20 ?_;exact an g rfl rfl
 ·have e:cvF V=V:=by unfold cvF;rw[if_neg ω]
  rw[e]at C;rw[if_neg hv];have Z:zt V 1099511627776 false:=uu ω;refine Y24 ?_;exact an g rfl rfl
def SlJ(h:Heap)(v:Value)(l:List Nat):Prop:=aH h 1 v l.length (fL l)∨l=[]/\∃b o k,v= .slice (some ⟨b,o,some k⟩) 0 0
def SlJ.form{h:Heap}{v:Value}{l:List Nat}(s:SlJ h v l):∃a c,v= .slice a l.length c:=by
 rcases s with s|⟨rfl,b,o,k,rfl⟩
 ·exact aH.form s
 ·exact⟨_,_,rfl⟩
def SlJ.ext{h h':Heap}{v:Value}{l:List Nat}(s:SlJ h v l)(x:Ext h h'):SlJ h' v l:=s.imp (λs=>aH.ext s x) id
def SlJ.log{h:Heap}{v:Value}{l:List Nat}(s:SlJ h v l)(m:List Nat):SlJ {h with log:=m} v l:=s.imp (λs=>aH.log s m) id
variable{v:Value}
def Wu{l:List Nat}(s:SlJ h v l){x:Value}(hi:(fL l)[i]? =some x):
 ∃b o c vs own t,v= .slice (some ⟨b,o,none⟩) l.length c/\h.get b=some (.cells vs own t)/\b<h.next/\bN vs (o+i*1)=some x:=by
 rcases s with s|⟨rfl,_⟩
 ·exact uc s hi
 ·simp[fL]at hi
def stL(fs:List Value)(s:List Sta):List Value:=(fs.zip s).flatMap λp=>[p.1, zc p.2.cost]
def PL:∀{fs:List Value} {s:List Sta} {i:Nat} {u:Value} {x:Sta},fs[i]? =some u->s[i]? =some x->((stL fs s).drop (i*2)).take 2=[u, zc x.cost]
 |[],_,i,u,x,h,_=>by simp at h
 |_::_,[],i,u,x,_,h=>by simp at h
 |a::fs,b::s,0,u,x,h1,h2=>by
  simp at h1 h2;subst h1;subst h2;rfl
 |a::fs,b::s,i+1,u,x,h1,h2=>by
  have e:(stL (a::fs) (b::s)).drop 2=stL fs s:=rfl;rw[show(i+1)*2=2+i*2 by omega,←List.drop_drop,e];exact PL (by simpa using h1) (by simpa using h2)
structure yw (h:Heap) (v:Value) (s:List Sta):Prop where
 ex:∃fs:List Value,fs.length=s.length/\aH h 2 v s.length (stL fs s)/\∀(i:Nat) u x,fs[i]? =some u->s[i]? =some x->SlJ h u x.found
def yw.form{h:Heap}{v:Value}{s:List Sta}(S:yw h v s):∃a c,v= .slice a s.length c:=by
 obtain⟨d,_,b,_⟩:=S.ex;exact b.form
def yw.log{h:Heap}{v:Value}{s:List Sta}(S:yw h v s)(m:List Nat):yw {h with log:=m} v s:=by
 obtain⟨a,e,d,f⟩:=S.ex;exact⟨a,e,d.log m,λi u y b c=>(f i u y b c).log m⟩
def yw.elem{s:List Sta}(S:yw h v s){x:Sta}(hi:s[i]? =some x):
 ∃b o c d a t u,v= .slice (some ⟨b,o,none⟩) s.length c/\h.get b=some (.cells d a t)/\b<h.next/\cm 2 (bQ (o+i*2) d)=[u, zc x.cost]/\bN d (o+i*2+0)=some u/\SlJ h u x.found:=by
 obtain⟨f,e,n,p⟩:=S.ex;have m:=(List.getElem?_eq_some_iff.1 hi).1;obtain⟨u,j⟩:∃u,f[i]? =some u:=⟨f[i]' ω,bx _⟩;rcases aH.inv n with⟨_,_,h0,_⟩|⟨b,o,cap,hv,s3,hc⟩
 ·omega
 ·obtain⟨d,a,t,k,l⟩:=s3.obj;have g:(d.drop (o+i*2)).take 2=[u, zc x.cost]:=by
   rw[←PL j hi,←l];simp only[bw,aT,ab7,ab8,Co];congr 1;omega
  refine⟨b,o,cap,d,a,t,u,hv,k,s3.lt,by rw[bw,aT];exact g,?_,p i u x j hi⟩;rw[cC];have:((d.drop (o+i*2)).take 2)[0]? =some u:=by rw[g];rfl
  rw[wi ω,wn]at this;exact this
end Go.A.Pk
end
section
namespace Go.A.Pk
variable {T:Nat->Option aq}
section
open I
end
structure HoB (H:Heap) (b q r:Nat) (f:List Nat) (c:Int) (mm:List (List Nat×Int)):Prop where
 g4:H.get b=some (qt [sb q])
 g5:H.get (b+1)=some (qt [.map (some r)])
 g6:H.get (b+2)=some (qt (fL f))
 g7:H.get (b+3)=some (qt [zc c])
 g8:H.get (b+4)=some (qt [.bool false])
 gm:zL (H.get r)=some (kM mm)
structure FmI (l:List Pb) (s:List Sta) (i:Nat):Prop where
 ok:∀x∈s.take i,x.found.length=l.length/\(∀k∈x.found,k<=2)/\1<=x.cost/\x.cost<=100000
 up:∀(j:Nat) x y,j+1<i->s[j]? =some x->s[j+1]? =some y->ez x.found<ez y.found
def caR(w:List Nat×List Nat)(l:List Pb)(os:List (List Nat))(s:List Sta)(b:Bool):Bool×Int:=if opE w l os≠0 then(false,opE w l os)else if 6561<s.length then(false,2)else(b,0)
structure LH (T:Nat->Option aq):Prop where
 rp:Ir T
 f111:T 41=some f111
 f114:T 44=some f114
variable{f:List Nat}
def T7{i k:Nat}(h:f[i]? =some k):ints (zI (f.take (i+1)))=ints (zI (f.take i))++[zc ((k:Nat):Int)]:=by
 obtain⟨a,rfl⟩:=List.getElem?_eq_some_iff.1 h;rw[xa a];unfold ints zI;rw[A1,A1];rfl
variable{h:Heap}{v:Value}
def zQ(F:LH T)(hr:Rdy h)(S:SlJ h v f)(N:f.length<1000000)(hb:∀k∈f,k<256):
 Al T 41 [v] h λu g=>Own h.next g 1 u f.length (ints (zI f)):=by
 refine .of F.rp.p F.f111 hr (λv L s q=>Own.Bu s q) ?_;obtain⟨a,c,rfl⟩:=S.form;refine Y11 ?_
 refine aY (λm e y g=>∃(i:Nat) (u:Value),i<=f.length/\f.length-i=m/\e=[(0, .slice a f.length c),(3,u),(4, zc (i:Nat))]/\y=[]/\Ext h g∧Own h.next g 1 u i (ints (zI (f.take i))))
  ⟨0,_,hK _,rfl,rfl,rfl, .refl h, .nil⟩ ?_
 rintro m e y G ⟨i,u,O,rfl,rfl,rfl,d,x⟩;have j:=d.log.trans hr.log;by_cases hlt:i<f.length
 ·obtain⟨k,n⟩:∃k,f[i]? =some k:=⟨f[i],bx hlt⟩;obtain⟨b,o,I,Q,D,t,s,A,l,J⟩:=Wu S (Uv n);cases s;have K:=(d.old _ l).trans A;have B:=hb k (ci n);have w:zd i f.length true:=dz ω;have P:fU .i64 ((k:Nat):Int)=((k:Nat):Int):=aO ω ω;have z:zE i 1 ((i+1:Nat):Int):=by
   have:=fK (a:=(i:Nat)) (b:=1) (aO ω ω);exact this
  have r:=T7 n;refine Y18 ?_;refine aG (yy ρ τ) ?_;refine aG (kA ρ ρ) ?_;refine vM (lo:=h.next) (c1:=[zc (k:Nat)]) (x.ext ((Ext.refl G).push _)) ω ω ω (by have:=d.next;show h.next<=G.next+1;omega) ω ρ ρ (fA (cs:=[zc (k:Nat)]) (z3 G _) rfl rfl) rfl rfl ?_;intro E M C H;refine yM ?_;refine bA ?_;refine Y8 ?_;refine⟨f.length-(i+1),ω,i+1,E,ω,rfl,rfl,rfl,((d.lx (bl _)).trans ((((Ext.refl G).push _).lx (by have:=d.next;omega)).trans H)).ext,?_⟩;rw[r];exact C
 ·obtain rfl:i=f.length:=ω
  have w:zd f.length f.length false:=dG ω;rw[wd]at x;refine Y18 ?_;exact cW j rfl x
def Nn{i k:Nat}(h:f[i]? =some k):ez (f.take (i+1))=3*ez (f.take i)+k:=by
 obtain⟨a,rfl⟩:=List.getElem?_eq_some_iff.1 h;rw[xa a];unfold ez;rw[yr];rfl
def Vh(a:∀k∈f,k<=2)(c:f.length<=8)(i:Nat):ez (f.take i)<6561:=by
 have h:=qw (f:=f.take i) λk b=>a k (yn b);have:=tK (n:=(f.take i).length) (by rw[lp];omega);omega
def Ff(F:LH T)(hr:Rdy h)(S:aH h 1 v f.length (ints (zI f)))(u:f.length<=8)(q:∀k∈f,k<=2):
 Pu T 44 [v] h (zc ((ez f:Nat):Int)):=by
 refine .of F.rp.p F.f114 hr rfl ?_;obtain⟨a,c,rfl⟩:=S.form;have w:=hr.log;refine Y11 ?_
 refine aY (λm e l s=>∃i:Nat,i<=f.length/\f.length-i=m/\e=[(0, .slice a f.length c),(3, zc ((ez (f.take i):Nat):Int)),(4, zc (i:Nat))]/\l=[]/\h=s)
  ⟨0,hK _,rfl,rfl,rfl,rfl⟩ ?_
 rintro m e l _ ⟨i,G,rfl,rfl,rfl,rfl⟩;by_cases hlt:i<f.length
 ·obtain⟨k,d⟩:∃k,f[i]? =some k:=⟨f[i],bx hlt⟩;obtain⟨b,o,C,J,B,t,A,D,x,E⟩:=uc S (Cg d);cases A;have j:zd i f.length true:=dz ω;have z:=q k (ci d);have y:=Vh q u i;have g:=Nn d;generalize ez (f.take i)=n at*;have I:vj 3 n ((3*n:Nat):Int):=by
   have:=zK (a:=3) (b:=((n:Nat):Int)) ω ω;exact this
  have H:zE ((3*n:Nat):Int) k ((3*n+k:Nat):Int):=by
   have:=fK (a:=((3*n:Nat):Int)) (b:=(k:Nat)) (aO ω ω);exact this
  have r:zE i 1 ((i+1:Nat):Int):=by
   have:=fK (a:=(i:Nat)) (b:=1) (aO ω ω);exact this
  refine Y21 ?_;refine bA ?_;refine Y8 ?_;exact⟨f.length-(i+1),ω,i+1,ω,rfl,by rw[g],rfl,rfl⟩
 ·obtain rfl:i=f.length:=ω
  have j:zd f.length f.length false:=dG ω;rw[wd];refine Y18 ?_;exact an w rfl rfl
end Go.A.Pk
end
section
namespace Go.A.Pk
variable {T:Nat->Option aq}
def Ey(s:List Sta):Nat->Int
 |0=> -1
 |i+1=>match s[i]? with
  |some x=>((ez x.found:Nat):Int)
  |none=> -1
variable{i:Nat}
def uQ{s:List Sta}{x:Sta}(h:s[i]? =some x):Ey s (i+1)=((ez x.found:Nat):Int):=by
 show(match s[i]? with|some x=>((ez x.found:Nat):Int)|none=> -1)=_;rw[h]
def Ez{s:List Sta}(h:s[i]? =none):Ey s (i+1)= -1:=by
 show(match s[i]? with|some x=>((ez x.found:Nat):Int)|none=> -1)=_;rw[h]
structure yj (w:List Nat×List Nat) (l:List Pb) (ns:List (List (List Nat))) (s:List Sta) (i:Nat) (x:Sta):Prop where
 len:x.found.length=l.length
 le2:∀k∈x.found,k<=2
 c1:1<=x.cost
 c2:x.cost<=100000
 bef:Ey s i<((ez x.found:Nat):Int)
 can:bsB w (l.zip x.found)=true
 opn:eD w l ns x.found=true
section
variable {w:List Nat×List Nat} {l:List Pb} {ns:List (List (List Nat))} {s:List Sta} {cost:Int}
variable{i:Nat}{x:Sta}
def JL(h:JK w l ns s cost)(d:s[i]? =some x):yj w l ns s i x:=by
 have c:=ci d;obtain⟨b,f,g,j⟩:=h.1.1 x c;have a:=(h.2.1 x c).1;have e:eD w l ns (jh x.found)=eD w l ns x.found:=by unfold eD;rw[Ef b]
 rw[e]at a;refine⟨b,f,g,j,?_,sK a,a⟩;cases i with
 |zero=>show(-1:Int)<_;omega
 |succ i=>
  cases hy:s[i]? with
  |none=>rw[Ez hy];omega
  |some y=>
   have:=h.1.2 i y x hy d;rw[uQ hy];omega
def zn(h:∀(i:Nat) x,s[i]? =some x->yj w l ns s i x):IS l s:=by
 refine⟨λx a=> ?_,λi x y a c=> ?_⟩
 ·obtain⟨i,b⟩:=List.mem_iff_getElem?.1 a;have:=h i x b;exact⟨this.len,this.le2,this.c1,this.c2⟩
 ·have:=(h (i+1) y c).bef;rw[uQ a]at this;omega
def Ra(h:∀(i:Nat) x,s[i]? =some x->yj w l ns s i x):JK w l ns s cost↔(∀(i:Nat) x,s[i]? =some x->∀p,p<l.length->x.found.getD p 0=0->(xJ w l s x p 1||xJ w l s x p 2)=true)/\(cost<=0∨cost<=lkS s z8):=by
 constructor
 ·rintro⟨f,b,c⟩;exact⟨λi x a=>(IW (h i x a).len).1 (b x (ci a)).2,c⟩
 ·rintro⟨b,c⟩;refine⟨zn h,λx a=> ?_,c⟩;obtain⟨i,d⟩:=List.mem_iff_getElem?.1 a;have g:=h i x d;refine⟨?_,(IW g.len).2 (b i x d)⟩;have e:eD w l ns (jh x.found)=eD w l ns x.found:=by unfold eD;rw[Ef g.len]
  rw[e];exact g.opn
def Mn(a:s[i]? =some x):Ey s (i+1)=((ez x.found:Nat):Int):=uQ a
def US(a:l.length<=8)(h:∀(j:Nat) x,j<i->s[j]? =some x->yj w l ns s j x): -1<=Ey s i/\Ey s i<6561:=by
 cases i with
 |zero=>exact⟨by show(-1:Int)<= -1;omega,by show(-1:Int)<_;omega⟩
 |succ i=>
  cases hy:s[i]? with
  |none=>rw[Ez hy];omega
  |some y=>
   rw[uQ hy];have g:=h i y ω hy;have:=qw g.le2;have b:=tK (n:=y.found.length) (by rw[g.len];exact a);omega
end
def Sv{f:List Nat}(h:sI (zI f)=true):∀k∈f,k<=2:=λk a=>by
 unfold sI at h;have:=List.all_eq_true.1 h (Int.ofNat k) (List.mem_map.2 ⟨k,a,rfl⟩);unfold inR at this;have:=(of_decide_eq_true this).2;have e:Int.ofNat k=(k:Int):=rfl;omega
def Gh{vs:List Value}{m:Nat}{u:Value}{c:Int}(h:cm 2 (bQ m vs)=[u, zc c]):bN vs (m+1)=some (zc c):=by
 rw[bw,aT]at h;have:=congrArg (λq:List Value=>q[1]?) h;simpa[cC,ac7,wn]using this
def hdA(A:Nat->Bool):Nat->Bool
 |0=>false
 |1=>false
 |2=>A 1
 |_=>A 1||A 2
def RQ(A:Nat->Bool){a:Nat}(h1:1<=a)(b:a<=2):hdA A (a+1)=(hdA A a||A a):=by
 have:a=1∨a=2:=ω
 rcases this with rfl|rfl
 ·show A 1=(false||A 1);simp
 ·rfl
structure LK (T:Nat->Option aq):Prop where
 rf:En T
 nu:LH T
 f30:T 10=some f30
def FZ(F:LK T){h:Heap}(hr:Rdy h){w:List Nat×List Nat}(hw:IsW w){pv:Value}{l:List Pb}(sp:PbS h pv l)(hl:l.length<1000000){ov:Value}{os:List (List Nat)}(so:SsQ h ov os)(eK:os.length<1000000){tv:Value}{s:List Sta}(S0:yw h tv s)(ui:s.length<1000000)(hZ:∀x∈s,x.found.length<1000000/\∀k∈x.found,k<256)(cost:Int){b:Bool}(hb:b=true↔JK w l (os.map (cE w)) s cost):
 Pu T 10 [wV w,pv,ov,tv, zc cost] h (.tuple #[.bool (caR w l os s b).1, zc (caR w l os s b).2]):=by
 have hp:=F.rf.rj.rc.r8.p;refine .of hp F.f30 hr rfl ?_;have nl:cellsOf (wV w)=wL w:=by show(wL w).toArray.toList=_;simp
 obtain⟨pa,pc,rfl⟩:=sp.form;obtain⟨oa,oc,rfl⟩:=so.sl.form;obtain⟨sa,sc,rfl⟩:=S0.form;have x0:Ext h (h.push (qt (cellsOf (wV w)))):=(Ext.refl h).push _;have g0:(h.push (qt (cellsOf (wV w)))).get h.next=some (qt (wL w)):=by rw[nl];exact z3 h _
 have n0:(h.push (qt (cellsOf (wV w)))).next=h.next+1:=rfl
 refine Y5 ?_;generalize(h.push (qt (cellsOf (wV w))))=H at*;have W:=x0.wf hr.wf;have hL:=x0.log.trans hr.log;have wk:=ja hw;have wc:=gu hw;have C1:=wK F.rf.rj.rc (h:=η H) (.of W) hw ((sp.ext x0).log []) hl ((so.ext x0).log []) eK;unfold caR opE;have du:=Cr (w:=w) (l:=l) (os:=os);have aw:=j5 (w:=w) (l:=l) (os:=os);generalize mM w l os=er at*;by_cases he:er=0;case neg=>
  rw[if_pos (show er≠0 from he),if_pos (show er≠0 from he)];have m1:zz er 0 false:=jH he;have m2:zB er 0 true:=iY he;refine Y5 ?_;refine FW.pu C1 ?_;refine Y36 ?_;exact an hL rfl rfl
 subst he;rw[if_neg (show¬ (0:Int)≠0 from λq=>q rfl)];obtain⟨m8,pB,dE,da⟩:=du rfl;have nf:=qH (aw.1 rfl).2.2.2.2;clear du aw;have C3:=Hg F.rf.rj.rc.n3 (h:=η H) (.of W) hw m8;cases hm:nQ w with
 |true=>
  rw[hm,if_pos rfl]at C3;rw[if_pos rfl,if_pos (by decide)];refine Y5 ?_;refine FW.pu C1 ?_;refine Y11 ?_;refine FW.pu C3 ?_;refine Y28 ?_;exact an hL rfl rfl
 |false=>
 rw[hm,if_neg (by simp)]at C3;rw[if_neg (by simp)];by_cases h256:6561<s.length
 ·have mg:zs s.length 6561 true:=fh ω;rw[if_pos h256];refine Y5 ?_;refine FW.pu C1 ?_;refine Y11 ?_;refine FW.pu C3 ?_;refine Y32 ?_;exact an hL rfl rfl
 have mg:zs s.length 6561 false:=gT ω;rw[if_neg h256];have CA:=GD F.rf.rj.rc (h:=η H) (.of W) hw ((so.ext x0).log []) eK dE;refine Y5 ?_;refine FW.pu C1 ?_;clear C1;refine Y11 ?_;refine FW.pu C3 ?_;clear C3;refine Y30 ?_;refine FW.al CA (λv D m q=>q.log m) ?_;clear CA;rintro nv d x1 sn;obtain⟨na,nc,rfl⟩:=sn.form;rw[j3];have dT:=x0.trans x1;have W1:=dT.wf hr.wf;have gg:=x1.log.trans hL;have n1:=x1.next
 have CP:=FN F.rf.rp (h:=η d) (.of W1) da;have ld:=tK da;obtain⟨N,hN⟩:∃N,N=3 ^ l.length:=⟨_,rfl⟩;rw[←hN]at CP ld;refine Y6 ?_;refine FW.pu CP ?_;clear CP;skip;refine aG (lE ρ ρ (bl _) ω ω rfl) ?_;refine WO.M9 ?_;intro H2 cY;have x2:Ext d H2:=by rw[cY];exact(Ext.refl d).push _
 have n2:H2.next=d.next+1:=by rw[cY];rfl
 have g2:H2.get d.next=some (qt (ints (owL (List.replicate N 0) []))):=by
  rw[cY,zJ];have e:zI (List.replicate N 0)=owL (List.replicate N 0) []:=by show(List.replicate N 0).map Int.ofNat=List.replicate N 0;rw[List.map_replicate];rfl
  rw[e];exact z3 _ _
 clear cY;have bo:∀t,(ints (owL (List.replicate N 0) t)).length=N:=λt=>by rw[mB,Jg,wx]
 have i5:∀r∈os.map (cE w),r.length<1000000/\∀n∈r,IsS n/\Sub n w.2:=λr hr=>by
  obtain⟨o,ho,rfl⟩:=List.mem_map.1 hr;exact⟨xj (nr w o) (by decide),λn hn=>⟨pU hw hn,vt hw (so.ok o ho) (dE o ho) hn⟩⟩
 have mf:(os.map (cE w)).length<1000000:=by rw[j3];exact eK
 have dC:(os.map (cE w)).length=os.length:=j3 ..;have ii:=sn;generalize os.map (cE w)=ns at*;refine Y10 ?_
 refine aY (λk' e ds D=>∃i:Nat,i<=s.length/\s.length-i=k'∧e=[(1, .slice pa l.length pc),(3, .slice sa s.length sc),(4, zc cost),(5, sb h.next),(13, .slice na os.length nc),(14, sh d.next N N),(15, zc (Ey s i)),(16, zc (i:Nat))]/\ds=[]/\Ext d D∧d.next<D.next/\D.get d.next=some (qt (ints (owL (List.replicate N 0) (s.take i))))/\∀(j:Nat) x,j<i->s[j]? =some x->yj w l ns s j x)
  ⟨0,hK _,rfl,rfl,rfl,x2,ω,by simpa using g2,λj x hj=>absurd hj ω⟩ ?_
 clear x2 n2 g2;rintro k' e ds G ⟨i,hi,rfl,rfl,rfl,xG,nG,gO,E⟩;have WG:=xG.wf W1;have Q:=xG.log.trans gg;have C:=dT.trans xG;by_cases hlt:i<s.length
 ·have f8:zd i s.length true:=dz ω;obtain⟨x,B⟩:∃x,s[i]? =some x:=⟨s[i],bx hlt⟩;obtain⟨bF,oF,cF,pf,i9,tF,u,J,gF,aE,f7,ol,SJ⟩:=S0.elem B;cases J;have oX:=Gh f7;have ju:=(C.old _ aE).trans gF;have ba:b=true->yj w l ns s i x:=λq=>JL (hb.1 q) B;have U:=hZ x (ci B);have C2:=zQ F.nu (h:=η G) (.of WG) ((SJ.ext C).log []) U.1 U.2;have tx:=US da E;refine Y19 ?_;refine FW.al C2 (λv D m q=>q.log m) ?_;clear C2;rintro v3 Y x3 o3;have o3:Own G.next Y 1 v3 x.found.length (ints (zI x.found)):=o3
  have s3:=o3.slice ω;obtain⟨a3,c3,rfl⟩:=s3.form;have cX:=C.trans x3;have W3:=cX.wf hr.wf;have d9:=x3.log.trans Q;have n3:=x3.next
  have jp:=(cX.old _ aE).trans gF;have fY:=(x3.old _ ω).trans gO;have fj:=((x1.trans (xG.trans x3)).old _ ω).trans g0;have ib:aH Y 1 (.slice a3 x.found.length c3) (zI x.found).length (ints (zI x.found)):=by rw[jq];exact s3
  have C4:=KU F.rf.rj.rc.r8 (h:=η Y) (.of W3) ((sp.ext cX).log []) (ib.log []) (by rw[jq];exact U.1);clear ju;cases hf:(RI (zI x.found) l.length).2 with
  |false=>
   obtain rfl:b=false:=by
    cases b with
    |false=>rfl
    |true=>
     have g:=ba rfl;rw[Vb,Gv g.le2,jq,decide_eq_true g.len]at hf;cases hf
   rw[hf,if_neg (by simp)]at C4;refine Y7 ?_;refine FW.pu C4 ?_;refine Y29 ?_;exact an d9 rfl rfl
  |true=>
  rw[hf,if_pos rfl]at C4;rw[Vb,gk,decide_eq_true_eq,jq]at hf;have c:=Sv hf.2;have C5:=No hp F.rf.rj.rc.r8.f113 (h:=η Y) (.of W3) x.cost 1 100000;have C6:=Ff F.nu (h:=η Y) (.of W3) (s3.log []) ω c;have m9:=qw c;rw[hf.1,←hN]at m9;refine Y7 ?_;refine FW.pu C4 ?_;clear C4;cases hco:inR x.cost 1 100000 with
  |false=>
   obtain rfl:b=false:=by
    cases b with
    |false=>rfl
    |true=>
     have g:=ba rfl;have:=of_decide_eq_false hco;exact absurd ⟨g.c1,g.c2⟩ this
   rw[hco]at C5;refine Y14 ?_;refine FW.pu C5 ?_;refine Y22 ?_;exact an d9 rfl rfl
  |true=>
  have dv:=of_decide_eq_true hco;rw[hco]at C5;refine Y14 ?_;refine FW.pu C5 ?_;clear C5;generalize hid:ez x.found=ix at*;generalize hbe:Ey s i=bf at*;by_cases hle:(ix:Int)<=bf
  ·obtain rfl:b=false:=by
    cases b with
    |false=>rfl
    |true=>
     have:=(ba rfl).bef;omega
   have ml:zp ix bf true:=fF hle;refine Y8 ?_;refine FW.pu C6 ?_;refine Y18 ?_;exact an d9 rfl rfl
  have ml:zp ix bf false:=fE ω;refine Y8 ?_;refine FW.pu C6 ?_;refine Y12 ?_;refine FW.pu C6 ?_;clear C6;have i7:(ints (owL (List.replicate N 0) (s.take i))).set (0+ix*1) (zc x.cost)=ints (owL (List.replicate N 0) (s.take (i+1))):=by
   obtain⟨i4,np⟩:=List.getElem?_eq_some_iff.1 B;rw[xa i4,np,OP,hid,hF,xr];unfold ints;rw[WP]
  have pC:=bo (s.take i);refine Y11 ?_;refine aG (jL ρ ρ τ ρ ρ ω) ?_;refine y3 ?_;have x4:Ext d (Y.wr h.next d.next (qt ((ints (owL (List.replicate N 0) (s.take i))).set (0+ix*1) (zc x.cost)))):=(xG.trans x3).wr (bl _) ω;have ge:(Y.wr h.next d.next (qt ((ints (owL (List.replicate N 0) (s.take i))).set (0+ix*1) (zc x.cost)))).get d.next=some (qt (ints (owL (List.replicate N 0) (s.take (i+1))))):=by rw[Heap.aM fY,i7]
  have n4:(Y.wr h.next d.next (qt ((ints (owL (List.replicate N 0) (s.take i))).set (0+ix*1) (zc x.cost)))).next=Y.next:=rfl
  have w4:∀z,z≠d.next->(Y.wr h.next d.next (qt ((ints (owL (List.replicate N 0) (s.take i))).set (0+ix*1) (zc x.cost)))).get z=Y.get z:=λz hz=>z5 hz
  generalize(Y.wr h.next d.next (qt ((ints (owL (List.replicate N 0) (s.take i))).set (0+ix*1) (zc x.cost))))=H4 at*;have e9:=dT.trans x4;have W4:=e9.wf hr.wf;have lf:=x4.log.trans gg;have fw:=(w4 _ ω).trans fj;have s4:aH H4 1 (.slice a3 x.found.length c3) x.found.length (ints (zI x.found)):=(o3.keep ω λz h1 h2=>w4 z ω).slice ω;have f9:aH H4 1 (.slice a3 x.found.length c3) (zI x.found).length (ints (zI x.found)):=by rw[jq];exact s4
  have C7:=pG F.rf.rj.rc.r8 (h:=η H4) (.of W4) hw ((sp.ext e9).log []) ω (f9.log []) (by rw[jq];exact hf.1) hf.2;rw[pE]at C7;have eJ:IsS (bsS w.1 (l.zip x.found)):=kE hw.a (pz sp.ok);have o0:=eJ.len;have V:=ff (h:=H4) (base:=h.next) ω (qt (aL 8 (.int .u64 0))) (qt (us (bsS w.1 (l.zip x.found))));have n5:((H4.push (qt (aL 8 (.int .u64 0)))).wr h.next H4.next (qt (us (bsS w.1 (l.zip x.found))))).next=H4.next+1:=rfl
  clear fY fj s3 ib x3 W3 d9 jp cX o3;refine Y5 ?_;refine FW.pu C7 ?_;clear C7;have bj:=zA (w:=w) (l:=l) (ns:=ns) (g:=x.found);refine Y4 ?_;refine aG (bH ρ ρ YG (by(simp only[aF];assumption)) ρ (by exact bZ _)) ?_;refine Y2 ?_;generalize((H4.push (qt (aL 8 (.int .u64 0)))).wr h.next H4.next (qt (us (bsS w.1 (l.zip x.found)))))=H5 at*;have fd:=e9.trans V;have W5:=fd.wf hr.wf;have gt:=V.log.trans lf;have sm:=(V.old _ ω).trans fw;have kd:=(V.old _ ω).trans ge;have s5:=f9.ext V;clear fw ge s4 f9;cases hcan:bsB w (l.zip x.found)with
  |false=>
   obtain rfl:b=false:=by
    cases b with
    |false=>rfl
    |true=>exact absurd (ba rfl).can (by rw[hcan];simp)
   refine Y17 ?_;exact an gt rfl rfl
  |true=>
  have bj:=bj hcan;have C8:=uE F.rf.rj (h:=η H5) (.of W5) hw ((sp.ext fd).log []) ω (s5.log []) (by rw[jq];exact hf.1) hf.2 ((ii.ext (x4.trans V)).log []) mf (by rw[pE];exact hcan) i5;rw[pE,dC]at C8;refine Y14 ?_;refine FW.al C8 (λv D m q=>q.log m) ?_;clear C8;rintro v6 H6 x6 o6;have o6:Own H5.next H6 1 v6 os.length (fL (ns.map (jP (l.zip x.found) (bsS w.1 (l.zip x.found))))):=o6
  generalize hjl:ns.map (jP (l.zip x.found) (bsS w.1 (l.zip x.found)))=jl at*;have md:jl.length=os.length:=by rw[←hjl,j3,dC]
  have W6:=x6.wf W5;have hJ:=x6.log.trans gt;have s6:=o6.slice ω;rw[←md]at s6;have C9:=oA F.rf.rj (h:=η H6) (.of W6) (s6.log []) ω;rw[bj]at C9;obtain⟨b6,d6,rfl⟩:=s6.form;clear hjl o6 s6;cases hop:eD w l ns x.found with
  |false=>
   obtain rfl:b=false:=by
    cases b with
    |false=>rfl
    |true=>exact absurd (ba rfl).opn (by rw[hop];simp)
   rw[hop]at C9;refine Y5 ?_;refine FW.pu C9 ?_;refine Y12 ?_;exact an hJ rfl rfl
  |true=>
   rw[hop]at C9;have i8:zE i 1 ((i+1:Nat):Int):=by
    have:=fK (a:=(i:Nat)) (b:=1) (aO ω ω);exact this
   have n6:=x6.next
   have ke:=(x6.old _ ω).trans kd;refine Y5 ?_;refine FW.pu C9 ?_;refine Y10 ?_;refine⟨s.length-(i+1),ω,i+1,ω,rfl,?_,rfl,(x4.trans V).trans x6,ω,ke,λj y hj hy=> ?_⟩
   ·rw[Mn B,hid]
   ·by_cases e:j=i
    ·subst e;cases Option.some.inj (B.symm.trans hy);exact⟨hf.1,c,dv.1,dv.2,by rw[hbe,hid];omega,hcan,hop⟩
    ·exact E j y ω hy
 obtain rfl:i=s.length:=ω
 rw[wd]at gO;have E:∀(j:Nat) x,s[j]? =some x->yj w l ns s j x:=λj x B=>E j x (List.getElem?_eq_some_iff.1 B).1 B;have hb:=hb.trans (Ra E);have be:=zn E;have f8:zd s.length s.length false:=dG ω;have pj:=bo s;have il:∀{f:List Nat},f.length=l.length->(∀k∈f,k<=2)->bN (ints (owL (List.replicate N 0) s)) (0+ez f*1)=some (zc (lkS s (jh f))):=λ{f} q1 q2=>by
  have:=Jh be q1 q2;rw[←hN]at this;rw[cC,hF,xr];simp[ints,this]
 have rr:bN (ints (owL (List.replicate N 0) s)) (0+0*1)=some (zc (lkS s z8)):=by
  have:=KG be da;rw[←hN]at this;rw[cC];simp[ints,this]
 have ti:0<N:=by rw[hN];exact AC (by simp)
 have ll:∀{f:List Nat},f.length=l.length->(∀k∈f,k<=2)->ez f<N:=λq1 q2=>by rw[hN];exact Jk l q1 q2
 have ip:=((x1.trans xG).old _ ω).trans g0;clear g0 sn ii bo;refine Y18 ?_
 refine aY (λk' e ds D=>∃i:Nat,i<=s.length/\s.length-i=k'∧e=[(1, .slice pa l.length pc),(3, .slice sa s.length sc),(4, zc cost),(5, sb h.next),(14, sh d.next N N),(21, zc (i:Nat))]/\ds=[]/\Ext G D∧∀(j:Nat) x,j<i->s[j]? =some x->∀p,p<l.length->x.found.getD p 0=0->(xJ w l s x p 1||xJ w l s x p 2)=true)
  ⟨0,hK _,rfl,rfl,rfl, .refl G,λj x hj=>absurd hj ω⟩ ?_
 rintro k' e ds K ⟨i,hi,rfl,rfl,rfl,xK,dp⟩;have WK:=xK.wf WG;have eq:=xK.log.trans Q;have nK:=xK.next
 have eh:=C.trans xK;have lc:=(xK.old _ ω).trans gO;by_cases hlt:i<s.length;case neg=>
  obtain rfl:i=s.length:=ω
  have f8:zd s.length s.length false:=dG ω;have eI:b=true↔(cost<=0∨cost<=lkS s z8):=hb.trans ⟨λq=>q.2,λq=>⟨λi x B=>dp i x (List.getElem?_eq_some_iff.1 B).1 B,q⟩⟩;by_cases hc0:cost<=0
  ·obtain rfl:b=true:=eI.2 (.inl hc0);have mc:zp cost 0 true:=fF hc0;refine Y27 ?_;exact an eq rfl rfl
  have mc:zp cost 0 false:=fE ω;by_cases hc1:cost<=lkS s z8
  ·obtain rfl:b=true:=eI.2 (.inr hc1);have oY:zt (lkS s z8) cost true:=oS hc1;refine Y32 ?_;exact an eq rfl rfl
  ·obtain rfl:b=false:=by
    cases b with
    |false=>rfl
    |true=>rcases eI.1 rfl with q|q<;>omega
   have oY:zt (lkS s z8) cost false:=uu ω;refine Y32 ?_;exact an eq rfl rfl
 have rb:zd i s.length true:=dz ω;have i8:zE i 1 ((i+1:Nat):Int):=by
  have:=fK (a:=(i:Nat)) (b:=1) (aO ω ω);exact this
 obtain⟨x,B⟩:∃x,s[i]? =some x:=⟨s[i],bx hlt⟩;obtain⟨bF,oF,cF,pf,i9,tF,u,J,gF,aE,f7,ol,SJ⟩:=S0.elem B;cases J;have oX:=Gh f7;have jz:=(eh.old _ aE).trans gF;have U:=hZ x (ci B);have Z:=E i x B;have py:=Z.len;have C2:=zQ F.nu (h:=η K) (.of WK) ((SJ.ext eh).log []) U.1 U.2;refine Y19 ?_;refine FW.al C2 (λv D m q=>q.log m) ?_;clear C2;rintro v3 K3 x3 o3;have o3:Own K.next K3 1 v3 x.found.length (ints (zI x.found)):=o3
 have s3:=o3.slice ω;obtain⟨a3,c3,rfl⟩:=s3.form;have pi:=eh.trans x3;have ph:=xK.trans x3;have n3:=x3.next
 have hA:∀p,p<l.length->∀a,xJ w l s x p a=(bsB w (l.zip (x.found.set p a))&&(decide (x.cost-cM l p<=0)||decide (x.cost-cM l p<=lkS s (jh (x.found.set p a))))):=λp hp a=>Rc Z.len hp;clear jz lc o3;refine Y6 ?_
 refine aY (λk' e ds D=>∃p:Nat,p<=l.length/\l.length-p=k'∧e=[(1, .slice pa l.length pc),(3, .slice (some ⟨bF,oF,none⟩) s.length sc),(4, zc cost),(5, sb h.next),(14, sh d.next N N),(21, zc (i:Nat)),(22, .slice a3 x.found.length c3),(23, zc (p:Nat))]/\ds=[]/\Ext K3 D∧∀q,q<p->x.found.getD q 0=0->(xJ w l s x q 1||xJ w l s x q 2)=true)
  ⟨0,hK _,rfl,rfl,rfl, .refl K3,λq hq=>absurd hq ω⟩ ?_
 rintro k' e ds L ⟨p,ub,rfl,rfl,rfl,xL,ar⟩;have X:=ph.trans xL;have WL:=X.wf WG;have te:=X.log.trans Q;have nL:=X.next
 have s8:=C.trans X;by_cases hpl:p<l.length;case neg=>
  obtain rfl:p=l.length:=ω
  have f8:zd l.length l.length false:=dG ω;refine Y19 ?_;exact⟨s.length-(i+1),ω,i+1,ω,rfl,rfl,rfl,X,λj y hj hy=>by
   by_cases e:j=i
   ·subst e;cases Option.some.inj (B.symm.trans hy);exact ar
   ·exact dp j y ω hy⟩
 have ut:zd p l.length true:=dz ω;have qr:zE p 1 ((p+1:Nat):Int):=by
  have:=fK (a:=(p:Nat)) (b:=1) (aO ω ω);exact this
 obtain⟨pb,eQ⟩:∃r,l[p]? =some r:=⟨l[p],bx hpl⟩;obtain⟨fp,i0⟩:∃r,x.found[p]? =some r:=⟨x.found[p]'(by have:=Z.len;omega),bx (by have:=Z.len;omega)⟩;have hY:x.found.getD p 0=fp:=by rw[dn,i0];rfl
 have lL:cM l p=pb.cost:=by unfold cM;rw[dn,eQ];rfl
 have tz:=nf pb (ci eQ);have sL:=s3.ext xL;obtain⟨bG,oG,cG,vx,rg,tG,J,gG,tp,kG⟩:=uc sL (Cg i0);cases J;by_cases hz:fp=0;case neg=>
  have m3:zB ((fp:Nat):Int) 0 true:=iY ω;refine Y30 ?_;exact⟨l.length-(p+1),ω,p+1,ω,rfl,rfl,rfl,xL,λq hq cd=>by
   by_cases e:q=p
   ·subst e;rw[hY]at cd;exact absurd cd hz
   ·exact ar q ω cd⟩
 subst hz;have m3:zB ((0:Nat):Int) 0 false:=rfl;refine Y31 ?_;have hA:=hA p hpl;rw[lL]at hA;generalize hAn:xJ w l s x p=A at*
 refine aY (λk' e ds D=>∃a:Nat,1<=a/\a<=3/\3-a=k'∧e=[(1, .slice pa l.length pc),(3, .slice (some ⟨bF,oF,none⟩) s.length sc),(4, zc cost),(5, sb h.next),(14, sh d.next N N),(21, zc (i:Nat)),(22, .slice (some ⟨bG,oG,none⟩) x.found.length c3),(23, zc (p:Nat)),(24, .bool (hdA A a)),(25, zc (a:Nat))]/\ds=[]/\Ext L D)
  ⟨1,bl _,ω,rfl,rfl,rfl, .refl L⟩ ?_
 clear gG;rintro k' e ds M ⟨a,lr,tk,rfl,rfl,rfl,xM⟩;have cJ:=X.trans xM;have WM:=cJ.wf WG;have lh:=cJ.log.trans Q;have nM:=cJ.next
 have s9:=C.trans cJ;by_cases ha2:a<=2;case neg=>
  obtain rfl:a=3:=ω
  have ma:zp ((3:Nat):Int) 2 false:=rfl;have e3:hdA A 3=(A 1||A 2):=rfl;rw[e3];cases hh:(A 1||A 2)with
  |false=>
   obtain rfl:b=false:=by
    cases b with
    |false=>rfl
    |true=>
     have:=(hb.1 rfl).1 i x B p hpl (by rw[hY]);rw[hAn,hh]at this;exact absurd this (by simp)
   refine Y30 ?_;exact an lh rfl rfl
  |true=>
   refine Y24 ?_;exact⟨l.length-(p+1),ω,p+1,ω,rfl,rfl,rfl,xL.trans xM,λq hq cd=>by
    by_cases e:q=p
    ·subst e;rw[hAn];exact hh
    ·exact ar q ω cd⟩
 have ma:zp ((a:Nat):Int) 2 true:=fF ω;have pD:zE a 1 ((a+1:Nat):Int):=by
  have:=fK (a:=(a:Nat)) (b:=1) (aO ω ω);exact this
 have S:=RQ A lr ha2;rw[hA a]at S;have lO:x.found.length≠0:=by have:=Z.len;omega
 have u4:=Z.len;have pp:=jZ x.found;have f0:(ints (zI x.found)).set (0+p*1) (zc (a:Nat))=ints (zI (x.found.set p a)):=Ec x.found p a;have P:(x.found.set p a).length=l.length:=by rw[hG];exact Z.len
 have c:∀y∈x.found.set p a,y<=2:=λy hy=>by
  rcases A3 hy with q|q
  ·exact Z.le2 y q
  ·omega
 have po:(ints (zI (x.found.set p a))).length=l.length:=by rw[jZ];exact P
 have rt:=il P c;have pA:=ll P c;obtain⟨bP,oP,cP,vy,rh,tP,J,gP,lw,kP⟩:=sp.elem eQ;cases J;have ul:=kP.cost;refine Y13 ?_;have x4:Ext M (M.push (.cells (eR 0 [I.O]) true (bS [I.O]))):=(Ext.refl M).push _;have fX:(M.push (.cells (eR 0 [I.O]) true (bS [I.O]))).get M.next=some (qt []):=z3 _ _
 have i6:dg (M.push (.cells (eR 0 [I.O]) true (bS [I.O]))) 1 (.slice (some ⟨bG,oG,none⟩) x.found.length c3)=some (ints (zI x.found),x.found.length):=AG (sL.ext (xM.trans x4));have vd:(M.push (.cells (eR 0 [I.O]) true (bS [I.O]))).next=M.next+1:=rfl
 refine wO (lo:=M.next) (b:=M.next) fX (eA _) (bl _) ω ω ρ ρ i6 (by rw[jZ];omega) ?_;intro v4 M4 o4 ik;have V:Ext M M4:=x4.trans ik;obtain⟨b4,rfl,pk,pm,g4⟩:=o4.Xx lO;clear o4 i6 fX ik x4;have n4:=V.next
 refine Y7 ?_;refine aG (jL ρ ρ τ ρ ρ ω) ?_;refine y3 ?_;have x6:Ext M (M4.wr h.next b4 (qt ((ints (zI x.found)).set (0+p*1) (zc (a:Nat))))):=⟨n4,(Heap.aA ω).trans V.log,λz hz=>(z5 ω).trans (V.old z hz),λw=>(V.wf w).as (AS.wr _ _ _ _)⟩;have g6:(M4.wr h.next b4 (qt ((ints (zI x.found)).set (0+p*1) (zc (a:Nat))))).get b4=some (qt (ints (zI (x.found.set p a)))):=by rw[f0,z6,g4];rfl
 have n6:(M4.wr h.next b4 (qt ((ints (zI x.found)).set (0+p*1) (zc (a:Nat))))).next=M4.next:=rfl
 generalize(M4.wr h.next b4 (qt ((ints (zI x.found)).set (0+p*1) (zc (a:Nat)))))=M6 at*;clear g4 V;have dj:=cJ.trans x6;have fg:=C.trans dj;have W6:=fg.wf hr.wf;have hJ:=dj.log.trans Q;have io:=(dj.old _ ω).trans ip;have s6:aH M6 1 (sh b4 x.found.length UNK) (x.found.set p a).length (ints (zI (x.found.set p a))):=by
  rw[hG];exact .mem ⟨ω,⟨_,_,_,g6,by rw[aT,ww,bw,go ω]⟩,ω⟩ (by unfold UNK;omega)
 have ie:aH M6 1 (sh b4 x.found.length UNK) (zI (x.found.set p a)).length (ints (zI (x.found.set p a))):=by rw[jq];exact s6
 have C7:=pG F.rf.rj.rc.r8 (h:=η M6) (.of W6) hw ((sp.ext fg).log []) ω (ie.log []) (by rw[jq];exact P) (Gv c);rw[pE]at C7;have eJ:IsS (bsS w.1 (l.zip (x.found.set p a))):=kE hw.a (pz sp.ok);have o0:=eJ.len;have x7:=ff (h:=M6) (base:=h.next) ω (qt (aL 8 (.int .u64 0))) (qt (us (bsS w.1 (l.zip (x.found.set p a)))));have n7:((M6.push (qt (aL 8 (.int .u64 0)))).wr h.next M6.next (qt (us (bsS w.1 (l.zip (x.found.set p a)))))).next=M6.next+1:=rfl
 generalize bsS w.1 (l.zip (x.found.set p a))=s1 at*;generalize bsB w (l.zip (x.found.set p a))=can at*;refine Y5 ?_;refine FW.pu C7 ?_;clear C7;refine Y4 ?_;refine aG (bH ρ ρ YG (by(simp only[aF];assumption)) ρ (by exact bZ _)) ?_;refine Y2 ?_;generalize((M6.push (qt (aL 8 (.int .u64 0)))).wr h.next M6.next (qt (us s1)))=M7 at*;have cj:=x6.trans x7;have fb:=dj.trans x7;have eg:=C.trans fb;have W7:=eg.wf hr.wf;have t8:=fb.log.trans Q;have sT:=(eg.old _ aE).trans gF;have t7:=(eg.old _ lw).trans gP;have t6:=(fb.old _ ω).trans gO;have C8:=Ff F.nu (h:=η M7) (.of W7) ((s6.ext x7).log []) ω c;have re:vi x.cost pb.cost (x.cost-pb.cost):=jD (aO (by have:=Z.c1;have:=Z.c2;omega) (by have:=Z.c1;have:=Z.c2;omega));clear io s6 ie g6;generalize lkS s (jh (x.found.set p a))=ow at*;generalize ez (x.found.set p a)=ix at*;generalize x.cost-pb.cost=rest at*;generalize hh1:hdA A a=hd at*;generalize hh2:hdA A (a+1)=hd2 at*;have ae:∀{D:Heap},Ext M D→∃k'',k''<3-a/\∃a':Nat,1<=a'∧a'≤3/\3-a'=k''∧[(1,Value.slice (some ⟨bP,oP,none⟩) l.length pc),(3, .slice (some ⟨bF,oF,none⟩) s.length sc),(4, zc cost),(5, sb h.next),(14, sh d.next N N),(21, zc (i:Nat)),(22, .slice (some ⟨bG,oG,none⟩) x.found.length c3),(23, zc (p:Nat)),(24, .bool hd2),(25, zc ((a+1:Nat):Int))]=[(1,Value.slice (some ⟨bP,oP,none⟩) l.length pc),(3, .slice (some ⟨bF,oF,none⟩) s.length sc),(4, zc cost),(5, sb h.next),(14, sh d.next N N),(21, zc (i:Nat)),(22, .slice (some ⟨bG,oG,none⟩) x.found.length c3),(23, zc (p:Nat)),(24, .bool (hdA A a')),(25, zc (a':Nat))]/\([]:Dfs)=[]/\Ext L D:=λq=>⟨3-(a+1),ω,a+1,ω,ω,rfl,by rw[hh2],rfl,xM.trans q⟩;refine Y20 ?_;cases hd with
 |true=>
  obtain rfl:hd2=true:=by simpa using S
  refine Y16 ?_;refine bA ?_;refine Y8 ?_;exact ae cj
 |false=>
 cases can with
 |false=>
  obtain rfl:hd2=false:=by simpa using S
  refine Y19 ?_;refine bA ?_;refine Y8 ?_;exact ae cj
 |true=>
 by_cases hr0:rest<=0
 ·have mr:zp rest 0 true:=fF hr0;obtain rfl:hd2=true:=by rw[S,decide_eq_true hr0];rfl
  refine Y23 ?_;refine bA ?_;refine Y8 ?_;exact ae cj
 have mr:zp rest 0 false:=fE ω;by_cases hr1:rest<=ow
 ·have mo:zt ow rest true:=oS hr1;obtain rfl:hd2=true:=by rw[S,decide_eq_false hr0,decide_eq_true hr1];rfl
  refine Y16 ?_;refine FW.pu C8 ?_;refine Y14 ?_;refine bA ?_;refine Y8 ?_;exact ae cj
 ·have mo:zt ow rest false:=uu ω;obtain rfl:hd2=false:=by rw[S,decide_eq_false hr0,decide_eq_false hr1];rfl
  refine Y16 ?_;refine FW.pu C8 ?_;refine Y14 ?_;refine bA ?_;refine Y8 ?_;exact ae cj
end Go.A.Pk
end
