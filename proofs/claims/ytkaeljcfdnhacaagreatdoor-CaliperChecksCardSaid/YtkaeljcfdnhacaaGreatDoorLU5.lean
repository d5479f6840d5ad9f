/- Walks of functions, plain laws, the table. -/
import Derived.Test.YtkaeljcfdnhacaaGreatDoorLU4
import Derived.Test.YtkaeljcfdnhacaaGreatDoorLF
import Derived.Test.YtkaeljcfdnhacaaGreatDoorLD
import Derived.Test.YtkaeljcfdnhacaaGreatDoorLU3
set_option linter.all false
set_option maxHeartbeats 16000000
set_option maxRecDepth 100000
section
namespace Go.A.Pk

structure Sta where
 found:List Nat
 cost:Int
def lkS(s:List Sta)(g:List Nat):Int:=match s.find? (λx=>decide (fm x.found=g))with|some x=>x.cost|none=>0
def fq(f:List Nat):Nat:=f.foldl (λn k=>3*n+k) 0
theorem yz:∀(f:List Nat) (a:Nat),f.foldl (λn k=>3*n+k) a=3 ^ f.length*a+fq f
 |[],a=>by simp[fq]
 |k::f,a=>by
  have e:fq (k::f)=f.foldl (λn k=>3*n+k) (3*0+k):=rfl;rw[VH,yz f,e,yz f (3*0+k),me,Nat.pow_succ,Nat.mul_add,←Nat.mul_assoc];rw[Nat.mul_add (3 ^ f.length) (3*0) k];omega
theorem og(k:Nat)(f:List Nat):fq (k::f)=3 ^ f.length*k+fq f:=by
 have e:fq (k::f)=f.foldl (λn k=>3*n+k) (3*0+k):=rfl;rw[e,yz];simp
theorem pe:∀{f:List Nat},(∀k∈f,k<=2)->fq f<3 ^ f.length
 |[],_=>by decide
 |k::f,h=>by
  have h1:=pe (f:=f) λx b=>h x (bu _ b);have a:=h k bx;rw[og,me,Nat.pow_succ];have:3 ^ f.length*k<=3 ^ f.length*2:=LT _ a;omega
def B8:List Nat->List Nat->Bool
 |[],[]=>false
 |[],_::_=>true
 |_::_,[]=>false
 |a::f,b::g=>if a<b then true else if b<a then false else B8 f g
theorem B9:∀{f g:List Nat},f.length=g.length->(∀k∈f,k<=2)->(∀k∈g,k<=2)->(B8 f g=true↔fq f<fq g)
 |[],[],_,_,_=>by simp[B8,fq]
 |[],_::_,h,_,_=>by simp at h
 |_::_,[],h,_,_=>by simp at h
 |a::f,b::g,h,h1,h2=>by
  have hl:f.length=g.length:=by simpa using h
  have e:=B9 hl (λx c=>h1 x (bu _ c)) (λx c=>h2 x (bu _ c));have i:=pe (f:=f) λx c=>h1 x (bu _ c);have d:=pe (f:=g) λx c=>h2 x (bu _ c);rw[og,og,←hl];rw[←hl]at d;unfold B8;by_cases q1:a<b
  ·rw[if_pos q1];have:3 ^ f.length*(a+1)<=3 ^ f.length*b:=LT _ q1;rw[Nat.mul_succ]at this;simp only[true_iff];omega
  ·rw[if_neg q1];by_cases q2:b<a
   ·rw[if_pos q2];have:3 ^ f.length*(b+1)<=3 ^ f.length*a:=LT _ q2;rw[Nat.mul_succ]at this;simp only[xj,false_iff];omega
   ·rw[if_neg q2];obtain rfl:a=b:=by omega
    rw[e];omega
section
variable (w:List Nat×List Nat) (l:List Pb) (ns:List (List (List Nat)))
def yg(s:List Sta):Prop:=(∀x∈s,x.found.length=l.length/\(∀k∈x.found,k<=2)/\1<=x.cost/\x.cost<=100000)/\∀(i:Nat) x y,s[i]? =some x->s[i+1]? =some y->fq x.found<fq y.found
def vl(lk:List Nat->Int)(f:List Nat)(c:Int)(p a:Nat):Bool:=bsB w (l.zip (f.set p a))&&(decide (c<=dW l p)||decide (c-dW l p<=lk (f.set p a)))
def pU(lk:List Nat->Int)(f:List Nat)(c:Int):Bool:=(gZ l.length f).all λp=>vl w l lk f c p 1||vl w l lk f c p 2
def FU(s:List Sta)(cost:Int):Prop:=yg l s/\(∀x∈s,eM w l ns (fm x.found)=true/\pU w l (lkS s) (fm x.found) x.cost=true)/\(cost<=0∨cost<=lkS s z8)
end
section
variable {w:List Nat×List Nat} {l:List Pb} {ns:List (List (List Nat))}
theorem ES{f:List Nat}(h:eM w l ns f=true):bsB w (l.zip f)=true:=by
 unfold eM at h;rw[dk]at h;exact h.1
end
variable{T:Nat->Option an}
structure KN (T:Nat->Option an):Prop where
 r8:Dt T
 n3:KG T
 f100:T 27=some f100
 f103:T 31=some f103
variable{h:Heap}{os:List (List Nat)}
theorem A9(F:KN T)(hr:Rdy h){w:List Nat×List Nat}(j:IsW w){o:Value}{l:List Pb}(t:PbS h o l)(x:l.length<1000000){n:Value}(r:SsQ h n os)(i:os.length<1000000):
 Pu T 27 [wV w,o,n] h (zc (sB w l os)):=by
 have m:=F.r8.p;refine .of m F.f100 hr rfl ?_;have k:cellsOf (wV w)=wL w:=by show(wL w).toArray.toList=_;simp
 obtain⟨a,c,rfl⟩:=t.form;obtain⟨z,A,rfl⟩:=r.sl.form;have d:Ext h (h.push (qt (cellsOf (wV w)))):=(Ext.refl h).push _;have B:(h.push (qt (cellsOf (wV w)))).get h.next=some (qt (wL w)):=by rw[k];exact z3 h _
 have D:(h.push (qt (cellsOf (wV w)))).next=h.next+1:=rfl
 refine Y4 ?_;generalize(h.push (qt (cellsOf (wV w))))=H at*;have W:=d.wf hr.wf;have g:=d.log.trans hr.log;have E:=jR j;have y:=ic j;have b:=VU F.n3.rs (h:={H with log:=[]}) (.of W) j;have f:=NX m F.n3.rs.f93 (h:={H with log:=[]}) (.of W) ((r.ext d).log []) i;have u:=J2 F.r8 (h:={H with log:=[]}) (.of W) ((t.ext d).log []) x;have v:sB w l os=if sIn w.1 w.2=false then 1 else if EX os≠0 then EX os else prE l:=by
  unfold sB EX;by_cases h1:sIn w.1 w.2=false
  ·rw[if_pos h1,if_pos h1]
  ·rw[if_neg h1,if_neg h1];by_cases h6:6<os.length
   ·rw[if_pos h6,if_pos h6,if_pos (by decide)]
   ·rw[if_neg h6,if_neg h6];by_cases h3:os.any (λs=>decide (s=s0))=true
    ·rw[if_pos h3,if_pos h3,if_pos (by decide)]
    ·rw[if_neg h3,if_neg h3,if_neg (by decide)]
 rw[v];cases hin:sIn w.1 w.2 with
 |false=>
  rw[hin,if_neg (by simp)]at b;rw[if_pos rfl];refine Y3 ?_;refine FW.pu b ?_;refine Y23 ?_;exact ah g rfl rfl
 |true=>
 rw[hin,if_pos rfl]at b;rw[if_neg (by simp)];by_cases he:EX os=0
 ·rw[he]at f;rw[if_neg (λq=>q he)];refine Y3 ?_;refine FW.pu b ?_;refine Y11 ?_;refine FW.pu f ?_;refine Y11 ?_;refine FW.pu u ?_;refine Y7 ?_;exact ah g rfl rfl
 ·rw[if_pos he];have C:zz (EX os) 0 false:=j9 he;generalize EX os=e at*;refine Y3 ?_;refine FW.pu b ?_;refine Y11 ?_;refine FW.pu f ?_;refine Y15 ?_;exact ah g rfl rfl
variable{ov:Value}
theorem K5(F:KN T)(hr:Rdy h){w:List Nat×List Nat}(U:IsW w)(so:SsQ h ov os)(bo:os.length<1000000)(M:∀s∈os,¬s=s0):
 Al T 31 [wV w,ov] h λv E=>NdS E v (os.map (dZ w)):=by
 have hp:=F.r8.p;refine .of hp F.f103 hr ?_ ?_
 ·rintro v h1 hv q;obtain⟨d,s1,s2⟩:=q.ex;rcases aK.inv s1 with⟨c,rfl,h0,_⟩|⟨b,o,cap,rfl,_⟩
  ·have e:os.map (dZ w)=[]:=List.length_eq_zero_iff.1 h0;rw[e];exact⟨[], .nil,λi r hi=>by simp at hi⟩
  ·cases hv
 obtain⟨a,c,rfl⟩:=so.sl.form;have ar:cellsOf (wV w)=wL w:=by show(wL w).toArray.toList=_;simp
 have x0:Ext h (h.push (qt (cellsOf (wV w)))):=(Ext.refl h).push _;have g0:(h.push (qt (cellsOf (wV w)))).get h.next=some (qt (wL w)):=by rw[ar];exact z3 h _
 have n0:(h.push (qt (cellsOf (wV w)))).next=h.next+1:=rfl
 refine Y4 ?_;generalize(h.push (qt (cellsOf (wV w))))=H at*;have W:=x0.wf hr.wf;have hL:=x0.log.trans hr.log;have wk:=jR U;have cj:=ic U;have ba:=so.ext x0;refine Y8 ?_
 refine bg (λm e ds E=>∃(i:Nat) (v:Value) (d:List Value),i<=os.length/\os.length-i=m/\e=[(1, .slice a os.length c),(2, sb h.next),(5,v),(6, zc (i:Nat))]/\ds=[]/\Ext H E∧Own H.next E 1 v i d/\eG d=true/\∀j r,((os.take i).map (dZ w))[j]? =some r->∃u,d[j]? =some u/\OwS H.next E u r)
  ⟨0, .slice none 0 0,[],gK _,rfl,rfl,rfl, .refl H, .nil,rfl,λj r k=>(by rw[Ok,List.map_nil,List.getElem?_nil]at k;cases k)⟩ ?_
 rintro m e ds G ⟨i,v,d,hi,rfl,rfl,rfl,B,y,Q,D⟩;have WG:=B.wf W;have Y:=B.log.trans hL;have nG:=B.next
 by_cases hlt:i<os.length
 ·obtain⟨x,hx⟩:∃s,os[i]? =some s:=⟨os[i],a6 hlt⟩;have O:=bz hx;have P:=so.ok x O;obtain⟨b,o,c3,vs,cf,tt,hv,gl,Z,el⟩:=(ba.ext B).elem hx;cases hv;have cd:=aL P.len;have aE:zd i os.length true:=cH (by omega);have X:=(B.old _ (by omega)).trans g0;have C:=OH F.n3.rn (h:={G with log:=[]}) (.of WG) U P (M x O);obtain⟨av,cv,rfl⟩:∃a c,v= .slice a i c:=(y.slice (by omega)).form;refine Y20 ?_;refine FW.alD C (λv E m q=>q.log m) ?_;rintro u g A S;clear C;have S:OwS G.next g u (dZ w x):=Own.owS S (xi (oB w x) (by decide))
  have n5:=A.next
  have be:=(A.old _ (by omega)).trans X;have bj:=(A.old _ Z).trans gl;obtain⟨J,K,rfl⟩:=S.form;refine⟨_,by(repeat apply aC rfl);apply aG rfl (aq rfl (dx (by rfl)) (by exact dG _ _ _)) rfl;exact aQ,?_⟩;refine rL rfl rfl rfl (by rfl) (by rfl) (by rfl) (mG (by rfl) (by rfl)) (by refine cm (aq rfl (dx (by rfl)) (by exact dG _ _ _)) ?_;exact rD) ?_;have x6:Ext g (g.push (qt [.slice J (dZ w x).length K])):=(Ext.refl g).push _;have N:∀l a c,(.slice av i cv:Value)= sh l a c->H.next<=l∧l<G.next:=λl a c e=>by rw[e]at y;exact Cm y
  refine Pr (lo:=H.next) (n:=i) (cs:=d) (c1:=[.slice J (dZ w x).length K]) (y.ext (A.trans x6)) (by omega) (by omega) (by omega) (by omega) rfl rfl rfl (by rfl) (by rfl) (by rfl) (xe (gw (cs:=[.slice J (dZ w x).length K]) (z3 g _) rfl rfl)) rfl rfl Q ?_;intro I lg o7 n7 l7 V f;have n7:I.next=g.next+1+1:=n7
  have l7:I.log=g.log:=l7;have V:WF g->WF I:=λw=>V (x6.wf w);have f:∀z,z<g.next->(∀l a c,(.slice av i cv:Value)= sh l a c->z≠l)->I.get z=g.get z:=λz t a7=>(f z (by show z<g.next+1;omega) a7).trans (z4 t)
  have o7:Own (g.next+1) I 1 (sh (g.next+1) (i+1) UNK) (i+1) (d++[.slice J (dZ w x).length K]):=o7;refine⟨_,by(repeat apply aC rfl);exact aQ,?_⟩;refine Y10 ?_;refine⟨os.length-(i+1),by omega,i+1, sh (g.next+1) (i+1) UNK,d++[.slice J (dZ w x).length K],by omega,rfl,rfl,rfl,⟨by omega,l7.trans (A.log.trans B.log),λz t=> ?_,λw=>V (A.wf (B.wf w))⟩,o7.low (by omega),mR Q rfl,λj r k=> ?_⟩
  ·exact(f z (by omega) (λl a c e=>by have:=(N l a c e).1;omega)).trans ((A.old z (by omega)).trans (B.old z t))
  ·have am:d.length=i:=Iq y;have L:((os.take i).map (dZ w)).length=i:=by rw[hS,lp];omega
   rw[eD hx,wx]at k;rcases Id j i with hji|hji
   ·rw[hG (by omega)]at k;obtain⟨u',ae,qo⟩:=D j r k;refine⟨u',by rw[hG (by omega)];exact ae,qo.Ib (by omega) λz t=> ?_⟩;have aw:=qo.vb t;refine(f z (by omega) (λl a c e=> ?_)).trans (A.old z (by omega));rw[e]at y;exact qo.ne (Ip y) z t
   ·obtain rfl:j=i:=by
     have:=(List.getElem?_eq_some_iff.1 k).1;rw[eA,L]at this;simp at this;omega
    rw[gR (by omega),L,xx]at k;simp at k;subst k;refine⟨_,by rw[gR (by omega),am,xx];rfl,(S.low (by omega)).Ib (by omega) λz t=> ?_⟩;have aw:=S.vb t;exact f z (by omega) (λl a c e=>by have:=(N l a c e).2;omega)
 ·obtain rfl:i=os.length:=by omega
  have aE:zd os.length os.length false:=cS (by omega);rw[hP]at D;have a8:=y.slice (by omega);refine Y18 ?_;refine dN Y rfl ⟨d,?_,λj r k=> ?_⟩
  ·rw[hS];exact a8
  ·obtain⟨u,hu,qu⟩:=D j r k;refine⟨u,hu,qu.ss λs hs=> ?_⟩;obtain⟨x,_,rfl⟩:=List.mem_map.1 (bz k);exact qS U hs
structure KP (T:Nat->Option an):Prop where
 rc:KN T
 f116:T 44=some f116
 f117:T 45=some f117
variable{pv v:Value}
theorem zP(F:KP T)(hr:Rdy h){w:List Nat×List Nat}(S:IsW w){l:List Pb}(sp:PbS h pv l)(hl:l.length<1000000){fs:List Int}(sf:aK h 1 v fs.length (ints fs))(aw:fs.length=l.length)(ba:qX fs=true)
 {nv:Value}{ns:List (List (List Nat))}(sn:NdS h nv ns)(eg:ns.length<1000000)(J:bsB w (zsF l fs)=true)(cj:∀r∈ns,r.length<1000000/\∀n∈r,IsS n/\Sub n w.2):
 Al T 44 [wV w,pv,v,nv] h λv g=>Own h.next g 1 v ns.length (fL (ns.map (jX (zsF l fs) (bsS w.1 (zsF l fs))))):=by
 have hp:=F.rc.r8.p;refine .of hp F.f116 hr (λv h1 hv q=>Own.Ee hv q) ?_;have cY:cellsOf (wV w)=wL w:=by show(wL w).toArray.toList=_;simp
 obtain⟨a,c,rfl⟩:=sp.form;obtain⟨Y,Z,rfl⟩:=sf.form;obtain⟨a3,c3,rfl⟩:=sn.form;have x0:Ext h (h.push (qt (cellsOf (wV w)))):=(Ext.refl h).push _;have g0:(h.push (qt (cellsOf (wV w)))).get h.next=some (qt (wL w)):=by rw[cY];exact z3 h _
 have n0:(h.push (qt (cellsOf (wV w)))).next=h.next+1:=rfl
 refine Y4 ?_;generalize(h.push (qt (cellsOf (wV w))))=H at*;have W:=x0.wf hr.wf;have hL:=x0.log.trans hr.log;have wk:=jR S;have fd:=ic S;have K:=PV (fs:=fs) sp.ok;have C1:=rS F.rc.r8 (h:={H with log:=[]}) (.of W) S ((sp.ext x0).log []) hl ((sf.ext x0).log []) aw ba;have x:IsS (bsS w.1 (zsF l fs)):=nF S.a K;have be:=λn hn t=>Sw S K J (n:=n) hn t;rw[J]at C1;generalize bsS w.1 (zsF l fs)=s at*;have f0:=aL x.len;have f7:=aV x.len;have f8:=x.len;refine dw (E0:=[(1, .slice a l.length c),(2, .slice Y fs.length Z),(3, .slice a3 ns.length c3),(4, sb h.next),(9, sb H.next)]) (P:=λg=>Ext H g∧g.next=H.next+1/\g.get H.next=some (qt (us s))) ?_ ?_
 ·refine Y5 ?_;refine FW.pu C1 ?_;refine Y4 ?_;refine aF (bB (by rfl) (by rfl) YG (by(simp only[aB];assumption)) (by rfl) (by exact bX _)) ?_;refine yM ?_;refine bH ?_;refine y1 ?_;exact⟨rfl,rfl,rfl,dX (by omega) _ _,rfl,fU _ _⟩
 clear C1;rintro U ⟨x1,n1,g9⟩;have A:=x0.trans x1;have W1:=A.wf hr.wf;have cd:=x1.log.trans hL;have bo:=(x1.old _ (by omega)).trans g0;have dj:=sp.ext A;have da:=sf.ext A;have db:=sn.ext A;clear g0;refine Y8 ?_
 refine bg (λm e ds g=>∃(i:Nat) (u:Value),i<=ns.length/\ns.length-i=m/\e=[(1, .slice a l.length c),(2, .slice Y fs.length Z),(3, .slice a3 ns.length c3),(4, sb h.next),(9, sb H.next),(11,u),(12, zc (i:Nat))]/\ds=[]/\Ext U g∧Own U.next g 1 u i (fL ((ns.take i).map (jX (zsF l fs) s))))
  ⟨0,_,gK _,rfl,rfl,rfl, .refl U, .nil⟩ ?_
 rintro m e ds G ⟨i,u,hi,rfl,rfl,rfl,C,ow⟩;have WG:=C.wf W1;have ae:=C.log.trans cd;have nG:=C.next
 by_cases hlt:i<ns.length
 ·obtain⟨r,N⟩:∃s,ns[i]? =some s:=⟨ns[i],a6 hlt⟩;obtain⟨eh,cJ⟩:=cj r (bz N);obtain⟨b,o,c4,vs,f9,tt,rv,hv,gl,cf,el,sr⟩:=(db.ext C).elem N;cases hv;obtain⟨ra,rc,rfl⟩:=sr.sl.form;have d9:zd i ns.length true:=cH (by omega);have cX:fL ((ns.take (i+1)).map (jX (zsF l fs) s))=fL ((ns.take i).map (jX (zsF l fs) s))++[.int .u8 ((jX (zsF l fs) s r:Nat):Int)]:=by
   obtain⟨aE,rfl⟩:=List.getElem?_eq_some_iff.1 N;rw[vy aE,wx,←Qs];rfl
  refine Y20 ?_
  refine bg (λm e ds g=>∃k:Nat,k<=r.length/\r.length-k=m/\e=[(1, .slice a l.length c),(2, .slice Y fs.length Z),(3, .slice (some ⟨b,o,none⟩) ns.length c3),(4, sb h.next),(9, sb H.next),(11,u),(12, zc (i:Nat)),(13, .int .u8 ((jX (zsF l fs) s (r.take k):Nat):Int)),(14, zc (k:Nat))]/\ds=[]/\Ext G g)
   ⟨0,gK _,rfl,rfl,rfl, .refl G⟩ ?_
  rintro m e ds z ⟨k,hk,rfl,rfl,rfl,f⟩;have V:=f.wf WG;have am:=f.log.trans ae;have n2:=f.next
  have a7:=(f.old _ cf).trans gl;by_cases hkl:k<r.length
  ·obtain⟨n,L⟩:∃s,r[k]? =some s:=⟨r[k],a6 hkl⟩;obtain⟨y,M⟩:=cJ n (bz L);obtain⟨b5,o5,c5,fb,du,t5,hv,a8,ar,dv⟩:=(sr.ext f).elem L;cases hv;have eQ:=aL y.len;have d8:zd k r.length true:=cH (by omega);have I:=((C.trans f).old _ (by omega)).trans g9;have E:=((C.trans f).old _ (by omega)).trans bo;have B:=x.join y;have bj:=be n y M;have d:jX (zsF l fs) s (r.take (k+1))=if sIn n s then 1 else if(alB (zsF l fs) (gM s n)&&decide (jX (zsF l fs) s (r.take k)=2))then 3 else jX (zsF l fs) s (r.take k):=by rw[eD L,Jm]
   have C2:=Fh hp F.rc.r8.f118 (h:={z.push (qt (aI 8 (.int .u64 0)))with log:=[]}) (.of (V.push _)) x y;have O:∀D,Ext z D->WF D->Pu T 77 [wV w, .slice a l.length c, .slice Y fs.length Z,sv (gM s n)] {D with log:=[]} (.bool (alB (zsF l fs) (gM s n))):=λD j w3=>by
    rw[←bj];exact FE F.rc.r8 (h:={D with log:=[]}) (.of w3) S ((dj.ext ((C.trans f).trans j)).log []) hl ((da.ext ((C.trans f).trans j)).log []) aw ba B
   clear be bj;generalize jX (zsF l fs) s (r.take k)=jk at*;generalize alB (zsF l fs) (gM s n)=ab at*;generalize gM s n=jn at*;have eI:=aL B.len;have eJ:=aV B.len;have eK:=B.len;refine Y15 ?_;refine dw (E0:=[(1, .slice a l.length c),(2, .slice Y fs.length Z),(3, .slice (some ⟨b,o,none⟩) ns.length c3),(4, sb h.next),(9, sb H.next),(11,u),(12, zc (i:Nat)),(13, .int .u8 (jk:Nat)),(14, zc (k:Nat)),(15, sb z.next)]) (P:=λg=>Ext z g∧g.next=z.next+1/\g.get z.next=some (qt (us jn))) ?_ ?_
   ·refine Y9 ?_;refine rL rfl rfl rfl (by rfl) (by rfl) (by rfl) sG (by refine cm (aq rfl (bV (by rfl) YG (by assumption) (by assumption)) (by exact rK _)) ?_;refine cm (aq rfl (jA (by rfl) (by rfl) (by omega)) (by exact di _)) ?_;refine cm (aq rfl (dx (by rfl)) (by exact dD _ _)) ?_;refine cm (aq rfl (dV (by rfl) YG (by assumption)) (by exact dG _ _ _)) ?_;refine cm (aq rfl (jA (by rfl) (by rfl) (by omega)) (by exact di _)) ?_;refine cm (aq rfl (dx (by rfl)) (by exact dD _ _)) ?_;refine cm (aq rfl (dx (by rfl)) (by exact dG _ _ _)) ?_;refine cm (aq rfl (bV (by rfl) YG (by assumption) (by assumption)) (by exact rK _)) ?_;exact rD) ?_;refine qC ?_;refine FW.puD C2 (by apply aG rfl (xb rfl) (by rfl);(repeat apply aC rfl);exact aQ) ?_;refine jV rfl rfl rfl (by rfl) (by rfl) (by rfl) YG (by(simp only[aB];assumption)) (by rfl) (by exact bX _) (by(simp only[z1,z2];omega)) (by omega) (by apply aC rfl;exact aQ) ?_;refine Y2 ?_;exact⟨rfl,rfl,rfl,dX (by omega) _ _,rfl,YG⟩
   clear C2;rintro D ⟨j,n3,dE⟩;have X:=j.wf V;have dq:=j.log.trans am;have O:=O D j X;have Q:=zO hp F.rc.r8.f52 F.rc.r8.f140 (h:={D with log:=[]}) (.of X) y x;have e9:=(j.old _ (by omega)).trans a7;have dp:=(j.old _ ar).trans a8;have dT:=(j.old _ (by omega)).trans I;have dC:=(j.old _ (by omega)).trans E;clear a7 a8 I E;have m2:af .eql (.int .u8 (jk:Nat)) (.int .u8 2)=some (.bool (decide (jk=2))):=sJ (c:=2) rfl;cases t:sIn n s with
   |true=>
    rw[t]at Q;rw[t,if_pos rfl]at d;refine Y6 ?_;refine FW.pu O ?_;refine Y13 ?_;refine FW.puD Q (by(repeat apply aC rfl);exact aQ) ?_;refine Y6 ?_;refine bH ?_;refine Y8 ?_;exact⟨r.length-(k+1),by omega,k+1,by omega,rfl,by rw[d];rfl,rfl,f.trans j⟩
   |false=>
    rw[t]at Q;rw[t,if_neg (by simp)]at d;cases ab with
    |false=>
     rw[A1,if_neg (by simp)]at d;refine Y6 ?_;refine FW.pu O ?_;refine Y13 ?_;refine FW.puD Q (by(repeat apply aC rfl);exact aQ) ?_;refine Y20 ?_;exact⟨r.length-(k+1),by omega,k+1,by omega,rfl,by rw[d],rfl,f.trans j⟩
    |true=>
     rw[wd]at d;cases hj2:decide (jk=2)with
     |true=>
      rw[hj2]at m2;rw[hj2,if_pos rfl]at d;refine Y6 ?_;refine FW.pu O ?_;refine Y13 ?_;refine FW.puD Q (by(repeat apply aC rfl);exact aQ) ?_;refine Y16 ?_;refine bH ?_;refine Y8 ?_;exact⟨r.length-(k+1),by omega,k+1,by omega,rfl,by rw[d];rfl,rfl,f.trans j⟩
     |false=>
      rw[hj2]at m2;rw[hj2,if_neg (by simp)]at d;refine Y6 ?_;refine FW.pu O ?_;refine Y13 ?_;refine FW.puD Q (by(repeat apply aC rfl);exact aQ) ?_;refine Y22 ?_;exact⟨r.length-(k+1),by omega,k+1,by omega,rfl,by rw[d],rfl,f.trans j⟩
  ·obtain rfl:k=r.length:=by omega
   have d8:zd r.length r.length false:=cS (by omega);rw[hP];generalize jX (zsF l fs) s r=jx at*;generalize fL ((ns.take i).map (jX (zsF l fs) s))=cs at*;refine Y20 ?_;refine uZ (lo:=U.next) (c1:=[.int .u8 (jx:Nat)]) (ow.ext (f.trans ((Ext.refl z).push _))) (by omega) (by omega) (by omega) (by show U.next<=z.next+1;omega) (by omega) (by rfl) (by rfl) (gw (cs:=[.int .u8 (jx:Nat)]) (z3 z _) rfl rfl) rfl rfl ?_;intro v2 h9 o9 x9;refine yM ?_;refine bH ?_;refine Y8 ?_;refine⟨ns.length-(i+1),by omega,i+1,v2,by omega,rfl,rfl,rfl,(((C.trans f).lx (bl _)).trans ((((Ext.refl z).push _).lx (by omega)).trans x9)).ext,?_⟩;rw[cX];exact o9
 ·obtain rfl:i=ns.length:=by omega
  have d9:zd ns.length ns.length false:=cS (by omega);rw[hP]at ow;refine Y18 ?_;exact dN ae rfl (ow.low (by omega))
theorem ru(F:KP T)(hr:Rdy h){l:List Nat}(s:aK h 1 v l.length (fL l))(E:l.length<1000000):Pu T 45 [v] h (.bool (!Ek l)):=by
 refine .of F.rc.r8.p F.f117 hr rfl ?_;have q:=hr.log;obtain⟨a,c,rfl⟩:=s.form;refine Y8 ?_
 refine bg (λm e n w=>∃i:Nat,i<=l.length/\l.length-i=m/\e=[(0, .slice a l.length c),(3, zc (i:Nat))]/\n=[]/\h=w∧Ek (l.take i)=false)
  ⟨0,gK _,rfl,rfl,rfl,rfl,rfl⟩ ?_
 rintro m e n _ ⟨i,D,rfl,rfl,rfl,rfl,d⟩;by_cases hlt:i<l.length
 ·obtain⟨r,f⟩:∃r,l[i]? =some r:=⟨l[i],a6 hlt⟩;obtain⟨b,o,z,G,y,t,x,A,C,B⟩:=wE s (Tu f);cases x;have k:zd i l.length true:=cH (by omega);have u:af .eql (.int .u8 (r:Nat)) (.int .u8 3)=some (.bool (decide (r=3))):=sJ (c:=3) rfl;have j:Ek (l.take (i+1))=(Ek (l.take i)||decide (r=3)):=by
   obtain⟨g,rfl⟩:=List.getElem?_eq_some_iff.1 f;unfold Ek;rw[vy g,HG];simp
  cases h3:decide (r=3)with
  |true=>
   rw[h3]at u;have e:Ek l=true:=List.any_eq_true.2 ⟨r,bz f,h3⟩;rw[e];refine Y29 ?_;exact ah q rfl rfl
  |false=>
   rw[h3]at u j;refine Y28 ?_;exact⟨l.length-(i+1),by omega,i+1,by omega,rfl,rfl,rfl,rfl,by rw[j,d];rfl⟩
 ·obtain rfl:i=l.length:=by omega
  have k:zd l.length l.length false:=cS (by omega);rw[hP]at d;rw[d];refine Y17 ?_;exact ah q rfl rfl
variable{base:Nat}{e:Env}
theorem WO.XJ{rnd:Option Nat}{Q:XQ}{ops:List aZ}{a:Dfs}(b:∀hA,hA=h->WO T base rnd Q ops e a hA):WO T base rnd Q ops e a h:=b h rfl
def zI(l:List Nat):List Int:=l.map Int.ofNat
theorem EB:∀n,eS n [Value.int .i64 0]=ints (zI (List.replicate n 0))
 |0=>rfl
 |n+1=>by
  show ek [Value.int .i64 0] (eS n _)=_;rw[EB n,List.replicate_succ];rfl
structure KQ (T:Nat->Option an):Prop where
 p:aM T
 f110:T 38=some f110
variable{n:Nat}
theorem wY(h:n<=8):3 ^ n<=6561:=by
 have:3 ^ n<=3 ^ 8:=Hk (by omega) h;have:(3:Nat) ^ 8=6561:=by decide
 omega
theorem Oa(F:KQ T)(hr:Rdy h)(r:n<=8):Pu T 38 [zc (n:Nat)] h (zc ((3 ^ n:Nat):Int)):=by
 refine .of F.p F.f110 hr rfl ?_;refine Y11 ?_;refine bg (λd e c g=>∃j:Nat,j<=n/\n-j=d∧e=[(0, zc (n:Nat)),(3, zc ((3 ^ j:Nat):Int)),(4, zc (j:Nat))]/\c=[]/\g=h) ⟨0,gK _,rfl,rfl,rfl,rfl⟩ ?_;rintro d e c o ⟨j,i,k,rfl,rfl,rfl⟩;by_cases hlt:j<n
 ·have l:zd j n true:=cH (by omega);have m:=wY (n:=j) (by omega);have s:vx 3 ((3 ^ j:Nat):Int) ((3 ^ (j+1):Nat):Int):=by
   have e:(3:Int)*((3 ^ j:Nat):Int)=((3 ^ (j+1):Nat):Int):=by rw[Nat.pow_succ];omega
   have q:=AV (a:=3) (b:=((3 ^ j:Nat):Int)) (by generalize 3 ^ j=p at*;omega) (by generalize 3 ^ j=p at*;omega);rw[e]at q;exact q
  have f:zE j 1 ((j+1:Nat):Int):=by
   have:=gI (a:=(j:Nat)) (b:=1) (aU (by omega) (by omega));exact this
  refine Y15 ?_;refine bH ?_;refine Y8 ?_;exact⟨n-(j+1),by omega,j+1,by omega,rfl,rfl,rfl,rfl⟩
 ·obtain rfl:j=n:=by omega
  have l:zd j j false:=cS (by omega);refine Y17 ?_;exact ah hr.log rfl rfl
def jN(mm:List (List Nat×Int)):List (Value×Value):=mm.map λx=>(fV x.1, zc x.2)
theorem B6:∀{f g:List Nat} {n:Nat},f.length=n->g.length=n->bJ (aI n (.i .u8)) (fL f) (fL g)=some (decide (f=g))
 |[],[],n,h1,_=>by subst h1;rfl
 |[],_::_,n,h1,h2=>by subst h1;simp at h2
 |_::_,[],n,h1,h2=>by subst h2;simp at h1
 |a::f,b::g,n,h1,h2=>by
  subst h1;have ih:=B6 (f:=f) (g:=g) (n:=f.length) rfl (by simpa using h2);show bJ (.i .u8::aI f.length (.i .u8)) (.int .u8 (a:Nat)::fL f) (.int .u8 (b:Nat)::fL g)=_;have e:iR (.i .u8) (.int .u8 ((a:Nat):Int)) (.int .u8 ((b:Nat):Int))=some (decide (a=b)):=by
   simp only[iR,if_true,Option.some.injEq];by_cases h:a=b
   ·subst h;simp
   ·rw[decide_eq_false h];simp;omega
  unfold bJ;rw[e];by_cases h:a=b
  ·subst h;rw[decide_eq_true rfl,ih];simp
  ·rw[decide_eq_false h,ih];simp[h]
theorem jB(f:List Nat):cellsOf (fV f)=fL f:=by show(fL f).toArray.toList=_;simp
variable{f:List Nat}
theorem MF(a:f.length=8):jS true (aI 8 (.i .u8)) (fV f)=true:=by
 unfold jS;rw[jB,B6 a a];rfl
theorem Ug{g:List Nat}(a:f.length=8)(b:g.length=8):pV true (aI 8 (.i .u8)) (fV f) (fV g)=some (decide (f=g)):=by
 unfold pV;rw[jB,jB,B6 a b];rfl
def pW(f:List Nat):Nat->List (List Nat×Int)->Option (Nat×Int)
 |_,[]=>none
 |i,x::mm=>if f=x.1 then some (i,x.2)else pW f (i+1) mm
theorem findF{f:List Nat}(a:f.length=8):∀{mm:List (List Nat×Int)} {i:Nat},(∀x∈mm,x.1.length=8)->mK true (aI 8 (.i .u8)) (fV f) i (jN mm)=some ((pW f i mm).map λp=>(p.1, zc p.2))
 |[],_,_=>rfl
 |x::mm,i,h=>by
  show mK true (aI 8 (.i .u8)) (fV f) i ((fV x.1, zc x.2)::jN mm)=_;unfold mK pW;rw[Ug a (h x bx)];by_cases e:f=x.1
  ·rw[decide_eq_true e,if_pos e];rfl
  ·rw[decide_eq_false e,if_neg e];exact findF a λy hy=>h y (bu _ hy)
def QW(mm:List (List Nat×Int))(f:List Nat)(v:Int):List (List Nat×Int):=
 match pW f 0 mm with
 |some (i,_)=>mm.set i (f,v)
 |none=>mm++[(f,v)]
theorem M9(mm:List (List Nat×Int))(i:Nat)(f:List Nat)(v:Int):th (jN mm) i (fV f, zc v)=jN (mm.set i (f,v)):=by
 rw[lD];unfold jN;rw[Ys]
theorem M8(mm:List (List Nat×Int))(f:List Nat)(v:Int):ek (jN mm) [(fV f, zc v)]=jN (mm++[(f,v)]):=by
 rw[dI];unfold jN;rw[wx];rfl
def Tn(w:List Nat×List Nat)(l:List Pb)(ns:List (List (List Nat)))(mm:List (List Nat×Int)):Prop:=∀x∈mm,x.1.length=8/\x.2=aax w l ns x.1
theorem Dw{m k v:Operand}{r:Nat}{mm:List (List Nat×Int)}{n:Int}(d:ev h e m=some (.map (some r)))(c:ev h e k=some (fV f))(g:ev h e v=some (zc n))(hr:h.get r=some (.map (jN mm)))(a:f.length=8)(b:∀x∈mm,x.1.length=8):
 aop h base e (.oz true (aI 8 (.i .u8)) m k v)=some (.val (.tuple #[]) (h.wr base r (.map (jN (QW mm f n))))):=by
 simp only[aop,d,c,g,hr,MF a,cond_true,findF a b];unfold QW;cases pW f 0 mm with
 |none=>simp only[Option.map_none,M8]
 |some p=>simp only[z7,M9]
structure QuH (h:Heap) (q m:Nat) (w:List Nat×List Nat) (pv nv ov:Value) (l:List Pb) (os:List (List Nat)) (ns:List (List (List Nat))):Prop where
 hw:IsW w
 gq:h.get q=some (qt (quL w pv nv ov (.map (some m))))
 sp:PbS h pv l
 hl:l.length<=8
 so:SsQ h ov os
 hol:os.length<1000000
 sn:NdS h nv ns
 hns:ns.length=os.length
 hrn:∀r∈ns,r.length<1000000
 mem:∃mm,h.get m=some (.map (jN mm))/\Tn w l ns mm
variable{h':Heap}{m:Nat}{cs:List Value}
theorem aK.wg{sz:Nat}{es:List (Value×Value)}(s:aK h sz v n cs)(c:h.get m=some (.map es))(g:h.next<=h'.next)(f:∀z,z<h.next->z≠m->h'.get z=h.get z):aK h' sz v n cs:=by
 cases s with
 |nil=>exact .nil
 |mem s hc=>
  obtain⟨i,a,t,b,d⟩:=s.obj;refine .mem ⟨kz s.lt g,⟨i,a,t,(f _ s.lt λe=> ?_).trans b,d⟩,s.len⟩ hc;subst e;rw[b]at c;cases c
variable{q:Nat}
theorem QuH.keep{w:List Nat×List Nat}{n j k:Value}{l:List Pb}{ns:List (List (List Nat))}(Q:QuH h q m w n j k l os ns)(f:WF h)(d:h.next<=h'.next)(b:∀z,z<h.next->z≠m->h'.get z=h.get z)(p:∃g,h'.get m=some (.map (jN g))/\Tn w l ns g):QuH h' q m w n j k l os ns:=by
 obtain⟨g,a,_⟩:=Q.mem;obtain⟨c,t,u⟩:=Q.sn.ex;refine⟨Q.hw,(b q (f.dS Q.gq) λe=> ?_).trans Q.gq,⟨aK.wg Q.sp.sl a d b,Q.sp.ok⟩,Q.hl,⟨aK.wg Q.so.sl a d b,Q.so.ok⟩,Q.hol,⟨c,aK.wg t a d b,λi r o=> ?_⟩,Q.hns,Q.hrn,p⟩
 ·have:=Q.gq;rw[e,a]at this;cases this
 ·obtain⟨v,s,sv⟩:=u i r o;exact⟨v,s,⟨aK.wg sv.sl a d b,sv.ok⟩⟩
theorem QuH.ext{w:List Nat×List Nat}{e c d:Value}{l:List Pb}{ns:List (List (List Nat))}(Q:QuH h q m w e c d l os ns)(a:WF h)(x:Ext h h'):QuH h' q m w e c d l os ns:=by
 refine Q.keep a x.next (λz g _=>x.old z g) ?_
 obtain⟨i,b,f⟩:=Q.mem;exact⟨i,(x.old m (a.dS b)).trans b,f⟩
theorem QuH.log{h:Heap}{q m:Nat}{w:List Nat×List Nat}{d b c:Value}{l:List Pb}{os:List (List Nat)}{ns:List (List (List Nat))}(Q:QuH h q m w d b c l os ns)(a:List Nat):QuH {h with log:=a} q m w d b c l os ns:=
 ⟨Q.hw,Q.gq,Q.sp.log a,Q.hl,Q.so.log a,Q.hol,Q.sn.log a,Q.hns,Q.hrn,Q.mem⟩
structure xm (T:Nat->Option an):Prop where
 qu:Ht T
 f108:T 36=some f108
 f147:T 75=some f147
 f149:T 65=some f149
 f228:T 110=some f228
variable{p:Nat}
theorem Di(F:xm T)(hr:Rdy h)(k:f.length=8){a:Nat}(v:p<8):
 Pu T 65 [fV f, zc (p:Nat), .int .u8 (a:Nat)] h (fV (f.set p a)):=by
 refine .of F.qu.p F.f149 hr ?_ ?_
 ·show dF (fL (f.set p a)).toArray.toList=true;rw[HR];generalize f.set p a=f;induction f with
  |nil=>rfl
  |cons a f ih=>exact ih
 have e:=jB f;have m:Ext h ((h.push (qt (cellsOf (fV f)))).push (qt (aI 8 (.int .u8 0)))):=((Ext.refl h).push _).push _;have t:((h.push (qt (cellsOf (fV f)))).push (qt (aI 8 (.int .u8 0)))).get h.next=some (qt (fL f)):=by rw[e];exact(z4 (ec _)).trans (z3 h _)
 have u:((h.push (qt (cellsOf (fV f)))).push (qt (aI 8 (.int .u8 0)))).get (h.next+1)=some (qt (fL z8)):=z3 _ _;have w:((h.push (qt (cellsOf (fV f)))).push (qt (aI 8 (.int .u8 0)))).next=h.next+2:=rfl
 refine Y4 ?_;generalize((h.push (qt (cellsOf (fV f)))).push (qt (aI 8 (.int .u8 0))))=H at*;have c:(h.push (qt (cellsOf (fV f)))).next=h.next+1:=rfl
 rw[c];clear c;have W:=m.wf hr.wf;have n:=m.log.trans hr.log;have d:=T6 f p a;have l:(fL f).length=8:=by rw[fO];exact k
 have o:(fL z8).length=8:=rfl;have b:(f.set p a).length=8:=by rw[ul];exact k
 have i:=mJ b;have j:=j5 b;have q:(fL (f.set p a)).length=8:=by rw[fO];exact b
 have r:=ur (f.set p a);generalize f.set p a=g at*;refine Y4 ?_;refine aF (nU (by rfl) (by rfl) (by assumption) (by rfl) (by rfl) (by omega)) ?_;refine y3 ?_;rw[d];refine y4 ?_;refine aF (bV (by rfl) YG (by assumption) (by assumption)) ?_;refine aF (bB (by rfl) (by rfl) YG (by assumption) (by assumption) (by assumption)) ?_;refine Y2 ?_;refine ah ?_ (bS (own:=true) (s:=1) rfl ?_ i j rfl) rfl
 ·rw[Heap.au (by omega),Heap.au (by omega)];exact n
 ·exact YG
theorem QL(F:xm T)(hr:Rdy h)(q:Value)(f:List Nat)(b:cellsOf q=[q]):
 Al T 75 [q,fV f] h λv h'=>v= .func (.func 110) #[] #[sb h.next, sb (h.next+1)]/\h'.next=h.next+2/\h'.get h.next=some (qt [q])/\h'.get (h.next+1)=some (qt (fL f)):=by
 refine .of F.qu.p F.f147 hr ?_ ?_
 ·rintro v d c ⟨rfl,_⟩;cases c
 have a:=jB f;refine Y10 ?_;refine dN hr.log rfl ⟨rfl,rfl,?_,?_⟩
 ·rw[b];exact(z4 (ec _)).trans (z3 h _)
 ·rw[←a];exact z3 _ _
theorem QN(F:xm T)(hr:Rdy h){w:List Nat×List Nat}{O Q:Value}{l:List Pb}{ns:List (List (List Nat))}(u:QuH h q m w pv O Q l os ns)(hf:f.length=8){b1 b2:Nat}(g1:h.get b1=some (qt [sb q]))
 {px:bE}{W:Nat->Prop}{N s:Nat}{P:List Nat->Heap->Prop}{S:Heap->Prop}(Y:PZ px T W N s (λp=>[zc ((p:Nat):Int)]) (gZ l.length f) P S)(hN:N<=h.next)(r:s<h.next)(B:∀d H,P d H->H.get b2=some (qt (fL f)))(v:P [] h):
 GrW T 110 [.func (.yield s) #[] #[], sb b1, sb b2] h W (P (gZ l.length f)) S:=by
 refine .of F.qu.p F.f228 r (λh1 h2 hn Z hp=>Y.gu _ _ _ hp (by omega) λx hx=>Z x (by omega)) Y.IA ?_;obtain⟨a,c,rfl⟩:=u.sp.form;have gq:=u.gq;have kp:=E8 u.hw (.slice a l.length c) O Q (.map (some m));have a7:=u.hl;refine Y9 ?_
 refine bg (λk e J K=>∃i:Nat,i<=l.length/\k=l.length-i/\e=[(0, .func (.yield s) #[] #[]),(2, sb b2),(9, zc (l.length:Nat)),(10, zc (i:Nat))]/\J=[]/\Ws W h K∧P (gZ i f) K)
  ⟨0,gK _,rfl,rfl,rfl,(Ext.refl h).ws,v⟩ ?_
 rintro k e J G ⟨i,hi,rfl,rfl,rfl,t,j⟩;have V:=t.wf hr.wf;have g:∀z∈G.log,W z:=λz D=>(t.log z D).elim (λq=>by rw[hr.log]at q;cases q) id;have X:=B _ _ j;by_cases hlt:i<l.length
 ·obtain⟨y,L⟩:∃y,f[i]? =some y:=⟨f[i]'(by omega),a6 _⟩;have kf:=BO L;have o:f.getD i 0=y:=by rw[gk,L];rfl
  have E:zd i l.length true:=cH (by omega);have M:af .eql (.int .u8 (y:Nat)) (.int .u8 0)=some (.bool (decide (y=0))):=sJ (c:=0) rfl;have b:=Jq i f;rw[o]at b;by_cases hy0:y=0
  ·rw[decide_eq_true hy0]at M;rw[if_pos hy0]at b;refine Y24 ?_;refine pQ (fn:= .yield s) (args:=[zc (i:Nat)]) (by rfl) ?_;refine Y.call F.qu.p (x:=i) (om.2 ⟨hlt,by rw[o];exact hy0⟩) V (by have:=t.next;omega) r j ?_ ?_
   ·intro U I n;rw[←b]at n;refine Y12 ?_;exact⟨l.length-(i+1),by omega,i+1,by omega,rfl,rfl,rfl,t.trans I,n⟩
   ·intro U I C A;refine Y10 ?_;exact LQ (λz D=>(I.log z D).elim (g z) id) rfl C A
  ·rw[decide_eq_false hy0]at M;rw[if_neg hy0,md]at b;rw[←b]at j;refine Y33 ?_;exact⟨l.length-(i+1),by omega,i+1,by omega,rfl,rfl,rfl,t,j⟩
 ·obtain rfl:i=l.length:=by omega
  have E:zd l.length l.length false:=cS (by omega);refine Y9 ?_;exact LP g rfl j
theorem Ci(F:xm T)(hr:Rdy h){w:List Nat×List Nat}{N M:Value}{l:List Pb}{ns:List (List (List Nat))}(b:QuH h q m w N M ov l os ns)(y:f.length=8):
 Pu T 36 [sb q,fV f] h (.tuple #[.bool (bsB w (l.zip f)), .bool (eM w l ns f)]):=by
 refine .of F.qu.p F.f108 hr rfl ?_;have B:=jB f;have E:Ext h (h.push (qt (cellsOf (fV f)))):=(Ext.refl h).push _;have K:(h.push (qt (cellsOf (fV f)))).get h.next=some (qt (fL f)):=by rw[B];exact z3 h _
 have n0:(h.push (qt (cellsOf (fV f)))).next=h.next+1:=rfl
 refine Y5 ?_;generalize(h.push (qt (cellsOf (fV f))))=H at*;have W:=E.wf hr.wf;have X:=E.log.trans hr.log;have x:=b.ext hr.wf E;have U:=hr.wf.dS b.gq;have ae:=mJ y;have am:=j5 y;have z:=b.hw;have G:=P6 F.qu (h:={H with log:=[]}) (.of W) z x.gq (x.sp.log []) x.hl y;have d:IsS (bsS w.1 (l.zip f)):=nF z.a (vP b.sp.ok);unfold eM;generalize bsB w (l.zip f)=can at*;generalize hbz:bsS w.1 (l.zip f)=s at*;have Z:=aL d.len;have a7:=aV d.len;have a8:=d.len;have A:=dX (h:=H) (base:=h.next) (by omega) (qt (aI 8 (.int .u64 0))) (qt (us s));have Q:=fU (h:=H) (base:=h.next) (aI 8 (.int .u64 0)) (us s);have n3:((H.push (qt (aI 8 (.int .u64 0)))).wr h.next H.next (qt (us s))).next=H.next+1:=rfl
 refine Y4 ?_;refine FW.pu G ?_;clear G;refine Y4 ?_;refine aF (bB (by rfl) (by rfl) YG (by(simp only[aB];assumption)) (by rfl) (by exact bX _)) ?_;refine Y2 ?_;generalize((H.push (qt (aI 8 (.int .u64 0)))).wr h.next H.next (qt (us s)))=H2 at*;have O:=A.wf W;have n:=A.log.trans X;have u:=x.ext W A;have P:=(A.old _ (by omega)).trans K;obtain⟨a,c,C⟩:=u.so.sl.form;subst C;have S:=u.gq;have ko:=TE z N M (.slice a os.length c) (.map (some m));have Y:=b.hol;clear K;cases can with
 |false=>
  refine Y12 ?_;exact ah n rfl rfl
 |true=>
 refine Y18 ?_
 refine bg (λk e J V=>∃i:Nat,i<=os.length/\k=os.length-i/\e=[(0, sb q),(3, sb h.next),(6, sb H.next),(20, zc (os.length:Nat)),(21, zc (i:Nat))]/\J=[]/\H2=V∧(ns.take i).any (λr=>decide (jX (l.zip f) s r=3))=false)
  ⟨0,gK _,rfl,rfl,rfl,rfl,rfl⟩ ?_
 rintro k e J _ ⟨i,hi,rfl,rfl,rfl,rfl,o⟩;by_cases hlt:i<os.length
 ·obtain⟨r,g⟩:∃r,ns[i]? =some r:=⟨ns[i]'(by rw[b.hns];exact hlt),a6 _⟩;have D:zd i os.length true:=cH (by omega);have I:=Jn F.qu (h:={H2 with log:=[]}) (.of O) z u.gq (u.sp.log []) u.hl y d (u.sn.log []) (by rw[b.hns];exact b.hol) g (b.hrn r (bz g));have t:(ns.take (i+1)).any (λr=>decide (jX (l.zip f) s r=3))=((ns.take i).any (λr=>decide (jX (l.zip f) s r=3))||decide (jX (l.zip f) s r=3)):=by rw[eD g,HG];simp
  have v:decide (jX (l.zip f) s r=3)=true->ns.any (λr=>decide (jX (l.zip f) s r=3))=true:=λq=>List.any_eq_true.2 ⟨r,bz g,q⟩;rw[o,If]at t;generalize jX (l.zip f) s r=j at*;have L:af .eql (.int .u8 (j:Nat)) (.int .u8 3)=some (.bool (decide (j=3))):=sJ (c:=3) rfl;cases hj:decide (j=3)with
  |true=>
   rw[hj]at L;rw[v hj];refine Y19 ?_;refine FW.pu I ?_;refine Y13 ?_;exact ah n rfl rfl
  |false=>
   rw[hj]at L t;refine Y19 ?_;refine FW.pu I ?_;refine Y10 ?_;exact⟨os.length-(i+1),by omega,i+1,by omega,rfl,rfl,rfl,rfl,t⟩
 ·obtain rfl:i=os.length:=by omega
  have D:zd os.length os.length false:=cS (by omega);rw[←b.hns,hP]at o;rw[o];refine Y15 ?_;exact ah n rfl rfl
def fkL(x:Fk):List Value:=[zc x.probe, zc x.yes, zc x.no]
def F7(s:List Fk):List Value:=s.flatMap fkL
theorem L9:∀{s:List Fk} {i:Nat} {x:Fk},s[i]? =some x->((F7 s).drop (i*3)).take 3=fkL x
 |[],i,x,h=>by simp at h
 |y::s,0,x,h=>by
  simp at h;subst h;rfl
 |y::s,i+1,x,h=>by
  have e:F7 (y::s)=fkL y++F7 s:=rfl;have a:(fkL y++F7 s).drop 3=F7 s:=rfl;rw[e,show(i+1)*3=3+i*3 by omega,←List.drop_drop,a];exact L9 (by simpa using h)
def FkS(h:Heap)(v:Value)(s:List Fk):Prop:=aK h 3 v s.length (F7 s)
variable{s:List Fk}{i:Nat}{x:Fk}
theorem FkS.elem(S:FkS h v s)(hi:s[i]? =some x):
 ∃b o c a e t,v= .slice (some ⟨b,o,none⟩) s.length c/\h.get b=some (.cells a e t)/\b<h.next/\bN a (o+i*3+0)=some (zc x.probe)/\bN a (o+i*3+1)=some (zc x.yes)/\bN a (o+i*3+2)=some (zc x.no)/\bO 3 (bK (o+i*3) a)=fkL x:=by
 have m:=(List.getElem?_eq_some_iff.1 hi).1;rcases aK.inv S with⟨_,_,h0,_⟩|⟨b,o,cap,hv,s1,hc⟩
 ·omega
 ·obtain⟨a,e,t,g,k⟩:=s1.obj;have f:(a.drop (o+i*3)).take 3=fkL x:=by
   rw[←L9 hi,←k];simp only[bk,aR,WP,Xs,x8];congr 1;omega
  have d:∀j,j<3->bN a (o+i*3+j)=(fkL x)[j]? :=λj l=>by
   rw[bW,←f,gS l,kK]
  exact⟨b,o,cap,a,e,t,hv,g,s1.lt,d 0 (by omega),d 1 (by omega),d 2 (by omega),by rw[bk,aR];exact f⟩
variable{cost:Int}
theorem VD{w:List Nat×List Nat}{l:List Pb}{ns:List (List (List Nat))}:∀{k:Nat} {f:List Nat} {a fr paid:Int} {m:Nat},jF w l ns s cost k f a fr paid=some m->m<2 ^ k:=by
 intro k;induction k with
 |zero=>intro f a fr paid m h;simp[jF]at h
 |succ k ih=>
  intro f a fr paid m h;have b:0<2 ^ k:=Nat.pow_pos (by omega);rw[Nat.pow_succ];unfold jF at h;split at h
  ·split at h
   ·cases h
   ·cases h;omega
  ·split at h
   ·split at h
    ·cases h
    ·split at h
     ·split at h
      ·split at h
       ·cases h
       ·rename_i m1 hm1;split at h
        ·cases h
        ·rename_i m2 hm2;cases h;have:=ih hm1;have:=ih hm2;omega
      ·cases h
     ·cases h
   ·cases h
def Ai:Value:= .iface 114 (.agg #[])
structure Du (T:Nat->Option an):Prop where
 op:xm T
 f106:T 34=some f106
 f203:T 63=some f203
 f204:T 64=some f204
theorem l9(F:Du T)(hr:Rdy h):Pu T 64 [.bool true] h (.tuple #[]):=by
 refine .of F.op.qu.p F.f204 hr rfl ?_;refine Y6 ?_;exact⟨⟨.inl rfl,rfl,hr.log,[],rfl,rfl⟩⟩
theorem ki(F:Du T):CW T 64 [.bool false] h λr h'=>r= .panic Ai/\h'=h:=by
 refine CW.code F.f204 (WE.ok ?_);refine Y7 ?_;refine aF (show aop h h.next _ (.iT 114 (.tmp 4))=some (.val (.iface 114 (.agg #[])) h)from rfl) ?_;refine PA (show aop h h.next _ (.uN (.tmp 5))=some (.panic Ai h)from rfl) ?_;exact ta ⟨rfl,rfl⟩
def Ac(f:List Nat)(a fr paid:Int)(bq bs bn bc bv:Nat):List Value:=[fV f, zc a, zc fr, zc paid, sb bq, sb bs, sb bn, sb bc, sb bv]
def Kq(bq bs bn bc bv:Nat):Value:= .func (.func 63) #[] #[sb bq, sb bs, sb bn, sb bc, sb bv]
structure VsH (h0 h:Heap) (q:Nat) (sv:Value) (cost:Int) (n0:Int) (bq bs bn bc bv:Nat):Prop where
 wf:WF h
 nx:h0.next<=h.next
 old:∀z,z<h0.next->h.get z=h0.get z
 gq:h.get bq=some (qt [sb q])
 gs:h.get bs=some (qt [sv])
 gn:h.get bn=some (qt [zc n0])
 gc:h.get bc=some (qt [zc cost])
 gv:h.get bv=some (qt [Kq bq bs bn bc bv])
variable{n0 n1:Int}{bc bn bq bs bv:Nat}
theorem VsH.ws{a:Heap}{sv:Value}(v:VsH a h q sv cost n0 bq bs bn bc bv)(k:WF h')(j:h.next<=h'.next)(ho:∀z,z<h.next->z≠bn->h'.get z=h.get z)(i:a.next<=bn)(c:bq≠bn)(d:bs≠bn)(e:bc≠bn)(f:bv≠bn)(g:h'.get bn=some (qt [zc n1])):VsH a h' q sv cost n1 bq bs bn bc bv:=
 ⟨k,ed v.nx j,λz b=>(ho z (kz b v.nx) (by omega)).trans (v.old z b),(ho _ (v.wf.dS v.gq) c).trans v.gq,(ho _ (v.wf.dS v.gs) d).trans v.gs,g,(ho _ (v.wf.dS v.gc) e).trans v.gc,(ho _ (v.wf.dS v.gv) f).trans v.gv⟩
theorem VsH.log{a h:Heap}{q:Nat}{sv:Value}{cost n0:Int}{bq bs bn bc bv:Nat}(v:VsH a h q sv cost n0 bq bs bn bc bv)(m:List Nat):VsH a {h with log:=m} q sv cost n0 bq bs bn bc bv:=⟨v.wf.log m,v.nx,v.old,v.gq,v.gs,v.gn,v.gc,v.gv⟩
def PY(w:List Nat×List Nat)(l:List Pb)(ns:List (List (List Nat)))(s:List Fk)(cost:Int)(bn:Nat)(k:Nat)(f:List Nat)(a fr paid n0:Int)(v:Value)(h':Heap):Prop:=v= .tuple #[]/\∃m,jF w l ns s cost k f a fr paid=some m/\h'.get bn=some (qt [zc (n0+(m:Nat))])
def PX(w:List Nat×List Nat)(l:List Pb)(ns:List (List (List Nat)))(s:List Fk)(cost:Int)(k:Nat)(f:List Nat)(a fr paid:Int)(v:Value)(_:Heap):Prop:=v=Ai/\jF w l ns s cost k f a fr paid=none
theorem EvF.NO{f:Nat}{args:List Value}(H:EvC T f args h (.panic v,h')):EvF T (.func f) args h (.panic v,h'):=by
 obtain⟨m,a⟩:=H;exact⟨m+1,λn b=>by
  obtain⟨k,rfl⟩:∃k,n=k+1:=⟨n-1,by omega⟩;simp only[gU];exact a k (by omega)⟩
def cdF:an->aT
 | .code c _=>c
 |_=> .skip
def tlC:aT->aT
 | .seq _ b=>b
 |c=>c
def YB:aT:=tlC (tlC (tlC (tlC (tlC (tlC (tlC (tlC (tlC (cdF f203)))))))))
variable{k:Nat}
theorem Po(F:Du T){B:Heap}{w:List Nat×List Nat}{l:List Pb}{ns:List (List (List Nat))}{sv:Value}(S0:FkS B sv s)(W:B.next<=bn)(d1:bq≠bn)(d2:bs≠bn)(d3:bc≠bn)(d4:bv≠bn)
 (N:f.length=8)(H:p<8)(hx:s[i]? =some x){paid:Int}{b9:Nat}(ar:bn<b9)(E:b9<h.next)(V:VsH B h q sv cost n0 bq bs bn bc bv)(hl:∀z∈h.log,z=bn)(g9:h.get b9=some (qt (fL f))){fr:Int}
 (I1:∀{h:Heap} {n0:Int},Rdy h->VsH B h q sv cost n0 bq bs bn bc bv->n0=n1->Gp T 63 (Ac (f.set p 1) x.yes i paid bq bs bn bc bv) h (λz=>z=bn) (PY w l ns s cost bn k (f.set p 1) x.yes i paid n0) (PX w l ns s cost k (f.set p 1) x.yes i paid))(y:n0=n1)
 (I2:∀{m:Nat} {h:Heap} {n0:Int},jF w l ns s cost k (f.set p 1) x.yes i paid=some m->Rdy h->VsH B h q sv cost n0 bq bs bn bc bv->n0=n1+m->Gp T 63 (Ac (f.set p 2) x.no i paid bq bs bn bc bv) h (λz=>z=bn) (PY w l ns s cost bn k (f.set p 2) x.no i paid n0) (PX w l ns s cost k (f.set p 2) x.no i paid))
 {Q Qp:Value->Heap->Prop}(HQ:∀A I d,jF w l ns s cost k (f.set p 1) x.yes i paid=some A->jF w l ns s cost k (f.set p 2) x.no i paid=some I->d.get bn=some (qt [zc (n1+(A:Nat)+(I:Nat))])->Q (.tuple #[]) d)
 (HP:∀d,jF w l ns s cost k (f.set p 1) x.yes i paid=none∨jF w l ns s cost k (f.set p 2) x.no i paid=none->Qp Ai d):
 WE T b9 none YB (I9 [] (λz=>z=bn) Q Qp) [(1, zc (i:Nat)),(3, zc paid),(5, sb bs),(8, sb bv),(9, sb b9),(15, zc (p:Nat))] [] h:=by
 have be:=mJ N;have bj:=j5 N;have aE:=(List.getElem?_eq_some_iff.1 hx).1;obtain⟨b,o,c,vs,cX,t,rfl,r,u,bo,cd,cf,cj⟩:=S0.elem hx;have gb:=(V.old b u).trans r;have aw:=kz u V.nx;have gv:=V.gv;have gs:=V.gs;have K:=Di F.op (h:={h with log:=[]}) (.of V.wf) N H (a:=1);have C2:=I1 (h:={h with log:=[]}) (.of V.wf) (V.log []) y;unfold YB tlC cdF f203;dsimp only;unfold Kq at gv;obtain⟨r1,hB,g,xB,Y⟩:=C2;unfold Ac at g;rcases Y with⟨v,rfl,rfl,A,hm1,gn1⟩|⟨v,rfl,rfl,hm1⟩
 ·have G1:Gs T 63 [fV (f.set p 1), zc x.yes, zc (i:Nat), zc paid, sb bq, sb bs, sb bn, sb bc, sb bv] {h with log:=[]} (λz=>z=bn) (λv d=>v= .tuple #[]/\d.get bn=some (qt [zc (n0+(A:Nat))])):=⟨_,_,g,xB,_,rfl,rfl,gn1⟩;refine rM (IP ?_);refine Y11 ?_;refine FW.puD K (by apply aG rfl (aq rfl (dx (by rfl)) (by exact dD _ _)) rfl;apply aG rfl (aq rfl (dx (by rfl)) (by exact dD _ _)) rfl;apply aG rfl (aq rfl (dV (by rfl) (by assumption) (by assumption)) (by exact dD _ _)) rfl;apply aG rfl (aq rfl (ez (by rfl)) (by exact di _)) rfl;apply aG rfl (aq rfl (jA (by rfl) (by rfl) (by omega)) (by exact di _)) rfl;apply aG rfl (aq rfl (dx (by rfl)) (by exact dD _ _)) rfl;apply aG rfl (aq rfl (dV (by rfl) (by assumption) (by rfl)) (by exact dG _ _ _)) rfl;(repeat apply aC rfl);apply aG rfl (aq rfl (dV (by rfl) (by assumption) (by rfl)) (by refine jQ ?_;refine cu (iq _) ?_;refine cu (iq _) ?_;refine cu (iq _) ?_;refine cu (iq _) ?_;refine cu (iq _) ?_;exact rI)) rfl;exact aQ) ?_;clear K;skip;refine qC ?_;refine FW.gsD G1 (λv d lg q=>q) ?_;clear G1 g;rintro _ D lg J ba ⟨rfl,P⟩;have O:=J.wf V.wf;have M:VsH B D q (.slice (some ⟨b,o,none⟩) s.length c) cost (n0+(A:Nat)) bq bs bn bc bv:=V.ws O J.next (λz n X=>J.old z n X) W d1 d2 d3 d4 P
  have a8:=(J.old b9 E (by omega)).trans g9;have ae:=(M.old b u).trans r;have U:=M.gv;have am:=M.gs;unfold Kq at U;have G:∀z∈D.log,z=bn:=λz n=>(J.log z n).elim (hl z) id;refine⟨_,by(repeat apply aC rfl);exact aQ,?_⟩;refine Y3 ?_;have L:=Di F.op (h:={D with log:=[]}) (.of O) N H (a:=2);have C4:=I2 (h:={D with log:=[]}) hm1 (.of O) (M.log []) (by rw[y]);obtain⟨r2,hD,j,xD,Z⟩:=C4;unfold Ac at j;clear gv gs g9 gb r;rcases Z with⟨v,rfl,rfl,I,hm2,gn2⟩|⟨v,rfl,rfl,hm2⟩
  ·have G2:Gs T 63 [fV (f.set p 2), zc x.no, zc (i:Nat), zc paid, sb bq, sb bs, sb bn, sb bc, sb bv] {D with log:=[]} (λz=>z=bn) (λv d=>v= .tuple #[]/\d.get bn=some (qt [zc (n0+(A:Nat)+(I:Nat))])):=⟨_,_,j,xD,_,rfl,rfl,gn2⟩;refine Y12 ?_;refine FW.puD L (by apply aG rfl (aq rfl (dx (by rfl)) (by exact dD _ _)) rfl;apply aG rfl (aq rfl (dx (by rfl)) (by exact dD _ _)) rfl;apply aG rfl (aq rfl (dV (by rfl) (by assumption) (by assumption)) (by exact dD _ _)) rfl;apply aG rfl (aq rfl (ez (by rfl)) (by exact di _)) rfl;apply aG rfl (aq rfl (jA (by rfl) (by rfl) (by omega)) (by exact di _)) rfl;apply aG rfl (aq rfl (dx (by rfl)) (by exact dD _ _)) rfl;apply aG rfl (aq rfl (dV (by rfl) (by assumption) (by rfl)) (by exact dG _ _ _)) rfl;(repeat apply aC rfl);apply aG rfl (aq rfl (dV (by rfl) (by assumption) (by rfl)) (by refine jQ ?_;refine cu (iq _) ?_;refine cu (iq _) ?_;refine cu (iq _) ?_;refine cu (iq _) ?_;refine cu (iq _) ?_;exact rI)) rfl;exact aQ) ?_;clear L;skip;refine qC ?_;refine FW.gsD G2 (λv d lg q=>q) ?_;clear G2 j;rintro _ hE cJ xE a7 ⟨rfl,S⟩;refine⟨_,by(repeat apply aC rfl);exact aQ,?_⟩;refine Y2 ?_;exact xY (λz n=>(xE.log z n).elim (G z) id) rfl (HQ A I _ hm1 hm2 (by rw[←y];exact S))
  ·refine FG (init:=[0,1,2,4,5,6,7,8,9,10,3]) (i:=11) (mask:=2047) rfl rfl (by decide) ?_;refine Y11 ?_;refine FW.puD L (by apply aG rfl (aq rfl (dx (by rfl)) (by exact dD _ _)) rfl;apply aG rfl (aq rfl (dx (by rfl)) (by exact dD _ _)) rfl;apply aG rfl (aq rfl (dV (by rfl) (by assumption) (by assumption)) (by exact dD _ _)) rfl;apply aG rfl (aq rfl (ez (by rfl)) (by exact di _)) rfl;apply aG rfl (aq rfl (jA (by rfl) (by rfl) (by omega)) (by exact di _)) rfl;apply aG rfl (aq rfl (dx (by rfl)) (by exact dD _ _)) rfl;apply aG rfl (aq rfl (dV (by rfl) (by assumption) (by rfl)) (by exact dG _ _ _)) rfl;(repeat apply aC rfl);apply aG rfl (aq rfl (dV (by rfl) (by assumption) (by rfl)) (by refine jQ ?_;refine cu (iq _) ?_;refine cu (iq _) ?_;refine cu (iq _) ?_;refine cu (iq _) ?_;refine cu (iq _) ?_;exact rI)) rfl;exact aQ) ?_;clear L;refine lW ?_;exact⟨⟨_,_,_,_,rfl,rfl,rfl,sS rfl rfl rfl rfl,Ai,_,EvF.NO j,λC=>fT (λz n=>by
    rcases rW n with e|e
    ·exact G z e
    ·exact(xD.log z e).elim (λe=>by cases e) id) (HP _ (.inr hm2))⟩⟩
 ·refine rM ?_;refine FG (init:=[0,1,2,4,5,6,7,8,9,10,3]) (i:=11) (mask:=2047) rfl rfl (by decide) ?_;refine Y11 ?_;refine FW.puD K (by apply aG rfl (aq rfl (dx (by rfl)) (by exact dD _ _)) rfl;apply aG rfl (aq rfl (dx (by rfl)) (by exact dD _ _)) rfl;apply aG rfl (aq rfl (dV (by rfl) (by assumption) (by assumption)) (by exact dD _ _)) rfl;apply aG rfl (aq rfl (ez (by rfl)) (by exact di _)) rfl;apply aG rfl (aq rfl (jA (by rfl) (by rfl) (by omega)) (by exact di _)) rfl;apply aG rfl (aq rfl (dx (by rfl)) (by exact dD _ _)) rfl;apply aG rfl (aq rfl (dV (by rfl) (by assumption) (by rfl)) (by exact dG _ _ _)) rfl;(repeat apply aC rfl);apply aG rfl (aq rfl (dV (by rfl) (by assumption) (by rfl)) (by refine jQ ?_;refine cu (iq _) ?_;refine cu (iq _) ?_;refine cu (iq _) ?_;refine cu (iq _) ?_;refine cu (iq _) ?_;exact rI)) rfl;exact aQ) ?_;clear K;refine lW ?_;exact⟨⟨_,_,_,_,rfl,rfl,rfl,sS rfl rfl rfl rfl,Ai,_,EvF.NO g,λC=>tc (fT (λz n=>by
   rcases rW n with e|e
   ·exact hl z e
   ·exact(xB.log z e).elim (λe=>by cases e) id) (HP _ (.inl hm1)))⟩⟩
theorem kX(f:List Nat):(zI f).length=f.length:=by simp[zI]
theorem jL(f:List Nat):(ints (zI f)).length=f.length:=by rw[vZ,kX]
theorem PR:∀f:List Nat,(zI f).map Int.toNat=f
 |[]=>rfl
 |x::f=>by
  show Int.toNat (Int.ofNat x)::(zI f).map Int.toNat=_;rw[PR f];rfl
theorem tR(l:List Pb)(f:List Nat):zsF l (zI f)=l.zip f:=by unfold zsF;rw[PR]
theorem Dj(f:List Nat)(i k:Nat):(ints (zI f)).set (0+i*1) (zc ((k:Nat):Int))=ints (zI (f.set i k)):=by
 rw[j3,xf];unfold ints zI;rw[Ys,Ys];rfl
theorem FK(h:f[i]? =some k):(ints (zI f))[i]? =some (zc ((k:Nat):Int)):=by simp[ints,zI,h]
theorem PS(h:∀x∈f,x<=2):qX (zI f)=true:=by
 unfold qX;rw[GE];intro x a;obtain⟨y,b,rfl⟩:=List.mem_map.1 a;have:=h y b;unfold inR;exact decide_eq_true (show(0:Int)<=Int.ofNat y/\Int.ofNat y<=2 from⟨Int.natCast_nonneg _,by show((y:Nat):Int)<=2;omega⟩)
theorem Ew{w:List Nat×List Nat}{l:List Pb}{ns:List (List (List Nat))}{g:List Nat}(h:bsB w (l.zip g)=true):Ek (ns.map (jX (l.zip g) (bsS w.1 (l.zip g))))=eM w l ns g:=by
 unfold Ek eM;rw[h,wd,List.any_map];rfl
theorem OwE.V9{lo:Nat}(o:OwE lo h 1 v n cs)(a:n≠0):∃b,v= sh b n UNK/\lo<=b/\b<h.next/\h.get b=some (qt cs):=by
 cases o with
 |own o=>
  cases o with
  |nil=>exact absurd rfl a
  |full h1 h2 h3 h4 h5=>exact⟨_,rfl,h1,h2,h3⟩
 |lit=>exact absurd rfl a
instance aaG(n i m:Int):Decidable (lS n i m):=by unfold lS;infer_instance
structure Hu (T:Nat->Option an):Prop where
 rj:KP T
 rp:KQ T
 f101:T 29=some f101
 f102:T 30=some f102
theorem DC(F:Hu T)(hr:Rdy h)(n a m:Int):Pu T 29 [zc n, zc a, zc m] h (.bool (decide (lS n a m))):=by
 refine .of F.rj.rc.r8.p F.f101 hr rfl ?_;by_cases h1:n= -1
 ·have b:zz n (-1) true:=qD h1;rw[decide_eq_true (show lS n a m from .inl h1)];refine Y19 ?_;exact ah hr.log rfl rfl
 have b:zz n (-1) false:=j9 h1;by_cases h2:a<n
 ·have c:zs n a true:=dY h2;by_cases h3:n<m
  ·have d:zd n m true:=cH h3;rw[decide_eq_true (show lS n a m from .inr ⟨h2,h3⟩)];refine Y27 ?_;exact ah hr.log rfl rfl
  ·have d:zd n m false:=cS (by omega);rw[decide_eq_false (show¬lS n a m from λq=>q.elim h1 λq=>h3 q.2)];refine Y27 ?_;exact ah hr.log rfl rfl
 ·have c:zs n a false:=fu (by omega);rw[decide_eq_false (show¬lS n a m from λq=>q.elim h1 λq=>h2 q.1)];refine Y24 ?_;exact ah hr.log rfl rfl
theorem ye(F:Hu T){w:List Nat×List Nat}(hw:IsW w){l:List Pb}(hl:l.length<=8)(hc:∀p∈l,1<=p.cost/\p.cost<=1000){ns:List (List (List Nat))}(f8:ns.length<1000000)(f7:∀r∈ns,r.length<1000000/\∀n∈r,IsS n/\Sub n w.2)(ii:s.length<1000000)(fb:OX l s):
 ∀(k:Nat) {h:Heap} (_:Rdy h) {pv nv sv v:Value} (_:PbS h pv l) (_:NdS h nv ns) (_:FkS h sv s) {g:List Nat} (_:aK h 1 v g.length (ints (zI g))) (_:g.length=l.length) (_:∀x∈g,x<=2) {a:Int} (_:lS a (-1) s.length) {cost:Int} (_: -9223372036854775808<=cost/\cost<9223372036854775808) (_:(gZ l.length g).length<k),
 Pu T 30 [wV w,pv,nv,sv, zc a,v, zc cost] h (.bool (nY w l ns s k a g cost)):=by
 intro k;induction k with
 |zero=>intro _ _ _ _ _ _ _ _ _ _ _ _ _ _ _ _ _ q;omega
 |succ k ih=>
 intro h Y pv nv sv v sp sn S0 g sg E cj a bo cost i8 hk;have hp:=F.rj.rc.r8.p;refine .of hp F.f102 Y rfl ?_;have fd:cellsOf (wV w)=wL w:=by show(wL w).toArray.toList=_;simp
 obtain⟨pa,pc,rfl⟩:=sp.form;obtain⟨na,nc,rfl⟩:=sn.form;obtain⟨sa,sc,rfl⟩:=aK.form S0;obtain⟨ga,gc,rfl⟩:=sg.form;have x0:Ext h (h.push (qt (cellsOf (wV w)))):=(Ext.refl h).push _;have g0:(h.push (qt (cellsOf (wV w)))).get h.next=some (qt (wL w)):=by rw[fd];exact z3 h _
 have n0:(h.push (qt (cellsOf (wV w)))).next=h.next+1:=rfl
 refine Y4 ?_;generalize(h.push (qt (cellsOf (wV w))))=H at*;have W:=x0.wf Y.wf;have hL:=x0.log.trans Y.log;have wk:=jR hw;have lc:=ic hw;unfold nY;by_cases hcost:cost<0
 ·rw[if_pos hcost];have m1:zd cost 0 true:=cH hcost;refine Y11 ?_;exact ah hL rfl rfl
 rw[if_neg hcost];have m1:zd cost 0 false:=cS (by omega);have cY:=PS cj;have dq:aK h 1 (.slice ga g.length gc) (zI g).length (ints (zI g)):=by rw[kX];exact sg
 have C4:=rS F.rj.rc.r8 (h:={H with log:=[]}) (.of W) hw ((sp.ext x0).log []) (by omega) ((dq.ext x0).log []) (by rw[kX];exact E) cY;rw[tR]at C4;have eh:IsS (bsS w.1 (l.zip g)):=nF hw.a (vP sp.ok);have x1:=dX (h:=H) (base:=h.next) (by omega) (qt (aI 8 (.int .u64 0))) (qt (us (bsS w.1 (l.zip g))));have n1:((H.push (qt (aI 8 (.int .u64 0)))).wr h.next H.next (qt (us (bsS w.1 (l.zip g))))).next=H.next+1:=rfl
 have il:=eh.len;have J:=λ(cf:bsB w (l.zip g)=true) {H1:Heap} (c:Ext h H1)=>zP F.rj (h:={H1 with log:=[]}) (.of (c.wf Y.wf)) hw ((sp.ext c).log []) (by omega) ((dq.ext c).log []) (by rw[kX];exact E) cY ((sn.ext c).log []) f8 (by rw[tR];exact cf) f7;simp only[tR]at J;have jo:=Ew (w:=w) (l:=l) (ns:=ns) (g:=g);have d8:=ES (w:=w) (l:=l) (ns:=ns) (f:=g);generalize hjl:ns.map (jX (l.zip g) (bsS w.1 (l.zip g)))=jl at*;have cJ:jl.length=ns.length:=by rw[←hjl,hS]
 clear hjl;generalize eM w l ns g=op at*;generalize bsS w.1 (l.zip g)=s1 at*;generalize bsB w (l.zip g)=can at*;refine Y13 ?_;refine FW.pu C4 ?_;clear C4;refine Y4 ?_;refine aF (bB (by rfl) (by rfl) YG (by(simp only[aB];assumption)) (by rfl) (by exact bX _)) ?_;refine Y2 ?_;generalize((H.push (qt (aI 8 (.int .u64 0)))).wr h.next H.next (qt (us s1)))=H1 at*;have c:=x0.trans x1;have W1:=c.wf Y.wf;have C:=x1.log.trans hL;have a8:=(x1.old _ (by omega)).trans g0;clear g0;by_cases U:a= -1
 ·have m2:zz a (-1) true:=qD U;rw[if_pos U];cases can with
  |false=>
   obtain rfl:op=false:=by cases op with
    |false=>rfl
    |true=>exact absurd (d8 rfl) (by simp)
   refine Y18 ?_;exact ah C rfl rfl
  |true=>
   have C5:=J rfl c;rw[←jo rfl];refine Y20 ?_;refine FW.al C5 (λv h' m q=>q.log m) ?_;rintro v2 d t M;have M:Own H1.next d 1 v2 ns.length (fL jl):=M
   have W2:=t.wf W1;have j:=t.log.trans C;have P:=M.slice (by omega);rw[←cJ]at P;have Q:=ru F.rj (h:={d with log:=[]}) (.of W2) (P.log []) (by omega);obtain⟨b2,d2,rfl⟩:=P.form;refine Y5 ?_;refine FW.pu Q ?_;refine Y4 ?_;exact ah j rfl rfl
 have m2:zz a (-1) false:=j9 U;rw[if_neg U];cases can with
 |false=>
  obtain rfl:op=false:=by cases op with
   |false=>rfl
   |true=>exact absurd (d8 rfl) (by simp)
  rw[if_neg (by simp)];refine Y19 ?_;exact ah C rfl rfl
 |true=>
 have C5:=J rfl c;have jo:=jo rfl;obtain⟨i,rfl⟩:∃i:Nat,a=(i:Int):=⟨a.toNat,by rcases bo with q|q<;>omega⟩;have eQ:i<s.length:=by rcases bo with q|q<;>omega
 obtain⟨x,hx⟩:∃x,s[i]? =some x:=⟨s[i],a6 eQ⟩;have fg:s[((i:Nat):Int).toNat]? =some x:=hx;obtain⟨⟨ib,ie⟩,hy,hn⟩:=fb i x hx;have fj:lS x.yes (-1) s.length:=hy.imp id λq=>⟨by omega,q.2⟩;have f0:lS x.no (-1) s.length:=hn.imp id λq=>⟨by omega,q.2⟩;obtain⟨p,d9⟩:∃p:Nat,x.probe=(p:Int):=⟨x.probe.toNat,by omega⟩;have da:p<l.length:=by omega
 obtain⟨N,X⟩:∃r,l[p]? =some r:=⟨l[p],a6 da⟩;obtain⟨gp,V⟩:∃r,g[p]? =some r:=⟨g[p]'(by omega),a6 (by omega)⟩;have eJ:g.getD p 0=gp:=by rw[gk,V];rfl
 have f9:x.probe.toNat=p:=by rw[d9];rfl
 have eI:dW l p=N.cost:=by unfold dW;rw[gk,X];rfl
 obtain⟨bF,oF,cF,jz,hJ,tF,o,gF,dT,fY,io,ip,jp⟩:=S0.elem hx;cases o;rw[d9]at fY;obtain⟨bP,oP,cP,ke,hZ,tP,o,gP,eg,kP⟩:=sp.elem X;cases o;have ik:=kP.cost;have du:=sg.ext c;obtain⟨bG,oG,cG,kd,hY,tG,o,gG,e9,kG⟩:=wE du (FK V);cases o;rw[fg];dsimp only;rw[f9,eJ,eI];have aw:=(c.old _ dT).trans gF;have ba:=(c.old _ eg).trans gP;refine Y22 ?_;refine FW.al C5 (λv h' m q=>q.log m) ?_;clear C5 J;rintro v2 d t M;have M:Own H1.next d 1 v2 ns.length (fL jl):=M
 have u:=c.trans t;have W2:=t.wf W1;have j:=t.log.trans C;have n2:=t.next
 have P:=M.slice (by omega);rw[←cJ]at P;have Q:=ru F.rj (h:={d with log:=[]}) (.of W2) (P.log []) (by omega);obtain⟨b2,d2,rfl⟩:=P.form;rw[jo]at Q;have S:=(t.old _ (by have:=c.next;omega)).trans aw;have be:=(t.old _ (by have:=c.next;omega)).trans ba;have dE:=(t.old _ e9).trans gG;have ae:=(t.old _ (by omega)).trans a8;clear aw ba gG a8 M P du;cases op with
 |false=>
  rw[if_neg (by simp)];refine Y6 ?_;refine FW.pu Q ?_;refine Y18 ?_;exact ah j rfl rfl
 |true=>
 rw[if_pos rfl];by_cases hg0:gp=0;case neg=>
  rw[if_neg hg0];have m3:zB ((gp:Nat):Int) 0 true:=jr (by omega);refine Y6 ?_;refine FW.pu Q ?_;refine Y27 ?_;exact ah j rfl rfl
 rw[if_pos hg0];subst hg0;have m3:zB ((0:Nat):Int) 0 false:=qE rfl;refine Y6 ?_;refine FW.pu Q ?_;clear Q;refine Y27 ?_;have eK:g.length≠0:=by omega
 have x4:Ext d (d.push (.cells (eS 0 [I.O]) true (bM [I.O]))):=(Ext.refl d).push _;have ar:(d.push (.cells (eS 0 [I.O]) true (bM [I.O]))).get d.next=some (qt []):=z3 _ _
 have db:cN (d.push (.cells (eS 0 [I.O]) true (bM [I.O]))) 1 (.slice (some ⟨bG,oG,none⟩) g.length gc)=some (ints (zI g),g.length):=CV (sg.ext (u.trans x4));have ju:(d.push (.cells (eS 0 [I.O]) true (bM [I.O]))).next=d.next+1:=rfl
 refine vL (lo:=d.next) (b:=d.next) ar (ec _) (bl _) (by omega) (by omega) (by rfl) (by rfl) db (by rw[jL];omega) ?_;intro v4 H4 o4 dv;have x5:Ext d H4:=x4.trans dv;obtain⟨e,rfl,cd,ge,g4⟩:=o4.V9 eK;clear o4 db ar dv x4 dE;have n4:=x5.next
 have nh:=u.next
 have dC:=(x5.old _ (by omega)).trans S;have Z:(ints (zI g)).set (0+p*1) (zc 1)=ints (zI (g.set p 1)):=Dj g p 1;have a7:(ints (zI (g.set p 1))).set (0+p*1) (zc 2)=ints (zI (g.set p 2)):=by
  have:=Dj (g.set p 1) p 2;rw[List.set_set]at this;exact this
 have gg:=jL g;have dj:(ints (zI (g.set p 1))).length=g.length:=by rw[jL,ul]
 have dp:(ints (zI (g.set p 2))).length=g.length:=by rw[jL,ul]
 have i9:=hc N (bz X);have cX:=λa (U:a≠0)=>B7 (n:=l.length) (f:=g) (p:=p) (a:=a) (by omega) U (om.2 ⟨da,by rw[gk,V];rfl⟩);have L:∀a,a<=2->∀y∈g.set p a,y<=2:=λa U y hy=>by
  rcases Fd hy with q|q
  ·exact cj y q
  ·omega
 have i6:(d.next<=e):=cd;have SF:∀{a:Nat} {G:Heap},e<G.next->G.get e=some (qt (ints (zI (g.set p a))))->(ints (zI (g.set p a))).length=g.length->aK G 1 (sh e g.length UNK) (g.set p a).length (ints (zI (g.set p a))):=λ{a G} q1 q2 q3=>by
  rw[ul];exact .mem ⟨q1,⟨_,_,_,q2,by rw[aR,tb,bk,dn (by omega)]⟩,by omega⟩ (by unfold UNK;omega)
 refine Y10 ?_;refine aF (nU (by rfl) (by rfl) (by assumption) (by rfl) (by rfl) (by omega)) ?_;refine y3 ?_;have K:Ext d (H4.wr h.next e (qt ((ints (zI g)).set (0+p*1) (zc 1)))):=⟨n4,(Heap.au (by omega)).trans x5.log,λz hz=>(z5 (by omega)).trans (x5.old z hz),λw=>(x5.wf w).as (AS.wr _ _ _ _)⟩;have g5:(H4.wr h.next e (qt ((ints (zI g)).set (0+p*1) (zc 1)))).get e=some (qt (ints (zI (g.set p 1)))):=by rw[Z,z6,g4];rfl
 have n6:(H4.wr h.next e (qt ((ints (zI g)).set (0+p*1) (zc 1)))).next=H4.next:=rfl
 generalize(H4.wr h.next e (qt ((ints (zI g)).set (0+p*1) (zc 1))))=H5 at*;have A:=u.trans K;have W5:=A.wf Y.wf;have i7:=K.log.trans j;have am:=(K.old _ (by omega)).trans ae;have aE:=(K.old _ (by omega)).trans S;have bj:=(K.old _ (by omega)).trans be;have fw:e<H5.next:=by omega
 have C7:=ih (h:={H5 with log:=[]}) (.of W5) ((sp.ext A).log []) ((sn.ext A).log []) (aK.log (aK.ext S0 A) []) ((SF fw g5 dj).log []) (by rw[ul];exact E) (L 1 (by omega)) fj (cost:=cost-N.cost) (by omega) (by have:=cX 1 (by omega);omega);have gt:vd cost N.cost (cost-N.cost):=kg (aU (by omega) (by omega));generalize hb1:nY w l ns s k x.yes (g.set p 1) (cost-N.cost)=b1 at*;clear g4 x5 dC S be ae;refine Y24 ?_;refine FW.puD C7 (by(repeat apply aC rfl);exact aQ) ?_;clear C7;refine Y12 ?_;refine aF (nU (by rfl) (by rfl) (by assumption) (by rfl) (by rfl) (by omega)) ?_;refine y3 ?_;have x7:Ext d (H5.wr h.next e (qt ((ints (zI (g.set p 1))).set (0+p*1) (zc 2)))):=⟨by show d.next<=H5.next;omega,(Heap.au (by omega)).trans K.log,λz hz=>(z5 (by omega)).trans (K.old z hz),λw=>(K.wf w).as (AS.wr _ _ _ _)⟩;have g7:(H5.wr h.next e (qt ((ints (zI (g.set p 1))).set (0+p*1) (zc 2)))).get e=some (qt (ints (zI (g.set p 2)))):=by rw[a7,z6,g5];rfl
 have n7:(H5.wr h.next e (qt ((ints (zI (g.set p 1))).set (0+p*1) (zc 2)))).next=H5.next:=rfl
 have w7:∀z,z≠e->(H5.wr h.next e (qt ((ints (zI (g.set p 1))).set (0+p*1) (zc 2)))).get z=H5.get z:=λz hz=>z5 hz;generalize(H5.wr h.next e (qt ((ints (zI (g.set p 1))).set (0+p*1) (zc 2))))=H7 at*;have B:=u.trans x7;have W7:=B.wf Y.wf;have D:=x7.log.trans j;have i0:=(w7 _ (by omega)).trans am;have i4:=(w7 _ (by omega)).trans aE;have i5:=(w7 _ (by omega)).trans bj;have fX:e<H7.next:=by omega
 have C8:=ih (h:={H7 with log:=[]}) (.of W7) ((sp.ext B).log []) ((sn.ext B).log []) (aK.log (aK.ext S0 B) []) ((SF fX g7 dp).log []) (by rw[ul];exact E) (L 2 (by omega)) f0 (cost:=cost-N.cost) (by omega) (by have:=cX 2 (by omega);omega);generalize hb2:nY w l ns s k x.no (g.set p 2) (cost-N.cost)=b2b at*;clear g5 am aE bj K w7 W5;refine Y24 ?_;refine FW.puD C8 (by(repeat apply aC rfl);exact aQ) ?_;clear C8;cases b1<;>cases b2b
 ·refine Y12 ?_;exact ah D rfl rfl
 ·refine Y12 ?_;exact ah D rfl rfl
 ·refine Y13 ?_;exact ah D rfl rfl
 ·refine Y13 ?_;exact ah D rfl rfl
end Go.A.Pk
end
section
namespace Go.A.Pk
variable {T:Nat->Option an}
section
open I
end
structure VZ (T:Nat->Option an):Prop where
 op:xm T
 f128:T 59=some f128
theorem AL{l:List Pb}{p:Nat}{x:Pb}(h:l[p]? =some x):dW l p=x.cost:=by
 unfold dW;rw[gk,h];rfl
end Go.A.Pk
end
section
namespace Go.A.Pk
variable {T:Nat->Option an}
section
variable {w:List Nat×List Nat} {l:List Pb} {ns:List (List (List Nat))} {s:List Fk} {cost:Int}
theorem Kp(k:Nat)(f:List Nat)(fr paid:Int):jF w l ns s cost (k+1) f (-1) fr paid=if eM w l ns f=true then none else some 0:=by
 rw[jF,if_pos rfl]
variable{k:Nat}{f:List Nat}{fr paid:Int}
theorem xg{a:Int}(b:a≠ -1)(h:¬ (eM w l ns f=true/\fr<a/\a<s.length)):jF w l ns s cost (k+1) f a fr paid=none:=by
 rw[jF,if_neg b,if_neg h]
variable{i:Nat}{x:Fk}
theorem IL(h:eM w l ns f=true/\fr<(i:Int)/\(i:Int)<s.length)(b:s[i]? =some x)(a:¬ ((0<=x.probe/\x.probe<l.length)/\f.getD x.probe.toNat 0=0)):jF w l ns s cost (k+1) f i fr paid=none:=by
 rw[jF,if_neg (by omega),if_pos h,QP];simp only[b];rw[if_neg a]
theorem Ko{p:Nat}(h:eM w l ns f=true/\fr<(i:Int)/\(i:Int)<s.length)(e:s[i]? =some x)(c:x.probe=(p:Nat))(d:p<l.length)(g:f.getD p 0=0):jF w l ns s cost (k+1) f i fr paid=if paid+dW l p<=cost then
 match jF w l ns s cost k (f.set p 1) x.yes i (paid+dW l p)with
 |none=>none
 |some a=>match jF w l ns s cost k (f.set p 2) x.no i (paid+dW l p)with
  |none=>none
  |some b=>some (a+b+1)
 else none:=by
 rw[jF,if_neg (by omega),if_pos h,QP];simp only[e];rw[c,QP,if_pos ⟨⟨by omega,by omega⟩,g⟩];split<;>rfl
end
variable{m q:Nat}{nv ov pv:Value}{os:List (List Nat)}
theorem Pp(F:Du T){K:Heap}(X:WF K){w:List Nat×List Nat}{l:List Pb}{ns:List (List (List Nat))}(Q0:QuH K q m w pv nv ov l os ns)(hc:∀p∈l,1<=p.cost/\p.cost<=1000){sv:Value}{s:List Fk}(S0:FkS K sv s)(fd:s.length<1000000){cost:Int}{bq bs bn bc bv:Nat}(M:K.next<=bn)(d1:bq≠bn)(d2:bs≠bn)(d3:bc≠bn)(d4:bv≠bn):
 ∀(k:Nat) {f:List Nat} {a fr paid n0:Int} {h:Heap},Rdy h->f.length=8->(gZ l.length f).length<k-> -1<=fr->(0<=paid/\paid+1000*k<=100000)->(0<=n0/\n0+(2 ^ k:Nat)<=1000000)->VsH K h q sv cost n0 bq bs bn bc bv→
 Gp T 63 (Ac f a fr paid bq bs bn bc bv) h (λz=>z=bn) (PY w l ns s cost bn k f a fr paid n0) (PX w l ns s cost k f a fr paid):=by
 intro k;induction k with
 |zero=>intro f a fr paid n0 h _ _ hk;omega
 |succ k ih=>
  intro f a fr paid n0 h hr Z hk f7 fb cY V;have Y:=V.wf.dS V.gn;have f9:1<=2 ^ k:=Nat.pow_pos (by omega);rw[Nat.pow_succ]at cY;refine Gp.of F.op.qu.p F.f203 (λv h1 h2 _ hn E ⟨e,m,e1,e2⟩=>⟨e,m,e1,(E bn Y).trans e2⟩) ?_;unfold Ac;have cJ:=jB f;have x0:Ext h (h.push (qt (cellsOf (fV f)))):=(Ext.refl h).push _;have g9:(h.push (qt (cellsOf (fV f)))).get h.next=some (qt (fL f)):=by rw[cJ];exact z3 h _
  have n9:(h.push (qt (cellsOf (fV f)))).next=h.next+1:=rfl
  refine Y3 ?_;generalize(h.push (qt (cellsOf (fV f))))=H at*;have W:=x0.wf hr.wf;have hL:=x0.log.trans hr.log;have A:VsH K H q sv cost n0 bq bs bn bc bv:=V.ws W x0.next (λz n _=>x0.old z n) M d1 d2 d3 d4 ((x0.old bn Y).trans V.gn)
  obtain⟨mm,J,ba⟩:=Q0.mem;have aE:=X.dS J;have QH:QuH H q m w pv nv ov l os ns:=Q0.keep X A.nx (λz n _=>A.old z n) ⟨mm,(A.old m aE).trans J,ba⟩;have r:=Ci F.op (h:={H with log:=[]}) (.of W) (QH.log []) Z;have fg:=mJ Z;have fj:=j5 Z;have cd:=A.gq;have d:∀z∈H.log,z=bn:=λz n=>by rw[hL]at n;cases n
  by_cases E:a= -1
  ·subst E;have j:=Kp (w:=w) (l:=l) (ns:=ns) (s:=s) (cost:=cost) k f fr paid;have dp:zz (-1) (-1) true:=rfl;generalize bsB w (l.zip f)=can at*;cases u:eM w l ns f with
   |true=>
    rw[u]at r;rw[u,if_pos rfl]at j;refine Y4 ?_;refine FW.pu r ?_;refine Y16 ?_;refine FW.pan (ki F) ?_;repeat first|refine ta ?_|refine tc ?_
    exact fT d ⟨rfl,j⟩
   |false=>
    rw[u]at r;rw[u,if_neg (by simp)]at j;refine Y4 ?_;refine FW.pu r ?_;refine Y16 ?_;refine FW.pu (l9 F (.of W)) ?_;refine Y3 ?_;exact LO d rfl ⟨rfl,0,j,by rw[A.gn];simp⟩
  have dp:zz a (-1) false:=j9 E;obtain⟨sa,sc,U⟩:=aK.form S0;subst U;have cf:=A.gs;cases hcan:bsB w (l.zip f)with
  |false=>
   have u:eM w l ns f=false:=by unfold eM;rw[hcan];rfl
   rw[hcan,u]at r;have j:=xg (w:=w) (l:=l) (ns:=ns) (s:=s) (cost:=cost) (k:=k) (f:=f) (fr:=fr) (paid:=paid) E (by rw[u];simp);refine Y4 ?_;refine FW.pu r ?_;refine Y31 ?_;refine FW.pan (ki F) ?_;repeat first|refine ta ?_|refine tc ?_
   exact fT d ⟨rfl,j⟩
  |true=>
  rw[hcan]at r;cases u:eM w l ns f with
  |false=>
   rw[u]at r;have j:=xg (w:=w) (l:=l) (ns:=ns) (s:=s) (cost:=cost) (k:=k) (f:=f) (fr:=fr) (paid:=paid) E (by rw[u];simp);refine Y4 ?_;refine FW.pu r ?_;refine Y32 ?_;refine FW.pan (ki F) ?_;repeat first|refine ta ?_|refine tc ?_
   exact fT d ⟨rfl,j⟩
  |true=>
  rw[u]at r;by_cases h1:fr<a;case neg=>
   have j:=xg (w:=w) (l:=l) (ns:=ns) (s:=s) (cost:=cost) (k:=k) (f:=f) (fr:=fr) (paid:=paid) E (λq=>h1 q.2.1);have mg:zs a fr false:=fu (by omega);refine Y4 ?_;refine FW.pu r ?_;refine Y35 ?_;refine FW.pan (ki F) ?_;repeat first|refine ta ?_|refine tc ?_
   exact fT d ⟨rfl,j⟩
  have mg:zs a fr true:=dY (by omega);by_cases h2:a<s.length;case neg=>
   have j:=xg (w:=w) (l:=l) (ns:=ns) (s:=s) (cost:=cost) (k:=k) (f:=f) (fr:=fr) (paid:=paid) E (λq=>h2 q.2.2);have ml:zd a s.length false:=cS (by omega);refine Y4 ?_;refine FW.pu r ?_;refine Y39 ?_;refine FW.pan (ki F) ?_;repeat first|refine ta ?_|refine tc ?_
   exact fT d ⟨rfl,j⟩
  have ml:zd a s.length true:=cH (by omega);obtain⟨i,rfl⟩:=xl (show 0<=a by omega);have cX:i<s.length:=by omega
  obtain⟨x,hx⟩:∃x,s[i]? =some x:=⟨s[i],a6 cX⟩;obtain⟨b,o,c,vs,gg,t,U,bj,cj,db,fw,fX,fY⟩:=S0.elem hx;cases U;have dE:zE n0 1 (n0+1):=gI (aU (by omega) (by omega));have ae:=A.gn;refine Y4 ?_;refine FW.pu r ?_;clear r;refine Y39 ?_;refine FW.pu (l9 F (.of W)) ?_;refine y3 ?_;refine dw (E0:=[(1, zc (i:Nat)),(3, zc paid),(4, sb bq),(5, sb bs),(7, sb bc),(8, sb bv),(9, sb h.next)]) (P:=λB=>B.next=h.next+1/\(∀z,z≠bn->B.get z=H.get z)/\B.get bn=some (qt [zc (n0+1)])/\WF B∧∀z∈B.log,z=bn) ?_ ?_
  ·refine Y4 ?_;refine bH ?_;refine y1 ?_;exact⟨rfl,rfl,rfl,n9,λz n=>z5 n,Heap.aP ae,W.as (AS.wr h.next _ _ _),λz n=>(fk n).elim id (d z)⟩
  rintro H2 ⟨ge,x2,bo,W2,l2⟩;have D:VsH K H2 q (.slice (some ⟨b,o,none⟩) s.length sc) cost (n0+1) bq bs bn bc bv:=A.ws W2 (by omega) (λz n d8=>x2 z d8) M d1 d2 d3 d4 bo;have Q2:QuH H2 q m w pv nv ov l os ns:=Q0.keep X D.nx (λz n _=>D.old z n) ⟨mm,(D.old m aE).trans J,ba⟩;have be:=(x2 h.next (by omega)).trans g9;have eQ:=D.gs;have eJ:=D.gq;have eI:=D.gc;have eg:=(D.old b cj).trans bj;have eK:=Q2.gq;clear cd cf ae A QH d;obtain⟨pa,pc,d9⟩:=Q2.sp.form;subst d9;have hw:=Q2.hw;have kp:=E8 hw (.slice pa l.length pc) nv ov (.map (some m));have f8:=Q2.hl;have dT:vd l.length 1 ((l.length:Nat)-1:Int):=kg (aU (by omega) (by omega));have C:=Mt F.op.qu.p F.f106 (h:={H2 with log:=[]}) (.of W2) x.probe 0 ((l.length:Nat)-1:Int);have N:eM w l ns f=true/\fr<(i:Int)/\(i:Int)<s.length:=⟨u,h1,h2⟩;by_cases hpr:0<=x.probe/\x.probe<l.length;case neg=>
   have L:inR x.probe 0 ((l.length:Nat)-1:Int)=false:=by unfold inR;exact decide_eq_false (by omega)
   rw[L]at C;have j:=IL (cost:=cost) (k:=k) (paid:=paid) N hx (λq=>hpr q.1);refine Y17 ?_;refine FW.pu C ?_;refine Y7 ?_;refine FW.pan (ki F) ?_;repeat first|refine ta ?_|refine tc ?_
   exact fT l2 ⟨rfl,j⟩
  have L:inR x.probe 0 ((l.length:Nat)-1:Int)=true:=by unfold inR;exact decide_eq_true (by omega)
  rw[L]at C;obtain⟨p,hp⟩:=xl hpr.1;have O:p<l.length:=by omega
  rw[hp]at db C;obtain⟨y,hy⟩:∃y,f[p]? =some y:=⟨f[p]'(by omega),a6 _⟩;have kf:=BO hy;have aw:f.getD p 0=y:=by rw[gk,hy];rfl
  have mk:af .eql (.int .u8 (y:Nat)) (.int .u8 0)=some (.bool (decide (y=0))):=sJ (c:=0) rfl;by_cases hy0:y=0;case neg=>
   rw[decide_eq_false hy0]at mk;have j:=IL (cost:=cost) (k:=k) (paid:=paid) N hx (λq=>hy0 (by rw[←aw];have:=q.2;rw[hp]at this;exact this));refine Y17 ?_;refine FW.pu C ?_;refine Y11 ?_;refine FW.pan (ki F) ?_;repeat first|refine ta ?_|refine tc ?_
   exact fT l2 ⟨rfl,j⟩
  rw[decide_eq_true hy0]at mk;obtain⟨z,n⟩:∃z,l[p]? =some z:=⟨l[p],a6 O⟩;obtain⟨b3,o3,c3,gt,e9,t3,da,eh,du,a8⟩:=Q2.sp.elem n;cases da;have kc:=a8.cost;have f0:=hc z (bz n);have am:=AL n;have ar:f.getD p 0=0:=by rw[aw];exact hy0
  have j:=Ko (cost:=cost) (k:=k) (paid:=paid) N hx hp O ar;have dj:zE paid z.cost (paid+dW l p):=by rw[am];exact gI (aU (by omega) (by omega))
  have I:0<=paid+dW l p/\paid+dW l p+1000*k<=100000:=by rw[am];omega
  generalize paid+dW l p=pd at*;by_cases hpay:pd<=cost;case neg=>
   have dq:zp pd cost false:=ew (by omega);rw[if_neg hpay]at j;refine Y17 ?_;refine FW.pu C ?_;refine Y11 ?_;refine FW.pu (l9 F (.of W2)) ?_;refine Y19 ?_;refine FW.pan (ki F) ?_;repeat first|refine ta ?_|refine tc ?_
   exact fT l2 ⟨rfl,j⟩
  have dq:zp pd cost true:=eE (by omega);rw[if_pos hpay]at j;have G:p∈gZ l.length f:=om.2 ⟨O,ar⟩;have dv:=B7 (a:=1) (by omega) (by omega) G;have dC:=B7 (a:=2) (by omega) (by omega) G
  have a7:=Po F S0 M d1 d2 d3 d4 Z (show p<8 by omega) hx (k:=k) (fr:=fr) (b9:=h.next) Y (by omega) D l2 be (n1:=n0+1) (paid:=pd) (λ{B n'} S V' e=>ih S (by rw[ul];exact Z) (by omega) (by omega) I (by subst e;omega) V') rfl
   (λ{m' B n'} em S V' e=>ih S (by rw[ul];exact Z) (by omega) (by omega) I (by have:=VD em;subst e;omega) V')
   (Q:=PY w l ns s cost bn (k+1) f i fr paid n0) (Qp:=PX w l ns s cost (k+1) f i fr paid) (fun m1 m2 B e1 e2 g=>⟨rfl,m1+m2+1,by rw[j,e1,e2],by rw[g,show n0+1+(m1:Nat)+(m2:Nat)=n0+((m1+m2+1:Nat):Int)by omega]⟩) (fun B q=>⟨rfl,by
     rw[j];rcases q with q|q
     ·rw[q]
     ·rw[q];cases jF w l ns s cost k (f.set p 1) x.yes i pd<;>rfl⟩)
  refine Y17 ?_;refine FW.pu C ?_;clear C;refine Y11 ?_;refine FW.pu (l9 F (.of W2)) ?_;refine Y19 ?_;refine FW.pu (l9 F (.of W2)) ?_;refine y3 ?_;exact a7
def opE(w:List Nat×List Nat)(l:List Pb)(os:List (List Nat)):Int:=if sB w l os≠0 then sB w l os else if pX w=true then 82 else 0
theorem zk{w:List Nat×List Nat}{l:List Pb}:opE w l os=0↔sB w l os=0/\pX w=false:=by
 unfold opE;by_cases h1:sB w l os=0
 ·rw[if_neg (by simpa using h1)];cases pX w<;>simp[h1]
 ·rw[if_pos h1];simp[h1]
def V3(h:Heap)(w:List Nat×List Nat)(pv ov:Value)(l:List Pb)(os:List (List Nat))(v:Value)(h':Heap):Prop:=
 (opE w l os≠0/\v= .tuple #[.pointer none, zc (opE w l os)])∨(opE w l os=0/\∃q m nv,v= .tuple #[sb q, zc 0]/\h.next<=m/\m<q/\QuH h' q m w pv nv ov l os (os.map (dZ w))/\h'.get m=some (.map (jN [])))
structure KJ (T:Nat->Option an):Prop where
 va:VZ T
 ak:S7 T
 lk:Tg T
 f96:T 23=some f96
variable{h:Heap}
theorem EW(F:KJ T)(hr:Rdy h)(hg:Tab h)(h2:0<h.next){w:List Nat×List Nat}(t:IsW w){Y:Value}{l:List Pb}(K:PbS h Y l)(hl:l.length<1000000){X:Value}(u:SsQ h X os)(j:os.length<1000000):
 Al T 23 [wV w,Y,X] h (V3 h w Y X l os):=by
 have hp:=F.va.op.qu.p;refine .of hp F.f96 hr ?_ ?_
 ·rintro v h1 C (q|⟨_,q,m,I,rfl,_⟩)
  ·exact .inl q
  ·cases C
 have U:cellsOf (wV w)=wL w:=by show(wL w).toArray.toList=_;simp
 obtain⟨a,c,rfl⟩:=K.form;obtain⟨a3,c3,rfl⟩:=u.sl.form;have Q:∀b o m c,(.slice a3 os.length c3:Value)= .slice (some ⟨b,o,none⟩) m c->b<h.next:=λb o m c e=>by
  rcases aK.inv u.sl with⟨_,C,_⟩|⟨b',o',cap,C,s1,_⟩
  ·rw[C]at e;cases e
  ·rw[C]at e;cases e;exact s1.lt
 have D:Ext h (h.push (qt (cellsOf (wV w)))):=(Ext.refl h).push _;have g0:(h.push (qt (cellsOf (wV w)))).get h.next=some (qt (wL w)):=by rw[U];exact z3 h _
 have n0:(h.push (qt (cellsOf (wV w)))).next=h.next+1:=rfl
 refine Y5 ?_;generalize(h.push (qt (cellsOf (wV w))))=H at*;have W:=D.wf hr.wf;have hL:=D.log.trans hr.log;have wk:=jR t;have ar:=ic t;have Z:=Lo F.ak (h:={H with log:=[]}) (.of W) t ((K.ext D).log []) hl ((u.ext D).log []) j;unfold V3 opE;have i:=mw (w:=w) (l:=l) (os:=os);generalize sB w l os=er at*;refine Y5 ?_;refine FW.al Z (λv h' m q=>q) ?_;clear Z;rintro _ k E (⟨G,rfl⟩|⟨rfl,q,m,rfl,B,S,am,gq,gm⟩)
 ·simp only[if_pos G];have g:=E.log.trans hL;have V:zz er 0 false:=j9 G;have mn:zB er 0 true:=jr G;refine Y31 ?_;exact dN g rfl (.inl ⟨G,rfl⟩)
 simp only[if_neg (show¬ ((0:Int)≠0)from λq=>q rfl)];obtain⟨_,a7,a8,P,_⟩:=i.1 rfl;clear i;have B:H.next<=m:=B
 have f:=D.trans E;have M:=f.wf hr.wf;have g:=E.log.trans hL;have n1:=E.next
 have ae:=(E.old _ (by omega)).trans g0;have y:=Up F.ak.ne (h:={k with log:=[]}) (.of M) t;have V:zz 0 0 true:=rfl;cases hm:pX w with
 |true=>
  rw[hm]at y;have mn:zB 82 0 true:=rfl;refine Y15 ?_;refine FW.pu y ?_;refine Y19 ?_;exact dN g rfl (.inl ⟨by decide,rfl⟩)
 |false=>
 rw[hm]at y;have mn:zB 0 0 false:=rfl;have C5:=QV F.lk (h:={k with log:=[]}) (.of M) (show Tab k from hg.ext f h2) (by show 0<k.next;omega) (q:=q) (by omega) t gq ((u.ext f).log []) j (λb o m c e=>by have:=Q b o m c e;omega);refine Y15 ?_;refine FW.pu y ?_;clear y;refine Y16 ?_;refine FW.gs0 C5 (λv h' m q=> ?_) (λz hz=>by omega) ?_
 ·obtain⟨o5,I,q1,q2⟩:=q;exact⟨o5,I,q1,q2.log m⟩
 rintro _ L n4 l4 _ w4 ⟨J,I,N,sn⟩;clear C5;have J:∀z,z<k.next->z≠q->L.get z=k.get z:=J
 have W4:=w4 M;have O:=l4.trans g;have d:∀{sz n:Nat} {v:Value} {cs:List Value},aK h sz v n cs->aK L sz v n cs:=λs=>aK.we s (by omega) λz hz=>(J z (by omega) (by omega)).trans (f.old z hz);have A:L.get m=some (.map (jN [])):=(J m (by omega) (by omega)).trans gm;refine Y7 ?_;refine dN O rfl (.inr ⟨rfl,q,m,I,rfl,by omega,S,⟨t,N,⟨d K.sl,K.ok⟩,P,⟨d u.sl,u.ok⟩,j,sn,by rw[hS],λr hr=> ?_,[],A,λx hx=>by cases hx⟩,A⟩);obtain⟨o,_,rfl⟩:=List.mem_map.1 hr;exact xi (oB w o) (by decide)
def Aq(ks:List Int):List (Value×Value):=ks.map λc=>(zc c, .bool true)
theorem aai(a b:Int):pV false [.i .i64] (zc a) (zc b)=some (decide (a=b)):=by
 show bJ [.i .i64] [zc a] [zc b]=_;simp only[bJ,iR,if_true];by_cases h:a=b
 ·subst h;simp
 ·have e:(a==b)=false:=by simpa using h
  rw[e,decide_eq_false h]
theorem MG(a:Int):jS false [.i .i64] (zc a)=true:=by
 unfold jS;have e:bJ [.i .i64] (cellsOf (zc a)) (cellsOf (zc a))=some true:=by
  show bJ [.i .i64] [zc a] [zc a]=_;simp[bJ,iR]
 rw[e];rfl
def qx(c:Int):Nat->List Int->Option Nat
 |_,[]=>none
 |i,x::ks=>if c=x then some i else qx c (i+1) ks
theorem L7{c:Int}:∀{ks:List Int} {i:Nat},mK false [.i .i64] (zc c) i (Aq ks)=some ((qx c i ks).map λp=>(p, .bool true))
 |[],_=>rfl
 |x::ks,i=>by
  show mK false [.i .i64] (zc c) i ((zc x, .bool true)::Aq ks)=_;unfold mK qx;rw[aai];by_cases e:c=x
  ·rw[decide_eq_true e,if_pos e];rfl
  ·rw[decide_eq_false e,if_neg e];exact L7
theorem sY{c:Int}:∀{ks:List Int} {i j:Nat},qx c i ks=some j->i<=j/\ks[j-i]? =some c
 |x::ks,i,j,h=>by
  unfold qx at h;split at h
  ·rename_i e;cases h;rw[xx];exact⟨bl _,by rw[e];rfl⟩
  ·obtain⟨h1,h2⟩:=sY h;refine⟨by omega,?_⟩;rw[show j-i=(j-(i+1))+1 by omega];exact h2
theorem sX{c:Int}:∀{ks:List Int} {i:Nat},qx c i ks=none->c ∉ ks
 |[],_,_=>by simp
 |x::ks,i,h=>by
  unfold qx at h;split at h
  ·cases h
  ·rename_i e;intro hm;rcases List.mem_cons.1 hm with q|q
   ·exact e q
   ·exact sX h q
theorem Jg(c:Int)(ks:List Int):(match qx c 0 ks with|some _=>true|none=>false)=decide (c∈ks):=by
 cases h:qx c 0 ks with
 |none=>exact(decide_eq_false (sX h)).symm
 |some j=>exact(decide_eq_true (bz (sY h).2)).symm
def Eu(ks:List Int)(c:Int):List Int:=if c∈ks then ks else ks++[c]
variable{ks:List Int}{c:Int}
theorem MA{x:Int}:x∈Eu ks c↔x=c∨x∈ks:=by
 unfold Eu;split
 ·rename_i h;exact⟨.inr,λq=>q.elim (λe=>e▸h) id⟩
 ·rw[S4,VC];exact⟨λq=>q.symm,λq=>q.symm⟩
variable{base r:Nat}{e:Env}{k:Operand}
theorem Hy{m:Operand}(b:ev h e m=some (.map (some r)))(a:ev h e k=some (zc c))(hr:h.get r=some (.map (Aq ks))):aop h base e (.lookup false [.i .i64] (.bool false) false m k)=some (.val (.bool (decide (c∈ks))) h):=by
 rw[←Jg];simp only[aop,b,a,hr,uF,MG,cond_true,L7];cases qx c 0 ks<;>rfl
theorem Fp{α:Type}:∀{l:List α} {i:Nat} {x:α},l[i]? =some x->l.set i x=l
 |[],i,x,h=>by simp at h
 |y::l,0,x,h=>by simp at h;rw[h];rfl
 |y::l,i+1,x,h=>by rw[List.set_cons_succ,Fp (by simpa using h)]
theorem Dv{m v:Operand}(d:ev h e m=some (.map (some r)))(b:ev h e k=some (zc c))(f:ev h e v=some (.bool true))(hr:h.get r=some (.map (Aq ks))):
 aop h base e (.oz false [.i .i64] m k v)=some (.val (.tuple #[]) (h.wr base r (.map (Aq (Eu ks c))))):=by
 simp only[aop,d,b,f,hr,MG,cond_true,L7];cases hf:qx c 0 ks with
 |none=>
  have e:Eu ks c=ks++[c]:=if_neg (sX hf);rw[e];simp only[Option.map_none,dI];unfold Aq;rw[wx];rfl
 |some j=>
  have a:=(sY hf).2;rw[Nat.sub_zero]at a;have e:Eu ks c=ks:=if_pos (bz a);rw[e];simp only[z7,lD];rw[Fp (by unfold Aq;rw[xc,a];rfl)]
structure tW (R ks:List Int):Prop where
 mem:∀c,c∈ks↔c∈R
 nd:(R.filter λi=>decide (i≠ -1)).Nodup
theorem tW.nil:tW [] []:=⟨λ_=>Iff.rfl,List.nodup_nil⟩
theorem tW.add{R:List Int}(S:tW R ks)(g:c= -1∨c ∉ ks):tW (R++[c]) (Eu ks c):=by
 refine⟨λx=> ?_,?_⟩
 ·rw[MA,S4,VC,S.mem];exact⟨λq=>q.symm,λq=>q.symm⟩
 ·rw[Ix];by_cases h1:c= -1
  ·rw[LE (by simpa using h1),List.filter_nil,md];exact S.nd
  ·rw[ST (by simpa using h1),List.filter_nil,WB];refine⟨S.nd,by simp,λa f b d e=> ?_⟩;rw[VC]at d;subst e;subst d;exact(g.resolve_left h1) ((S.mem _).2 (List.mem_filter.1 f).1)
theorem R7{R rest:List Int}(S:tW R ks)(h1:c≠ -1)(a:c∈ks):¬ ((R++c::rest).filter λi=>decide (i≠ -1)).Nodup:=by
 intro h;rw[Ix,ST (by simpa using h1),WB]at h;exact h.2.2 c (List.mem_filter.2 ⟨(S.mem c).1 a,by simpa using h1⟩) c bx rfl
variable{i:Nat}{x:Fk}
theorem RX{s:List Fk}(b:s[i]? =some x):dR s=dR (s.take i)++x.yes::x.no::dR (s.drop (i+1)):=by
 obtain⟨a,rfl⟩:=List.getElem?_eq_some_iff.1 b;rw[←tE,←Bb,←List.drop_eq_getElem_cons a,xC]
theorem Bc{s:List Fk}(a:s[i]? =some x):dR (s.take (i+1))=dR (s.take i)++[x.yes]++[x.no]:=by
 rw[eD a,Bb];simp[dR]
structure KC (T:Nat->Option an):Prop where
 vi:Du T
 f99:T 26=some f99
def XH:aT:=tlC (tlC (tlC (tlC (tlC (tlC (tlC (cdF f99)))))))
theorem Oc{w:List Nat×List Nat}{l:List Pb}{ns:List (List (List Nat))}{s:List Fk}{cost:Int}(h:¬wD s):¬uQ w l ns s cost:=λq=>h q.2.1
theorem Ma(F:KC T)(hr:Rdy h){w:List Nat×List Nat}{l:List Pb}{ns:List (List (List Nat))}(Q0:QuH h q m w pv nv ov l os ns)(hc:∀p∈l,1<=p.cost/\p.cost<=1000){sa:Option Addr}{Q:Nat}{s:List Fk}(S0:FkS h (.slice sa s.length Q) s)(cj:s.length<1000000){cost:Int}(L:s.length=0->0<=cost)
 {u:Heap}(W4:WF u)(be:u.log=[])(n4:u.next=h.next+5)(o4:∀z,z<h.next->u.get z=h.get z)(g3:u.get h.next=some (qt [sb q]))(g4:u.get (h.next+1)=some (qt [.slice sa s.length Q]))(g5:u.get (h.next+2)=some (qt [zc cost]))(g6:u.get (h.next+3)=some (qt [zc 0]))(g7:u.get (h.next+4)=some (qt [Kq h.next (h.next+1) (h.next+3) (h.next+2) (h.next+4)])):
 WE T h.next none XH (I9 [] (λ_=>False) (λv _=>v= .tuple #[]/\uQ w l ns s cost) (λv _=>v=Ai/\¬uQ w l ns s cost)) [(4, sb (h.next+1)),(6, sb (h.next+3)),(7, sb (h.next+4)),(8, zc (j7 s)),(9, .map (some (h.next+5)))] [] (u.push (.map [])):=by
 have Y:(u.push (.map [])).log=[]:=be;have Wp:WF (u.push (.map [])):=W4.push _;have op:∀z,z<h.next+5->(u.push (.map [])).get z=u.get z:=λz r=>z4 (by omega)
 have gr:(u.push (.map [])).get (h.next+5)=some (.map (Aq [])):=by rw[←n4];exact z3 _ _
 have np:(u.push (.map [])).next=h.next+6:=by show u.next+1=_;omega
 generalize u.push (.map [])=Hp at*;have ar:=(op _ (by omega)).trans g4;unfold XH tlC cdF f99;dsimp only;refine Y7 ?_
 refine bg (λk e S g=>∃(i:Nat) (d:List Int),i<=s.length/\k=s.length-i/\e=[(4, sb (h.next+1)),(6, sb (h.next+3)),(7, sb (h.next+4)),(8, zc (j7 s)),(9, .map (some (h.next+5))),(22, .slice sa s.length Q),(23, zc (s.length:Nat)),(24, zc (i:Nat))]/\S=[]/\g.log=[]/\WF g∧h.next+6<=g.next/\(∀z,z<h.next+5->g.get z=u.get z)/\g.get (h.next+5)=some (.map (Aq d))/\tW (dR (s.take i)) d)
  ⟨0,[],gK _,rfl,rfl,rfl,Y,Wp,by omega,op,gr, .nil⟩ ?_
 clear Y Wp op gr np ar Hp;rintro k e S G ⟨i,d,hi,rfl,rfl,rfl,y,H,nG,D,n,J⟩;by_cases hlt:i<s.length
 ·obtain⟨x,hx⟩:∃x,s[i]? =some x:=⟨s[i],a6 hlt⟩;obtain⟨b,o,c,vs,dv,t,cJ,aw,bo,dp,dq,du,cY⟩:=S0.elem hx;cases cJ;have gb:=((D b (by omega)).trans (o4 b bo)).trans aw;have d8:zd i s.length true:=cH (by omega);have cX:fkL x=[zc x.probe, zc x.yes, zc x.no]:=rfl;rw[cX]at cY;refine Y9 ?_;refine dw (E0:=[(4, sb (h.next+1)),(6, sb (h.next+3)),(7, sb (h.next+4)),(8, zc (j7 s)),(9, .map (some (h.next+5))),(11, sb G.next),(22, .slice (some ⟨b,o,none⟩) s.length Q),(23, zc (s.length:Nat)),(24, zc (i:Nat))]) (P:=λg=>Ext G g∧g.next=G.next+1/\g.get G.next=some (qt [zc x.probe, zc x.yes, zc x.no])) ?_ ?_
  ·refine Y2 ?_;refine aF (bV (by rfl) (by assumption) (by assumption) (by rfl)) ?_;refine Y2 ?_;refine bH ?_;refine y1 ?_;exact⟨rfl,rfl,rfl,dX (by omega) _ _,rfl,YG⟩
  rintro K ⟨x2,n2,g2⟩;refine dw (E0:=[(4, sb (h.next+1)),(6, sb (h.next+3)),(7, sb (h.next+4)),(8, zc (j7 s)),(9, .map (some (h.next+5))),(22, .slice (some ⟨b,o,none⟩) s.length Q),(23, zc (s.length:Nat)),(24, zc (i:Nat)),(32, sh K.next 2 2),(33, zc 2),(34, zc 0)]) (P:=λg=>Ext K g∧g.next=K.next+1/\∃sz,g.get K.next=some (.cells [zc x.yes, zc x.no] true sz)) ?_ ?_
  ·refine Y8 ?_;refine bH ?_;refine y1 ?_;exact⟨rfl,rfl,rfl,(Ext.refl K).push _,rfl,_,z3 _ _⟩
  rintro G3 ⟨x3,n3,d9,U⟩;have I:=x2.trans x3;have W3:=I.wf H;have X:=I.log.trans y;have a7:=RX hx;have cf:=Bc hx;refine mW ?_
  refine bg (λk e S g=>∃(j:Nat) (d:List Int),j<=2/\k=2-j/\e=[(4, sb (h.next+1)),(6, sb (h.next+3)),(7, sb (h.next+4)),(8, zc (j7 s)),(9, .map (some (h.next+5))),(22, .slice (some ⟨b,o,none⟩) s.length Q),(23, zc (s.length:Nat)),(24, zc (i:Nat)),(32, sh K.next 2 2),(33, zc 2),(34, zc (j:Nat))]/\S=[]/\g.log=[]/\WF g∧K.next<g.next/\(∀z,z<h.next+5->g.get z=u.get z)/\g.get (h.next+5)=some (.map (Aq d))/\g.get K.next=some (.cells [zc x.yes, zc x.no] true d9)/\tW (dR (s.take i)++[x.yes,x.no].take j) d)
   ⟨0,d,by omega,rfl,rfl,rfl,X,W3,by omega,λz r=>(I.old z (by omega)).trans (D z r),(I.old _ (by omega)).trans n,U,by simpa using J⟩ ?_
  clear J X W3 U g2 x2 x3 I n3 D n gb y H d;rintro k e S G ⟨j,d,hj,rfl,rfl,rfl,y,H,am,D,n,W,J⟩;by_cases hj2:j<2
  ·obtain⟨E,dj,a8,M⟩:∃E:Int,bN [zc x.yes, zc x.no] (0+j*1)=some (Value.int .i64 E)/\[x.yes,x.no].take (j+1)=[x.yes,x.no].take j++[E]/\∃B,dR s=(dR (s.take i)++[x.yes,x.no].take j)++E::B:=by
    have:j=0∨j=1:=by omega
    rcases this with rfl|rfl
    ·exact⟨x.yes,rfl,rfl,x.no::dR (s.drop (i+1)),by rw[a7];simp⟩
    ·exact⟨x.no,rfl,rfl,dR (s.drop (i+1)),by rw[a7];simp⟩
   obtain⟨B,M⟩:=M;have ae:zd j 2 true:=cH (by omega);have cd:∀{Q':XQ},(E= -1∨E ∉ d)->True:=λ_=>trivial;clear cd;by_cases h1:E= -1
   ·have O:zz E (-1) true:=qD h1;have A:=J.add (.inl h1);rw[yn,←a8]at A;refine Y24 ?_;refine FW.pu (l9 F.vi (.of H)) ?_;refine Y4 ?_;refine aF (Dv (ks:=d) (by rfl) (by rfl) (by rfl) n) ?_;refine bH ?_;refine Y7 ?_;exact⟨2-(j+1),by omega,j+1,Eu d E,by omega,rfl,rfl,rfl,(Heap.au (by omega)).trans y,H.as (AS.wr h.next _ _ _),am,λz r=>(z5 (by omega)).trans (D z r),Heap.aP n,(z5 (by omega)).trans W,A⟩
   ·have O:zz E (-1) false:=j9 h1;by_cases h2:E∈d
    ·have Z:=R7 (rest:=B) J h1 h2;rw[←M]at Z;refine Y23 ?_;refine aF (Hy (ks:=d) (by rfl) (by rfl) n) ?_;rw[decide_eq_true h2];refine Y4 ?_;refine FW.pan (ki F.vi) ?_;repeat first|refine ta ?_|refine tc ?_|refine Jo ?_
     exact fT (λz r=>by rw[y]at r;cases r) ⟨rfl,Oc Z⟩
    ·have A:=J.add (.inr h2);rw[yn,←a8]at A;refine Y23 ?_;refine aF (Hy (ks:=d) (by rfl) (by rfl) n) ?_;rw[decide_eq_false h2];refine Y4 ?_;refine FW.pu (l9 F.vi (.of H)) ?_;refine Y4 ?_;refine aF (Dv (ks:=d) (by rfl) (by rfl) (by rfl) n) ?_;refine bH ?_;refine Y7 ?_;exact⟨2-(j+1),by omega,j+1,Eu d E,by omega,rfl,rfl,rfl,(Heap.au (by omega)).trans y,H.as (AS.wr h.next _ _ _),am,λz r=>(z5 (by omega)).trans (D z r),Heap.aP n,(z5 (by omega)).trans W,A⟩
  ·obtain rfl:j=2:=by omega
   have ae:zd (2:Nat) 2 false:=rfl;have bj:tW (dR (s.take (i+1))) d:=by rw[cf,yn];exact J
   refine Y15 ?_;exact⟨s.length-(i+1),by omega,i+1,d,by omega,rfl,rfl,rfl,y,H,by omega,D,n,bj⟩
 ·obtain rfl:i=s.length:=by omega
  have d8:zd s.length s.length false:=cS (by omega);rw[hP]at J;have N:wD s:=J.nd;have V:VsH h G q (.slice sa s.length Q) cost 0 h.next (h.next+1) (h.next+3) (h.next+2) (h.next+4):=⟨H,by omega,λz r=>(D z (by omega)).trans (o4 z r),(D _ (by omega)).trans g3,(D _ (by omega)).trans g4,(D _ (by omega)).trans g6,(D _ (by omega)).trans g5,(D _ (by omega)).trans g7⟩
  have C:=Pp F.vi hr.wf Q0 hc S0 cj (cost:=cost) (bq:=h.next) (bs:=h.next+1) (bn:=h.next+3) (bc:=h.next+2) (bv:=h.next+4) (by omega) (by omega) (by omega) (by omega) (by omega) 10 (f:=z8) (a:=j7 s) (fr:= -1) (paid:=0) (n0:=0) (h:={G with log:=[]}) (.of H) rfl (by have:=yK l.length z8;have:=Q0.hl;omega) (by omega) (by omega) (by decide) (V.log []);unfold Ac at C;have ba:=V.gv;have aE:=V.gs;unfold Kq at ba;refine Y15 ?_;refine FW.gpb C (λz r=>by omega) y (λv g m q=>q) (λv g m q=>q) ?_ ?_
  ·rintro v h5 w5 l5 ⟨rfl,m',hm,da⟩;have W5:=w5.wf H;have db:=(w5.old (h.next+1) (by omega) (by omega)).trans aE;by_cases hme:m'=s.length
   ·have O:zz (0+((m':Nat):Int)) s.length true:=qD (by omega);refine Y7 ?_;refine FW.pu (l9 F.vi (.of W5)) ?_;refine bH ?_;refine y1 ?_;exact xY (λz r=>by rw[l5]at r;cases r) rfl ⟨rfl,L,N,by rw[hm,hme]⟩
   ·have O:zz (0+((m':Nat):Int)) s.length false:=j9 (by omega);refine Y7 ?_;refine FW.pan (ki F.vi) ?_;repeat first|refine ta ?_|refine tc ?_|refine Jo ?_
    exact fT (λz r=>by rw[l5]at r;cases r) ⟨rfl,λq=>hme (by have:=q.2.2;rw[hm]at this;exact Option.some.inj this)⟩
  ·rintro v h5 w5 l5 ⟨rfl,hm⟩;repeat first|refine ta ?_|refine tc ?_|refine Jo ?_
   exact fT (λz r=>by rw[l5]at r;cases r) ⟨rfl,λq=>by have:=q.2.2;rw[hm]at this;cases this⟩
theorem Mb(F:KC T)(hr:Rdy h){w:List Nat×List Nat}{l:List Pb}{ns:List (List (List Nat))}(Q:QuH h q m w pv nv ov l os ns)(X:∀p∈l,1<=p.cost/\p.cost<=1000){sv:Value}{s:List Fk}(G:FkS h sv s)(y:s.length<1000000)(cost:Int):
 Gp T 26 [sb q,sv, zc cost] h (λ_=>False) (λv _=>v= .tuple #[]/\uQ w l ns s cost) (λv _=>v=Ai/\¬uQ w l ns s cost):=by
 refine Gp.of F.vi.op.qu.p F.f99 (λv h1 h2 _ hn ha e=>e) ?_;obtain⟨N,O,A⟩:=aK.form G;subst A;refine dw (E0:=[(3, sb h.next),(4, sb (h.next+1)),(5, sb (h.next+2))]) (P:=λa=>Ext h a∧a.next=h.next+3/\a.get h.next=some (qt [sb q])/\a.get (h.next+1)=some (qt [.slice N s.length O])/\a.get (h.next+2)=some (qt [zc cost])) ?_ ?_
 ·refine Y4 ?_;refine bH ?_;refine y1 ?_;exact⟨rfl,rfl,rfl,(((Ext.refl h).push _).push _).push _,rfl,YG,YG,YG⟩
 rintro i ⟨x1,n1,U,V,W⟩;refine dw (E0:=[(3, sb h.next),(4, sb (h.next+1)),(5, sb (h.next+2)),(6, sb i.next)]) (P:=λa=>Ext i a∧a.next=i.next+1/\a.get i.next=some (qt [zc 0])) ?_ ?_
 ·refine Y3 ?_;refine bH ?_;refine y1 ?_;exact⟨rfl,rfl,rfl,dX (by omega) _ _,rfl,fU _ _⟩
 rintro j ⟨t,n2,K⟩;refine dw (E0:=[(3, sb h.next),(4, sb (h.next+1)),(5, sb (h.next+2)),(6, sb i.next),(7, sb j.next)]) (P:=λa=>Ext j a∧a.next=j.next+1/\a.get j.next=some (qt [.nilFunc])) ?_ ?_
 ·refine Y2 ?_;refine bH ?_;refine y1 ?_;exact⟨rfl,rfl,rfl,(Ext.refl j).push _,rfl,z3 _ _⟩
 rintro E ⟨r,n3,L⟩;have g:=(x1.trans t).trans r;have S:=g.wf hr.wf;have x:=g.log.trans hr.log;have I:i.next=h.next+3:=n1
 have J:j.next=h.next+4:=by omega
 rw[I,J];rw[J]at L;rw[I]at K;refine dw (E0:=[(4, sb (h.next+1)),(5, sb (h.next+2)),(6, sb (h.next+3)),(7, sb (h.next+4))]) (P:=λa=>a.next=h.next+5/\a.log=[]/\WF a∧(∀z,z≠h.next+4->a.get z=E.get z)/\a.get (h.next+4)=some (qt [Kq h.next (h.next+1) (h.next+3) (h.next+2) (h.next+4)])) ?_ ?_
 ·refine Y3 ?_;refine bH ?_;refine y1 ?_;exact⟨rfl,rfl,rfl,by show E.next=_;omega,(Heap.au (by omega)).trans x,S.as (AS.wr _ _ _ _),λz k=>z5 k,Heap.aP L⟩
 rintro n ⟨D,o,H,d,u⟩;have o4:∀z,z<h.next->n.get z=h.get z:=λz k=>(d z (by omega)).trans (g.old z k)
 have Y:n.get h.next=some (qt [sb q]):=(d _ (by omega)).trans ((r.old _ (by omega)).trans ((t.old _ (by omega)).trans U))
 have Z:n.get (h.next+1)=some (qt [.slice N s.length O]):=(d _ (by omega)).trans ((r.old _ (by omega)).trans ((t.old _ (by omega)).trans V));have k5:n.get (h.next+2)=some (qt [zc cost]):=(d _ (by omega)).trans ((r.old _ (by omega)).trans ((t.old _ (by omega)).trans W));have k6:n.get (h.next+3)=some (qt [zc 0]):=(d _ (by omega)).trans ((r.old _ (by omega)).trans K);have b:=λf=>Ma F hr Q X G y (cost:=cost) f H o D o4 Y Z k5 k6 u;have M:j7 s=if s.length=0 then -1 else 0:=rfl
 by_cases h0:s.length=0
 ·have B:zz s.length 0 true:=qD (by omega);rw[M,if_pos h0]at b;by_cases hcs:0<=cost
  ·have C:zt cost 0 true:=mO hcs;have c:=b λ_=>hcs;refine Y17 ?_;refine FW.pu (l9 F.vi (.of H)) ?_;refine Y2 ?_;refine aF wK ?_;rw[D];refine yM ?_;refine y3 ?_;exact c
  ·have C:zt cost 0 false:=pz (by omega);refine Y17 ?_;refine FW.pan (ki F.vi) ?_;repeat first|refine ta ?_|refine tc ?_|refine Jo ?_
   exact fT (λz k=>by rw[o]at k;cases k) ⟨rfl,λq=>hcs (q.1 h0)⟩
 ·have B:zz s.length 0 false:=j9 (by omega);rw[M,if_neg h0]at b;have c:=b λe=>absurd e h0;refine Y13 ?_;refine aF wK ?_;rw[D];refine yM ?_;refine y3 ?_;exact c
end Go.A.Pk
end
