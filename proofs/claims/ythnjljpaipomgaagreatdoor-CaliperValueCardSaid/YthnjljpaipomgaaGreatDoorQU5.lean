/- Walks of functions, plain laws, the table. -/
import Derived.Test.YthnjljpaipomgaaGreatDoorQU4
import Derived.Test.YthnjljpaipomgaaGreatDoorQD
import Derived.Test.YthnjljpaipomgaaGreatDoorQF
set_option linter.all false
set_option maxHeartbeats 16000000
set_option maxRecDepth 100000
section
namespace Go.A.Pk
variable {T:Nat->Option aq}
def fT(mm:List (List Nat×Int)):List (Value×Value):=mm.map λx=>(fV x.1, .int .i64 x.2)
theorem AT:∀{f g:List Nat} {n:Nat},f.length=n->g.length=n->bF (aR n (.i .u8)) (fL f) (fL g)=some (decide (f=g))
 |[],[],n,h1,_=>by subst h1;rfl
 |[],_::_,n,h1,h2=>by subst h1;simp at h2
 |_::_,[],n,h1,h2=>by subst h2;simp at h1
 |a::f,b::g,n,h1,h2=>by
  subst h1;have ih:=AT (f:=f) (g:=g) (n:=f.length) rfl (by simpa using h2);show bF (.i .u8::aR f.length (.i .u8)) (.int .u8 (a:Nat)::fL f) (.int .u8 (b:Nat)::fL g)=_;have e:iG (.i .u8) (.int .u8 ((a:Nat):Int)) (.int .u8 ((b:Nat):Int))=some (decide (a=b)):=by
   simp only[iG,if_true,Option.some.injEq];by_cases h:a=b
   ·subst h;simp
   ·rw[decide_eq_false h];simp;omega
  unfold bF;rw[e];by_cases h:a=b
  ·subst h;rw[decide_eq_true rfl,ih];simp
  ·rw[decide_eq_false h,ih];simp[h]
theorem gu(f:List Nat):cellsOf (fV f)=fL f:=by show(fL f).toArray.toList=_;simp
variable{f:List Nat}
theorem EE(a:f.length=8):jr true (aR 8 (.i .u8)) (fV f)=true:=by
 unfold jr;rw[gu,AT a a];rfl
theorem R8{g:List Nat}(a:f.length=8)(b:g.length=8):oS true (aR 8 (.i .u8)) (fV f) (fV g)=some (decide (f=g)):=by
 unfold oS;rw[gu,gu,AT a b];rfl
def lu(f:List Nat):Nat->List (List Nat×Int)->Option (Nat×Int)
 |_,[]=>none
 |i,x::mm=>if f=x.1 then some (i,x.2)else lu f (i+1) mm
theorem findF{f:List Nat}(a:f.length=8):∀{mm:List (List Nat×Int)} {i:Nat},(∀x∈mm,x.1.length=8)->mu true (aR 8 (.i .u8)) (fV f) i (fT mm)=some ((lu f i mm).map λp=>(p.1, .int .i64 p.2))
 |[],_,_=>rfl
 |x::mm,i,h=>by
  show mu true (aR 8 (.i .u8)) (fV f) i ((fV x.1, .int .i64 x.2)::fT mm)=_;unfold mu lu;rw[R8 a (h x b6)];by_cases e:f=x.1
  ·rw[decide_eq_true e,if_pos e];rfl
  ·rw[decide_eq_false e,if_neg e];exact findF a λy hy=>h y (bz _ hy)
theorem zK{f:List Nat}:∀{mm:List (List Nat×Int)} {i j:Nat} {v:Int},lu f i mm=some (j,v)->(f,v)∈mm
 |x::mm,i,j,v,h=>by
  unfold lu at h;split at h
  ·rename_i e;cases h;rw[e];exact b6
  ·exact bz _ (zK h)
def AY(mm:List (List Nat×Int))(f:List Nat)(v:Int):List (List Nat×Int):=
 match lu f 0 mm with
 |some (i,_)=>mm.set i (f,v)
 |none=>mm++[(f,v)]
theorem K7(mm:List (List Nat×Int))(i:Nat)(f:List Nat)(v:Int):rS (fT mm) i (fV f, .int .i64 v)=fT (mm.set i (f,v)):=by
 rw[kI];unfold fT;rw[List.map_set]
theorem K6(mm:List (List Nat×Int))(f:List Nat)(v:Int):dP (fT mm) [(fV f, .int .i64 v)]=fT (mm++[(f,v)]):=by
 rw[dI];unfold fT;rw[tk];rfl
variable{mm:List (List Nat×Int)}
theorem KX{v:Int}{x:List Nat×Int}(h:x∈AY mm f v):x=(f,v)∨x∈mm:=by
 unfold AY at h;split at h
 ·exact(wn h).symm
 ·rcases List.mem_append.1 h with h|h
  ·exact .inr h
  ·exact .inl (List.mem_singleton.1 h)
def mc(w:List Nat×List Nat)(l:List Pb)(ns:List (List (List Nat)))(mm:List (List Nat×Int)):Prop:=∀x∈mm,x.1.length=8/\x.2=bT w l ns x.1
variable{w:List Nat×List Nat}{l:List Pb}{ns:List (List (List Nat))}
theorem mc.put(h:mc w l ns mm)(b:f.length=8):mc w l ns (AY mm f (bT w l ns f)):=λx a=>by
 rcases KX a with rfl|a
 ·exact⟨b,rfl⟩
 ·exact h x a
variable{base r:Nat}{h:Heap}{e:Env}{k:Operand}
theorem FP{m:Operand}{u:Value}(d:ev h e m=some (.map (some r)))(c:ev h e k=some (fV f))(hr:h.get r=some (.map (fT mm)))(a:f.length=8)(b:∀x∈mm,x.1.length=8)
 (g:(match lu f 0 mm with|some (_,v)=>Value.tuple #[.int .i64 v, .bool true]|none=> .tuple #[.int .i64 0, .bool false])=u):aop h base e (.lookup true (aR 8 (.i .u8)) (.int .i64 0) true m k)=some (.val u h):=by
 subst g;simp only[aop,d,c,hr,rT,EE a,cond_true,findF a b];cases lu f 0 mm<;>rfl
variable{v:Operand}{n:Int}
theorem vP{m:Operand}(d:ev h e m=some (.map (some r)))(c:ev h e k=some (fV f))(g:ev h e v=some (.int .i64 n))(hr:h.get r=some (.map (fT mm)))(a:f.length=8)(b:∀x∈mm,x.1.length=8):
 aop h base e (.mE true (aR 8 (.i .u8)) m k v)=some (.val (.tuple #[]) (h.wr base r (.map (fT (AY mm f n))))):=by
 simp only[aop,d,c,g,hr,EE a,cond_true,findF a b];unfold AY;cases lu f 0 mm with
 |none=>simp only[Option.map_none,K6]
 |some p=>simp only[z7,K7]
theorem Ak{ops:List aP}{bf:List Nat}{rs c:List Rec}{Q:Env->Heap->Prop}{i mask:Nat}{is:List Nat}{dst:Option Nat}{m:Operand}{g:Option (Nat×Bool)}{a:Env}(ho:bK ops i=some ⟨dst, .mE true (aR 8 (.i .u8)) m k v,g⟩)(s:bK bf i=some mask)
 (o:bD e (cA ⟨dst, .mE true (aR 8 (.i .u8)) m k v,g⟩)=a)(u:bA a g=some true)(d:ev {h with log:=[]} a m=some (.map (some r)))(q:ev {h with log:=[]} a k=some (fV f))(t:ev {h with log:=[]} a v=some (.int .i64 n))(hr:h.get r=some (.map (fT mm)))(p:f.length=8)(l:∀x∈mm,x.1.length=8)(b:r<h.next)
 (j:br (h.wr base r (.map (fT (AY mm f n)))) base [r] mask rs=some c)
 (H:WD T base ops bf Q is c (bN e dst (.tuple #[])) (h.wr base r (.map (fT (AY mm f n))))):WD T base ops bf Q (i::is) rs e h:=
 lV ho s o u rfl (vP (h:={h with log:=[]}) d q t hr p l) (Eo b _) (rj b _) j H
structure QuH (h:Heap) (q m:Nat) (w:List Nat×List Nat) (pv nv ov:Value) (l:List Pb) (os:List (List Nat)) (ns:List (List (List Nat))):Prop where
 hw:IsW w
 gq:h.get q=some (.cells (quL w pv nv ov (.map (some m))) true 1)
 sp:PbS h pv l
 hl:l.length<=8
 so:SsQ h ov os
 hol:os.length<1000000
 sn:NdS h nv ns
 hns:ns.length=os.length
 hrn:∀r∈ns,r.length<1000000
 mem:∃mm,h.get m=some (.map (fT mm))/\mc w l ns mm
variable{h':Heap}{m:Nat}
theorem aJ.uP{sz n:Nat}{es:List (Value×Value)}{v:Value}{cs:List Value}(s:aJ h sz v n cs)(c:h.get m=some (.map es))(g:h.next<=h'.next)(f:∀z,z<h.next->z≠m->h'.get z=h.get z):aJ h' sz v n cs:=by
 cases s with
 |nil=>exact .nil
 |mem s hc=>
  obtain⟨i,a,t,b,d⟩:=s.obj;refine .mem ⟨hK s.lt g,⟨i,a,t,(f _ s.lt λe=> ?_).trans b,d⟩,s.len⟩ hc;subst e;rw[b]at c;cases c
variable{q:Nat}{os:List (List Nat)}
theorem QuH.keep{n j k:Value}(Q:QuH h q m w n j k l os ns)(f:WF h)(d:h.next<=h'.next)(b:∀z,z<h.next->z≠m->h'.get z=h.get z)(p:∃g,h'.get m=some (.map (fT g))/\mc w l ns g):QuH h' q m w n j k l os ns:=by
 obtain⟨g,a,_⟩:=Q.mem;obtain⟨c,t,u⟩:=Q.sn.ex;refine⟨Q.hw,(b q (f.bP Q.gq) λe=> ?_).trans Q.gq,⟨aJ.uP Q.sp.sl a d b,Q.sp.ok⟩,Q.hl,⟨aJ.uP Q.so.sl a d b,Q.so.ok⟩,Q.hol,⟨c,aJ.uP t a d b,λi r o=> ?_⟩,Q.hns,Q.hrn,p⟩
 ·have:=Q.gq;rw[e,a]at this;cases this
 ·obtain⟨v,s,sv⟩:=u i r o;exact⟨v,s,⟨aJ.uP sv.sl a d b,sv.ok⟩⟩
theorem QuH.ext{e c d:Value}(Q:QuH h q m w e c d l os ns)(a:WF h)(x:Ext h h'):QuH h' q m w e c d l os ns:=by
 refine Q.keep a x.next (λz g _=>x.old z g) ?_
 obtain⟨i,b,f⟩:=Q.mem;exact⟨i,(x.old m (a.bP b)).trans b,f⟩
theorem QuH.log{h:Heap}{q m:Nat}{w:List Nat×List Nat}{d b c:Value}{l:List Pb}{os:List (List Nat)}{ns:List (List (List Nat))}(Q:QuH h q m w d b c l os ns)(a:List Nat):QuH {h with log:=a} q m w d b c l os ns:=
 ⟨Q.hw,Q.gq,Q.sp.log a,Q.hl,Q.so.log a,Q.hol,Q.sn.log a,Q.hns,Q.hrn,Q.mem⟩
structure sF (T:Nat->Option aq):Prop where
 qu:FJ T
 f108:T 32=some f108
 f147:T 37=some f147
 f149:T 39=some f149
 f228:T 66=some f228
theorem kN(F:sF T)(hr:Rdy h)(k:f.length=8){p a:Nat}(v:p<8):
 Pu T 39 [fV f, .int .i64 (p:Nat), .int .u8 (a:Nat)] h (fV (f.set p a)):=by
 refine .of F.qu.p F.f149 hr ?_ ?_
 ·show cZ (fL (f.set p a)).toArray.toList=true;rw[xn];generalize f.set p a=f;induction f with
  |nil=>rfl
  |cons a f ih=>exact ih
 have e:=gu f;have m:Ext h ((h.push (.cells (cellsOf (fV f)) true 1)).push (.cells (aR 8 (.int .u8 0)) true 1)):=((Ext.refl h).push _).push _;have t:((h.push (.cells (cellsOf (fV f)) true 1)).push (.cells (aR 8 (.int .u8 0)) true 1)).get h.next=some (.cells (fL f) true 1):=by rw[e];exact(z4 (go _)).trans (z3 h _)
 have u:((h.push (.cells (cellsOf (fV f)) true 1)).push (.cells (aR 8 (.int .u8 0)) true 1)).get (h.next+1)=some (.cells (fL z8) true 1):=z3 _ _;have w:((h.push (.cells (cellsOf (fV f)) true 1)).push (.cells (aR 8 (.int .u8 0)) true 1)).next=h.next+2:=rfl
 refine Y4 ?_;generalize((h.push (.cells (cellsOf (fV f)) true 1)).push (.cells (aR 8 (.int .u8 0)) true 1))=H at*;have c:(h.push (.cells (cellsOf (fV f)) true 1)).next=h.next+1:=rfl
 rw[c];clear c;have W:=m.wf hr.wf;have n:=m.log.trans hr.log;have d:=RV f p a;have l:(fL f).length=8:=by rw[dJ];exact k
 have o:(fL z8).length=8:=rfl;have b:(f.set p a).length=8:=by rw[lp];exact k
 have i:=iE b;have j:=fP b;have q:(fL (f.set p a)).length=8:=by rw[dJ];exact b
 have r:=ot (f.set p a);generalize f.set p a=g at*;refine Y4 ?_;refine aG (B9 (by exact rfl) (by exact rfl) (by assumption) (by exact rfl) (by exact rfl) (by omega)) ?_;refine y3 ?_;rw[d];refine y4 ?_;refine aG (di (by exact rfl) YG (by assumption) (by assumption)) ?_;refine aG (dg (by exact rfl) (by exact rfl) YG (by assumption) (by assumption) (by assumption)) ?_;refine Y2 ?_;refine au ?_ (dW (own:=true) (s:=1) rfl ?_ i j rfl) rfl
 ·rw[Heap.aD (by omega),Heap.aD (by omega)];exact n
 ·exact YG
theorem AU(F:sF T)(hr:Rdy h)(q:Value)(f:List Nat)(b:cellsOf q=[q]):
 Al T 37 [q,fV f] h λv h'=>v= .func (.func 66) #[] #[.pointer (some ⟨h.next,0,none⟩), .pointer (some ⟨h.next+1,0,none⟩)]/\h'.next=h.next+2/\h'.get h.next=some (.cells [q] true 1)/\h'.get (h.next+1)=some (.cells (fL f) true 1):=by
 refine .of F.qu.p F.f147 hr ?_ ?_
 ·rintro v d c ⟨rfl,_⟩;cases c
 have a:=gu f;refine Y10 ?_;refine dG hr.log rfl ⟨rfl,rfl,?_,?_⟩
 ·rw[b];exact(z4 (go _)).trans (z3 h _)
 ·rw[←a];exact z3 _ _
variable{M:Value}
theorem Gb(F:sF T)(hr:Rdy h){pv O:Value}(u:QuH h q m w pv M O l os ns)(hf:f.length=8){b1 b2:Nat}(g1:h.get b1=some (.cells [.pointer (some ⟨q,0,none⟩)] true 1))
 {px:bk}{W:Nat->Prop}{N s:Nat}{P:List Nat->Heap->Prop}{S:Heap->Prop}(Y:Ji px T W N s (λp=>[.int .i64 ((p:Nat):Int)]) (bG l.length f) P S)(hN:N<=h.next)(r:s<h.next)(B:∀d H,P d H->H.get b2=some (.cells (fL f) true 1))(v:P [] h):
 GrW T 66 [.func (.yield s) #[] #[], .pointer (some ⟨b1,0,none⟩), .pointer (some ⟨b2,0,none⟩)] h W (P (bG l.length f)) S:=by
 refine .of F.qu.p F.f228 r (λh1 h2 hn X hp=>Y.fu _ _ _ hp (by omega) λx hx=>X x (by omega)) Y.GB ?_;obtain⟨a,c,rfl⟩:=u.sp.form;have gq:=u.gq;have kp:=rq u.hw (.slice a l.length c) M O (.map (some m));have Z:=u.hl;refine Y9 ?_
 refine cT (λk e ds J=>∃i:Nat,i<=l.length/\k=l.length-i/\e=[(0, .func (.yield s) #[] #[]),(2, .pointer (some ⟨b2,0,none⟩)),(9, .int .i64 (l.length:Nat)),(10, .int .i64 (i:Nat))]/\ds=[]/\Ws W h J∧P (bG i f) J)
  ⟨0,md _,rfl,rfl,rfl,(Ext.refl h).ws,v⟩ ?_
 rintro k e ds G ⟨i,hi,rfl,rfl,rfl,t,j⟩;have U:=t.wf hr.wf;have g:∀z∈G.log,W z:=λz D=>(t.log z D).elim (λq=>by rw[hr.log]at q;cases q) id;have V:=B _ _ j;by_cases hlt:i<l.length
 ·obtain⟨y,K⟩:∃y,f[i]? =some y:=⟨f[i]'(by omega),bx _⟩;have kf:=wz K;have o:f.getD i 0=y:=by rw[kK,K];rfl
  have E:an .lss (.int .i64 (i:Nat)) (.int .i64 (l.length:Nat))=some (.bool true):=dY (by omega);have L:an .eql (.int .u8 (y:Nat)) (.int .u8 0)=some (.bool (decide (y=0))):=zL (c:=0) rfl;have b:=tZ i f;rw[o]at b;by_cases hy0:y=0
  ·rw[decide_eq_true hy0]at L;rw[if_pos hy0]at b;refine Y24 ?_;refine mX (fn:= .yield s) (args:=[.int .i64 (i:Nat)]) (by exact rfl) ?_;refine Y.call F.qu.p (x:=i) (fB.2 ⟨hlt,by rw[o];exact hy0⟩) U (by have:=t.next;omega) r j ?_ ?_
   ·intro Q I n;rw[←b]at n;refine Y12 ?_;exact⟨l.length-(i+1),by omega,i+1,by omega,rfl,rfl,rfl,t.trans I,n⟩
   ·intro Q I C A;refine Y10 ?_;exact J2 (λz D=>(I.log z D).elim (g z) id) rfl C A
  ·rw[decide_eq_false hy0]at L;rw[if_neg hy0,oC]at b;rw[←b]at j;refine Y33 ?_;exact⟨l.length-(i+1),by omega,i+1,by omega,rfl,rfl,rfl,t,j⟩
 ·obtain rfl:i=l.length:=by omega
  have E:an .lss (.int .i64 (l.length:Nat)) (.int .i64 (l.length:Nat))=some (.bool false):=eM (by omega);refine Y9 ?_;exact J1 g rfl j
theorem tA(F:sF T)(hr:Rdy h){L ov:Value}(b:QuH h q m w M L ov l os ns)(y:f.length=8):
 Pu T 32 [.pointer (some ⟨q,0,none⟩),fV f] h (.tuple #[.bool (bsB w (l.zip f)), .bool (eG w l ns f)]):=by
 refine .of F.qu.p F.f108 hr rfl ?_;have B:=gu f;have E:Ext h (h.push (.cells (cellsOf (fV f)) true 1)):=(Ext.refl h).push _;have J:(h.push (.cells (cellsOf (fV f)) true 1)).get h.next=some (.cells (fL f) true 1):=by rw[B];exact z3 h _
 have n0:(h.push (.cells (cellsOf (fV f)) true 1)).next=h.next+1:=rfl
 refine Y5 ?_;generalize(h.push (.cells (cellsOf (fV f)) true 1))=H at*;have W:=E.wf hr.wf;have V:=E.log.trans hr.log;have x:=b.ext hr.wf E;have S:=hr.wf.bP b.gq;have ar:=iE y;have aw:=fP y;have z:=b.hw;have G:=NY F.qu (h:={H with log:=[]}) (.of W) z x.gq (x.sp.log []) x.hl y;have d:IsS (bsS w.1 (l.zip f)):=tR z.a (yJ b.sp.ok);unfold eG;generalize bsB w (l.zip f)=can at*;generalize hbz:bsS w.1 (l.zip f)=s at*;have Y:=bR d.len;have Z:=cS d.len;have ae:=d.len;have A:=fK (h:=H) (base:=h.next) (by omega) (.cells (aR 8 (.int .u64 0)) true 1) (.cells (us s) true 1);have P:=gY (h:=H) (base:=h.next) (aR 8 (.int .u64 0)) (us s);have n3:((H.push (.cells (aR 8 (.int .u64 0)) true 1)).wr h.next H.next (.cells (us s) true 1)).next=H.next+1:=rfl
 refine Y4 ?_;refine FW.pu G ?_;clear G;refine Y4 ?_;refine aG (dg (by exact rfl) (by exact rfl) YG (by(simp only[aK];assumption)) (by exact rfl) (by exact dQ _)) ?_;refine Y2 ?_;generalize((H.push (.cells (aR 8 (.int .u64 0)) true 1)).wr h.next H.next (.cells (us s) true 1))=H2 at*;have N:=A.wf W;have n:=A.log.trans V;have u:=x.ext W A;have O:=(A.old _ (by omega)).trans J;obtain⟨a,c,C⟩:=u.so.sl.form;subst C;have Q:=u.gq;have ko:=Ro z M L (.slice a os.length c) (.map (some m));have X:=b.hol;clear J;cases can with
 |false=>
  refine Y12 ?_;exact au n rfl rfl
 |true=>
 refine Y18 ?_
 refine cT (λk e ds U=>∃i:Nat,i<=os.length/\k=os.length-i/\e=[(0, .pointer (some ⟨q,0,none⟩)),(3, .pointer (some ⟨h.next,0,none⟩)),(6, .pointer (some ⟨H.next,0,none⟩)),(20, .int .i64 (os.length:Nat)),(21, .int .i64 (i:Nat))]/\ds=[]/\H2=U∧(ns.take i).any (λr=>decide (y5 (l.zip f) s r=3))=false)
  ⟨0,md _,rfl,rfl,rfl,rfl,rfl⟩ ?_
 rintro k e ds _ ⟨i,hi,rfl,rfl,rfl,rfl,o⟩;by_cases hlt:i<os.length
 ·obtain⟨r,g⟩:∃r,ns[i]? =some r:=⟨ns[i]'(by rw[b.hns];exact hlt),bx _⟩;have D:an .lss (.int .i64 (i:Nat)) (.int .i64 (os.length:Nat))=some (.bool true):=dY (by omega);have I:=HD F.qu (h:={H2 with log:=[]}) (.of N) z u.gq (u.sp.log []) u.hl y d (u.sn.log []) (by rw[b.hns];exact b.hol) g (b.hrn r (eA g));have t:(ns.take (i+1)).any (λr=>decide (y5 (l.zip f) s r=3))=((ns.take i).any (λr=>decide (y5 (l.zip f) s r=3))||decide (y5 (l.zip f) s r=3)):=by rw[fU g,List.any_append];simp
  have v:decide (y5 (l.zip f) s r=3)=true->ns.any (λr=>decide (y5 (l.zip f) s r=3))=true:=λq=>List.any_eq_true.2 ⟨r,eA g,q⟩;rw[o,xc]at t;generalize y5 (l.zip f) s r=j at*;have K:an .eql (.int .u8 (j:Nat)) (.int .u8 3)=some (.bool (decide (j=3))):=zL (c:=3) rfl;cases hj:decide (j=3)with
  |true=>
   rw[hj]at K;rw[v hj];refine Y19 ?_;refine FW.pu I ?_;refine Y13 ?_;exact au n rfl rfl
  |false=>
   rw[hj]at K t;refine Y19 ?_;refine FW.pu I ?_;refine Y10 ?_;exact⟨os.length-(i+1),by omega,i+1,by omega,rfl,rfl,rfl,rfl,t⟩
 ·obtain rfl:i=os.length:=by omega
  have D:an .lss (.int .i64 (os.length:Nat)) (.int .i64 (os.length:Nat))=some (.bool false):=eM (by omega);rw[←b.hns,q9]at o;rw[o];refine Y15 ?_;exact au n rfl rfl
end Go.A.Pk
end
section
namespace Go.A.Pk
variable {T:Nat->Option aq}
section
open I
def G0:aN:=(I.R [M 10 32] [2,3,7,10])
def G8:aN:=(.block 1 (.draw [L 33 7,L 34 2,g 35 (.cg (t 34)),A 36 16 35,L 37 36,M 38 10,g 39 (.aQ 9 (t 37) (t 38)),A 40 8 39,L 41 40,L 42 2,N 43 8 3,M 44 10,g 45 (.call (.func 39) [(t 43),(t 44),(.const (.int .u8 1))]),g 46 (.call (.func 24) [(t 42),(t 45)]),L 47 2,N 48 8 3,M 49 10,g 50 (.call (.func 39) [(t 48),(t 49),(.const (.int .u8 2))]),g 51 (.call (.func 24) [(t 47),(t 50)]),g 52 (.eF true [(t 46),(t 51)]),B 53 .add 41 52,g 54 (.eF false [(t 33),(t 53)]),S 1 7 54] [0,1,2,3,4,5,6,7,8,9,10,11,14,15,16,12,13,17,18,19,20,21,22] [0,0,2,6,14,0,62,126,254,0,0,0,3072,7680,0,0,0,114176,261632,523776,1048574,2097151,4194303] []))
end
theorem Sm(a b:Int):mi a b=min a b:=by unfold mi;split<;>omega
theorem Lb(a b:Int):mx a b=max a b:=by unfold mx;split<;>omega
def TW(m:Nat)(w:List Nat×List Nat)(l:List Pb)(ns:List (List (List Nat)))(f:List Nat)(v:Value)(h':Heap):Prop:=v= .int .i64 (bT w l ns f)/\∃mm,h'.get m=some (.map (fT mm))/\mc w l ns mm
structure FK (T:Nat->Option aq):Prop where
 op:sF T
 f128:T 24=some f128
variable{p:Nat}
theorem qy{l:List Pb}{x:Pb}(h:l[p]? =some x):dx l p=x.cost:=by
 unfold dx;rw[kK,h];rfl
variable{w:List Nat×List Nat}{nv ov pv:Value}{os:List (List Nat)}{ns:List (List (List Nat))}{f:List Nat}{b2 b3 y:Nat}
theorem IT(F:FK T){H:Heap}(hr:Rdy H){q m:Nat}{l:List Pb}(hc:∀p∈l,1<=p.cost/\p.cost<=1000)(k:QuH H q m w pv nv ov l os ns)(hf:f.length=8)
 {d:Nat}{fn:Value}{n0:Int}(gl:H.get y=some (.loop [(2, .pointer (some ⟨b2,0,none⟩)),(3, .pointer (some ⟨b3,0,none⟩)),(7, .pointer (some ⟨d,0,none⟩)),(31,fn)] [32] G0 G8 0 .normal))
 (J:H.get b2=some (.cells [.pointer (some ⟨q,0,none⟩)] true 1))(K:H.get b3=some (.cells (fL f) true 1))(L:H.get d=some (.cells [.int .i64 n0] true 1))(dT:b2≠d)(e9:b3≠d)(eK:q≠d)(cP:p<l.length)
 (IH:∀a,a=1∨a=2->∀{h:Heap},Rdy h->QuH h q m w pv nv ov l os ns->Gs T 24 [.pointer (some ⟨q,0,none⟩),fV (f.set p a)] h (λz=>z=m) (TW m w l ns (f.set p a))):
 FW T (.yield y) [.int .i64 (p:Nat)] H λr C=>(∀z∈C.log,z=m∨z=d∨z=y)/\(r= .ret (.bool true)/\((∀z,z<H.next->z≠m->z≠d->C.get z=H.get z)/\H.next<=C.next/\C.get d=some (.cells [.int .i64 (min n0 (dx l p+max (bT w l ns (f.set p 1)) (bT w l ns (f.set p 2))))] true 1)/\∃mm,C.get m=some (.map (fT mm))/\mc w l ns mm)∨r= .ret (.bool false)/\y∈C.log/\False):=by
 have kl:=hr.wf.bP gl;obtain⟨cY,j,ar⟩:=k.mem;have km:=hr.wf.bP j;have k2:=hr.wf.bP J;have k3:=hr.wf.bP K;have k7:=hr.wf.bP L;have kq:=hr.wf.bP k.gq;have dj:b2≠y:=λe=>by rw[e,gl]at J;cases J
 have dp:b3≠y:=λe=>by rw[e,gl]at K;cases K
 have P:d≠y:=λe=>by rw[e,gl]at L;cases L
 have G:m≠y:=λe=>by rw[e,gl]at j;cases j
 have aE:b2≠m:=λe=>by rw[e,j]at J;cases J
 have ba:b3≠m:=λe=>by rw[e,j]at K;cases K
 have Q:d≠m:=λe=>by rw[e,j]at L;cases L
 have du:q≠y:=λe=>by have:=k.gq;rw[e,gl]at this;cases this
 have dv:q≠m:=λe=>by have:=k.gq;rw[e,j]at this;cases this
 refine FW.NJ F.op.qu.p (.inl rfl) (R:=λC=>(∀z,z<H.next->z≠m->z≠d->C.get z=H.get z)/\H.next<=C.next/\C.get d=some (.cells [.int .i64 (min n0 (dx l p+max (bT w l ns (f.set p 1)) (bT w l ns (f.set p 2))))] true 1)/\∃mm,C.get m=some (.map (fT mm))/\mc w l ns mm) (S:=λ_=>False) (W:=λz=>z=m∨z=d∨z=y) gl rfl kl (.inr (.inr rfl)) ?_;unfold G0;refine Y2 ?_;refine bH ?_;refine y1 ?_;refine⟨rfl,gl,?_⟩;unfold G8;refine lF ?_;refine WE.vh ?_;intro D B;have I:∀z,z<H.next->z≠y->H.get z=D.get z:=λz A u=>by rw[B];exact(z5 u).symm
 have A2:D.get y=some (.loop [(2, .pointer (some ⟨b2,0,none⟩)),(3, .pointer (some ⟨b3,0,none⟩)),(7, .pointer (some ⟨d,0,none⟩)),(31,fn)] [32] G0 G8 1 .normal):=by rw[B];exact Heap.aI gl
 have A5:D.next=H.next:=by rw[B];rfl
 have A6:D.log=[]:=by rw[B,Heap.aD (by omega)];exact hr.log
 have A7:WF D:=by rw[B];exact hr.wf.as (AS.wr _ _ _ _)
 clear B;have a2:=(I b2 k2 dj).symm.trans J;have a3:=(I b3 k3 dp).symm.trans K;have a7:=(I d k7 P).symm.trans L;have am:=(I m km G).symm.trans j;have u:∀(b:Nat) vs E X,H.get b=some (.cells vs E X)->b≠y:=λb vs E X g e=>by rw[e,gl]at g;cases g
 have c:∀{X n:Nat} {v:Value} {cs:List Value},aJ H X v n cs->aJ D X v n cs:=λ{X n v cs} s=>by
  cases s with
  |nil=>exact .nil
  |mem s hc=>
   obtain⟨vs,E,t,u1,u2⟩:=s.obj;exact .mem ⟨by rw[A5];exact s.lt,⟨vs,E,t,(I _ s.lt (u _ _ _ _ u1)).symm.trans u1,u2⟩,s.len⟩ hc
 have QA:QuH D q m w pv nv ov l os ns:=by
  obtain⟨bi,s1,s2⟩:=k.sn.ex;exact⟨k.hw,(I q kq du).symm.trans k.gq,⟨c k.sp.sl,k.sp.ok⟩,k.hl,⟨c k.so.sl,k.so.ok⟩,k.hol,⟨bi,c s1,λi r hi=>by
   obtain⟨v,hv,sv⟩:=s2 i r hi;exact⟨v,hv,⟨c sv.sl,sv.ok⟩⟩⟩,k.hns,k.hrn,⟨cY,am,ar⟩⟩
 clear c u J K L j;obtain⟨x,hx⟩:∃x,l[p]? =some x:=⟨l[p],bx cP⟩;have eh:=k.hl;have aw:p<8:=by omega
 obtain⟨b,o,cp,vs,E,tt,cX,gb,cd,bj⟩:=QA.sp.elem hx;subst cX;have O:=qy hx;have eg:=hc x (eA hx);have kc:=bj.cost;have hw:=k.hw;have bo:=QA.gq;have kp:=rq hw (.slice (some ⟨b,o,none⟩) l.length cp) nv ov (.map (some m));have eQ:=iE hf;have f0:=fP hf;have hc0:∀p∈l,0<=p.cost:=λp hp=>by have:=(hc p hp).1;omega
 have v1:=gN (w:=w) (ns:=ns) hc0 (f.set p 1);have v2:=gN (w:=w) (ns:=ns) hc0 (f.set p 2);have dE:an .add (.int .i64 x.cost) (.int .i64 (mx (bT w l ns (f.set p 1)) (bT w l ns (f.set p 2))))=some (.int .i64 (x.cost+mx (bT w l ns (f.set p 1)) (bT w l ns (f.set p 2)))):=by
  have:mx (bT w l ns (f.set p 1)) (bT w l ns (f.set p 2))<=100000/\0<=mx (bT w l ns (f.set p 1)) (bT w l ns (f.set p 2)):=by unfold mx;split<;>omega
  exact jM (bO (by omega) (by omega))
 have C1:=kN F.op (h:={D with log:=[]}) (.of A7) hf aw (a:=1);have I1:=IH 1 (.inl rfl) (h:={D with log:=[]}) (.of A7) (QA.log []);have f8:b≠d∨b=d:=by omega
 refine Y17 ?_;refine FW.puD C1 (by apply ah rfl (af rfl (dD (by exact rfl)) (by exact bY _ _)) rfl;apply ah rfl (af rfl (di (by exact rfl) (by assumption) (by assumption) (by assumption)) (by exact yg _)) rfl;apply ah rfl (af rfl (bJ (by exact rfl) (by assumption) (by exact rfl)) (by exact aV _)) rfl;(repeat apply aC rfl);apply ah rfl (af rfl (bJ (by exact rfl) (by assumption) (by exact rfl)) (by exact aV _)) rfl;apply ah rfl (af rfl (bJ (by exact rfl) (by assumption) (by assumption)) (by exact bY _ _)) rfl;apply ah rfl (af rfl (cN (by exact rfl)) (by exact aV _)) rfl;apply ah rfl (af rfl (fW (by exact rfl) (by exact rfl) (by omega)) (by exact aV _)) rfl;apply ah rfl (af rfl (dD (by exact rfl)) (by exact bY _ _)) rfl;apply ah rfl (af rfl (bJ (by exact rfl) (by assumption) (by assumption)) (by exact eH _ _ _)) rfl;apply ah rfl (af rfl (cN (by exact rfl)) (by exact aV _)) rfl;apply ah rfl (af rfl (iw (by exact rfl)) (by exact aV _)) rfl;apply ah rfl (af rfl (bJ (by exact rfl) (by assumption) (by exact rfl)) (by exact aV _)) rfl;apply ah rfl (af rfl (bJ (by exact rfl) (by assumption) (by exact rfl)) (by exact bY _ _)) rfl;exact aY) ?_;clear C1;skip;refine qC ?_;refine FW.gsD I1 (λv h' lg q=>q) ?_;clear I1;rintro _ M lg xB eI ⟨rfl,d9,Y,cj⟩;have nB:=xB.next
 have U:∀z,z<D.next->z≠m->M.get z=D.get z:=λz A u=>xB.old z A u
 have WB:=xB.wf A7;have QB:QuH M q m w (.slice (some ⟨b,o,none⟩) l.length cp) nv ov l os ns:=QA.keep A7 nB U ⟨d9,Y,cj⟩;have c2:=(U b2 (by omega) aE).trans a2;have c3:=(U b3 (by omega) ba).trans a3;have c7:=(U d (by omega) Q).trans a7;have cq:=QB.gq;have be:b≠m:=λe=>by rw[e,am]at gb;cases gb
 have cb:=(U b cd be).trans gb;have cf:∀z∈M.log,z=m:=λz A=>(xB.log z A).elim (λq=>by rw[A6]at q;cases q) id;have C2:=kN F.op (h:={M with log:=[]}) (.of WB) hf aw (a:=2);have I2:=IH 2 (.inr rfl) (h:={M with log:=[]}) (.of WB) (QB.log []);refine⟨_,by apply ah rfl (af rfl (dD (by exact rfl)) (by exact bY _ _)) rfl;apply ah rfl (af rfl (di (by exact rfl) (by assumption) (by assumption) (by assumption)) (by exact yg _)) rfl;apply ah rfl (af rfl (bJ (by exact rfl) (by assumption) (by exact rfl)) (by exact aV _)) rfl;apply aC rfl;apply ah rfl (af rfl (bJ (by exact rfl) (by assumption) (by assumption)) (by exact bY _ _)) rfl;apply ah rfl (af rfl (cN (by exact rfl)) (by exact aV _)) rfl;apply ah rfl (af rfl (fW (by exact rfl) (by exact rfl) (by omega)) (by exact aV _)) rfl;apply ah rfl (af rfl (dD (by exact rfl)) (by exact bY _ _)) rfl;apply ah rfl (af rfl (bJ (by exact rfl) (by assumption) (by assumption)) (by exact eH _ _ _)) rfl;apply ah rfl (af rfl (cN (by exact rfl)) (by exact aV _)) rfl;apply ah rfl (af rfl (iw (by exact rfl)) (by exact aV _)) rfl;apply ah rfl (af rfl (bJ (by exact rfl) (by assumption) (by exact rfl)) (by exact aV _)) rfl;apply ah rfl (af rfl (bJ (by exact rfl) (by assumption) (by exact rfl)) (by exact bY _ _)) rfl;exact aY,?_⟩;clear a2 a3 a7 bo gb;skip;refine qC ?_;refine FW.puD C2 (by(repeat apply aC rfl);apply ah rfl (af rfl (bJ (by exact rfl) (by assumption) (by exact rfl)) (by exact aV _)) rfl;apply ah rfl (af rfl (bJ (by exact rfl) (by assumption) (by assumption)) (by exact bY _ _)) rfl;apply ah rfl (af rfl (cN (by exact rfl)) (by exact aV _)) rfl;apply ah rfl (af rfl (fW (by exact rfl) (by exact rfl) (by omega)) (by exact aV _)) rfl;apply ah rfl (af rfl (dD (by exact rfl)) (by exact bY _ _)) rfl;apply ah rfl (af rfl (bJ (by exact rfl) (by assumption) (by assumption)) (by exact eH _ _ _)) rfl;apply ah rfl (af rfl (cN (by exact rfl)) (by exact aV _)) rfl;apply ah rfl (af rfl (iw (by exact rfl)) (by exact aV _)) rfl;apply ah rfl (af rfl (bJ (by exact rfl) (by assumption) (by exact rfl)) (by exact aV _)) rfl;apply ah rfl (af rfl (bJ (by exact rfl) (by assumption) (by exact rfl)) (by exact bY _ _)) rfl;exact aY) ?_;clear C2;skip;refine qC ?_;refine FW.gsD I2 (λv h' lg q=>q) ?_;clear I2;rintro _ hC f7 xC dC ⟨rfl,da,Z,cJ⟩;have nC:=xC.next
 have V:∀z,z<M.next->z≠m->hC.get z=M.get z:=λz A u=>xC.old z A u
 have WC:=xC.wf WB;have d2:=(V b2 (by omega) aE).trans c2;have d3:=(V b3 (by omega) ba).trans c3;have d7:=(V d (by omega) Q).trans c7;have dq:=(V q (by omega) dv).trans cq;have db:=(V b (by omega) be).trans cb;have dl:=(V y (by omega) (Ne.symm G)).trans ((U y (by omega) (Ne.symm G)).trans A2);have ci:∀z∈hC.log,z=m:=λz A=>(xC.log z A).elim (cf z) id;refine⟨_,by apply aC rfl;apply ah rfl (af rfl (bJ (by exact rfl) (by assumption) (by assumption)) (by exact bY _ _)) rfl;apply ah rfl (af rfl (cN (by exact rfl)) (by exact aV _)) rfl;apply ah rfl (af rfl (fW (by exact rfl) (by exact rfl) (by omega)) (by exact aV _)) rfl;apply ah rfl (af rfl (dD (by exact rfl)) (by exact bY _ _)) rfl;apply ah rfl (af rfl (bJ (by exact rfl) (by assumption) (by assumption)) (by exact eH _ _ _)) rfl;apply ah rfl (af rfl (cN (by exact rfl)) (by exact aV _)) rfl;apply ah rfl (af rfl (iw (by exact rfl)) (by exact aV _)) rfl;apply ah rfl (af rfl (bJ (by exact rfl) (by assumption) (by exact rfl)) (by exact aV _)) rfl;apply ah rfl (af rfl (bJ (by exact rfl) (by assumption) (by exact rfl)) (by exact bY _ _)) rfl;exact aY,?_⟩;clear c2 c3 c7 cq cb;refine aO rfl rfl rfl (by exact rfl) (by exact rfl) (by exact rfl) (uF (by exact rfl) (by exact rfl)) ?_;refine qW ?_;refine aO rfl rfl rfl (by exact rfl) (by exact rfl) (by exact rfl) (rC (by exact rfl) (by exact rfl)) ?_;refine iC rfl rfl rfl (by exact rfl) (by exact rfl) (by exact rfl) d7 (by exact rfl) (by exact rfl) (show d<hC.next by omega) (by(repeat apply aC rfl);exact aY) ?_;refine Y3 ?_;refine⟨⟨_,(z5 (Ne.symm P)).trans dl,rfl⟩,λz A=> ?_, .inl ⟨rfl,λh5 eJ N ae=>⟨λz A h1 h2=> ?_,by omega,?_,da,?_,cJ⟩⟩⟩
 ·rcases dy A with rfl|A
  ·exact .inr (.inl rfl)
  ·exact .inl (ci z A)
 ·by_cases hzl:z=y
  ·subst hzl;exact ae.trans gl.symm
  ·exact(N z A hzl).trans ((z5 h2).trans ((V z (by omega) h1).trans ((U z (by omega) h1).trans (I z A hzl).symm)))
 ·rw[N d k7 P,O,←Lb,←Sm]
  (simp(disch:=first|omega|(simp only[z1,z2];omega))only[z3,z4,z5,z6,z7,z1,z2,gl,A2,am,Y,Z,d2,d3,d7,dq,db,dl,ae];exact rfl)
 ·exact(N m km G).trans ((z5 (Ne.symm Q)).trans Z)
structure NO (N m nb:Nat) (w:List Nat×List Nat) (l:List Pb) (ns:List (List (List Nat))) (H0:Heap) (L:bM) (g:Nat->Int) (done:List Nat) (H:Heap):Prop where
 old:∀z,z<N->z≠m->z≠nb->H.get z=H0.get z
 n:H.get nb=some (.cells [.int .i64 (mnF g done 100000)] true 1)
 mem:∃mm,H.get m=some (.map (fT mm))/\mc w l ns mm
 loop:H.get N=some L
 nx:N<H.next
theorem mI(F:FK T){q m:Nat}{l:List Pb}(hc:∀p∈l,1<=p.cost/\p.cost<=1000):∀(k:Nat) {h:Heap},Rdy h->QuH h q m w pv nv ov l os ns->∀{f:List Nat},f.length=8->(bG l.length f).length<=k→
 Gs T 24 [.pointer (some ⟨q,0,none⟩),fV f] h (λz=>z=m) (TW m w l ns f):=by
 intro k;induction k using Nat.strongRecOn with
 |ind k ih=>
 intro h I A f y hk;obtain⟨r,gm,o⟩:=A.mem;have km:=I.wf.bP gm;have kq:=I.wf.bP A.gq;refine Gs.of F.op.qu.p F.f128 (λv h1 h2 _ hn ha ⟨e,r,g,hm⟩=>⟨e,r,(ha m km).trans g,hm⟩) ?_;have da:=gu f;have x0:Ext h ((h.push (.cells (cellsOf (.pointer (some ⟨q,0,none⟩))) true 1)).push (.cells (cellsOf (fV f)) true 1)):=((Ext.refl h).push _).push _;have g2:((h.push (.cells (cellsOf (.pointer (some ⟨q,0,none⟩))) true 1)).push (.cells (cellsOf (fV f)) true 1)).get h.next=some (.cells [.pointer (some ⟨q,0,none⟩)] true 1):=(z4 (go _)).trans (z3 h _)
 have g3:((h.push (.cells (cellsOf (.pointer (some ⟨q,0,none⟩))) true 1)).push (.cells (cellsOf (fV f)) true 1)).get (h.next+1)=some (.cells (fL f) true 1):=by rw[←da];exact z3 _ _
 have n0:((h.push (.cells (cellsOf (.pointer (some ⟨q,0,none⟩))) true 1)).push (.cells (cellsOf (fV f)) true 1)).next=h.next+2:=rfl
 refine Y5 ?_;generalize((h.push (.cells (cellsOf (.pointer (some ⟨q,0,none⟩))) true 1)).push (.cells (cellsOf (fV f)) true 1))=H at*;have ci:(h.push (.cells (cellsOf (.pointer (some ⟨q,0,none⟩))) true 1)).next=h.next+1:=rfl
 rw[ci];clear ci;have W:=x0.wf I.wf;have hL:=x0.log.trans I.log;have QH:=A.ext I.wf x0;have cY:=QH.gq;have B:=(x0.old m km).trans gm;have hw:=A.hw;have eK:=VO hw pv nv ov (.map (some m));have eI:=iE y;have eJ:=fP y;have h8:∀x∈r,x.1.length=8:=λx hx=>(o x hx).1;have M:∀z∈H.log,z=m:=λz b=>by rw[hL]at b;cases b
 cases hfi:lu f 0 r with
 |some p=>
  obtain⟨j,v⟩:=p;have hv:v=bT w l ns f:=(o _ (zK hfi)).2;subst hv;refine Y8 ?_;refine aO rfl rfl rfl (by exact rfl) (by exact rfl) (by exact rfl) (FP (mm:=r) (f:=f) (by exact rfl) (by exact rfl) B y h8 (u:= .tuple #[.int .i64 (bT w l ns f), .bool true]) (by rw[hfi])) ?_;refine qM ?_;refine qE ?_;refine qE ?_;refine Y15 ?_;exact iy M rfl ⟨rfl,r,B,o⟩
 |none=>
 refine Y8 ?_;refine aO rfl rfl rfl (by exact rfl) (by exact rfl) (by exact rfl) (FP (mm:=r) (f:=f) (by exact rfl) (by exact rfl) B y h8 (u:= .tuple #[.int .i64 0, .bool false]) (by rw[hfi])) ?_;refine qM ?_;refine qE ?_;refine qE ?_;refine Y11 ?_;refine cI (E0:=[(2, .pointer (some ⟨h.next,0,none⟩)),(3, .pointer (some ⟨h.next+1,0,none⟩)),(7, .pointer (some ⟨H.next,0,none⟩))]) (P:=λC=>Ext H C∧C.next=H.next+1/\C.get H.next=some (.cells [.int .i64 0] true 1)) ?_ ?_
 ·refine Y3 ?_;refine bH ?_;refine y1 ?_;exact⟨rfl,rfl,rfl,fK (by omega) _ _,rfl,gY _ _⟩
 rintro H3 ⟨U,n3,g7⟩;have W3:=U.wf W;have bo:=U.log.trans hL;have Q3:=QH.ext W U;have cX:=Q3.gq;have ae:=(U.old _ (by omega)).trans g2;have aE:=(U.old _ (by omega)).trans g3;have E:=(U.old _ (by omega)).trans B;clear g2 g3 cY B;have Z:=tA F.op (h:={H3 with log:=[]}) (.of W3) (Q3.log []) y;have D:=qT (w:=w) (l:=l) (ns:=ns) (f:=f) (by have:=A.hl;omega);generalize bsB w (l.zip f)=can at*;cases ho:eG w l ns f with
 |false=>
  rw[ho]at Z D;have s:=o.put y;rw[D,if_neg (by simp)]at s;refine Y5 ?_;refine FW.pu Z ?_;clear Z;refine Y20 ?_;refine Ak (mm:=r) (f:=f) (n:=0) rfl rfl rfl (by exact rfl) (by exact rfl) (by exact rfl) (by exact rfl) E y h8 (by omega) (by(repeat apply aC rfl);exact aY) ?_;refine Y8 ?_;exact iy (λz b=>(dy b).elim id λq=>by rw[bo]at q;cases q) rfl ⟨by rw[D];rfl,_,Heap.aI E,s⟩
 |true=>
 rw[ho,if_pos rfl]at D;rw[ho]at Z;refine Y5 ?_;refine FW.pu Z ?_;clear Z;refine Y10 ?_;refine cI (E0:=[(2, .pointer (some ⟨h.next,0,none⟩)),(3, .pointer (some ⟨h.next+1,0,none⟩)),(7, .pointer (some ⟨H.next,0,none⟩))]) (P:=λC=>C.next=H.next+1/\C.log=[]/\WF C∧(∀z,z≠H.next->C.get z=H3.get z)/\C.get H.next=some (.cells [.int .i64 100000] true 1)) ?_ ?_
 ·refine Y2 ?_;refine bH ?_;refine y1 ?_;exact⟨rfl,rfl,rfl,n3,(Heap.aD (by omega)).trans bo,W3.as (AS.wr h.next _ _ _),λz b=>z5 b,Heap.aI g7⟩
 rintro t ⟨n4,d9,W4,o4,bi⟩;have dC:=x0.trans U;have cj:∀z,z<h.next->t.get z=h.get z:=λz b=>(o4 z (by omega)).trans (dC.old z b)
 have ar:=(o4 h.next (by omega)).trans ae;have ba:=(o4 (h.next+1) (by omega)).trans aE;have L:=(o4 m (by omega)).trans E;have Q4:QuH t q m w pv nv ov l os ns:=A.keep I.wf (by omega) (λz b _=>cj z b) ⟨r,L,o⟩;have C2:=AU F.op (h:={t with log:=[]}) (.of W4) (.pointer (some ⟨q,0,none⟩)) f rfl;clear ae aE E cX g7;refine Y4 ?_;refine FW.al C2 (λv C m q=>q) ?_;clear C2;rintro _ c X ⟨rfl,n5,J,K⟩;have n5:c.next=t.next+2:=n5
 have J:c.get t.next=some (.cells [.pointer (some ⟨q,0,none⟩)] true 1):=J
 have K:c.get (t.next+1)=some (.cells (fL f) true 1):=K;have W5:=X.wf W4;have cd:=X.log.trans d9;have aw:=(X.old _ (by omega)).trans ar;have be:=(X.old _ (by omega)).trans ba;have bj:=(X.old m (by omega)).trans L;have cP:=(X.old H.next (by omega)).trans bi;have Q:∀z,z<h.next->c.get z=h.get z:=λz b=>(X.old z (by omega)).trans (cj z b)
 clear ar ba L bi;have e9:m≠H.next:=by omega
 have eg:m<c.next:=by omega
 have dE:H.next<c.next:=by omega
 generalize hL0:(.loop [(2, .pointer (some ⟨h.next,0,none⟩)),(3, .pointer (some ⟨h.next+1,0,none⟩)),(7, .pointer (some ⟨H.next,0,none⟩)),(31, .func (.func 66) #[] #[.pointer (some ⟨t.next,0,none⟩), .pointer (some ⟨t.next+1,0,none⟩)])] [32] G0 G8 0 .normal:bM)=L0;have N:∀done Ha Hb,NO c.next m H.next w l ns c L0 (λp=>dx l p+max (bT w l ns (f.set p 1)) (bT w l ns (f.set p 2))) done Ha->c.next+1<=Hb.next->(∀x,x<c.next+1->Hb.get x=Ha.get x)->NO c.next m H.next w l ns c L0 (λp=>dx l p+max (bT w l ns (f.set p 1)) (bT w l ns (f.set p 2))) done Hb:=λdone Ha Hb p n e=>by
  obtain⟨O,u1,u2⟩:=p.mem;exact⟨λz b i1 i2=>(e z (by omega)).trans (p.old z b i1 i2),(e _ (by omega)).trans p.n,⟨O,(e m (by omega)).trans u1,u2⟩,(e _ (by omega)).trans p.loop,by omega⟩
 have Y:Ji .ret T (λz=>z=m∨z=H.next∨z=c.next) (c.next+1) c.next (λp=>[.int .i64 ((p:Nat):Int)]) (bG l.length f) (NO c.next m H.next w l ns c L0 (λp=>dx l p+max (bT w l ns (f.set p 1)) (bT w l ns (f.set p 2)))) (λ_=>False):=by
  refine⟨λdone p Hh hx dv hN i=> ?_,N,λ_ _ e=>e,λ_ e=>e.elim,λz b=>by omega⟩;obtain⟨dp,eh⟩:=fB.1 hx;have dT:=A.hl;have cJ:QuH Hh q m w pv nv ov l os ns:=A.keep I.wf (by omega) (λz b hm=>(i.old z (by omega) hm (by omega)).trans (Q z b)) i.mem;have cf:=i.loop;rw[←hL0]at cf;refine FW.mono' (IT F dv hc cJ y cf ((i.old _ (by omega) (by omega) (by omega)).trans aw) ((i.old _ (by omega) (by omega) (by omega)).trans be) i.n (by omega) (by omega) (by omega) dp λa ha C du Q'=>ih _ (hK (jm (by omega) (by omega) hx) hk) du Q' (by rw[lp];exact y) (bl _)) ?_;rintro r' H' ⟨r1,r2⟩;refine⟨r1,r2.imp (λ⟨e1,e2,e3,e4,e5⟩=>⟨e1,⟨λz b i1 i2=>(e2 z (by omega) i1 i2).trans (i.old z b i1 i2),?_,e5,(e2 _ i.nx (by omega) (by omega)).trans i.loop,hK i.nx e3⟩⟩) id⟩;rw[K9];exact e4
 refine Y2 ?_;refine Am (px:= .ret) (W:=λz=>z=m∨z=H.next∨z=c.next) (P:=NO c.next m H.next w l ns c L0 (λp=>dx l p+max (bT w l ns (f.set p 1)) (bT w l ns (f.set p 2))) (bG l.length f)) (S:=λ_=>False) rfl (by rfl) (by rw[F.op.f228];rfl) (by omega) W5 ?_ (λHh p=>by
  have:=p.loop;rw[←hL0]at this;exact⟨_,_,_,_,this⟩) (λ_ p=>p.elim) ?_ (λ_ _ _ _ _ _ _ _ p=>p.elim)
 ·have G:(.loop [(2, .pointer (some ⟨h.next,0,none⟩)),(3, .pointer (some ⟨h.next+1,0,none⟩)),(7, .pointer (some ⟨H.next,0,none⟩)),(31, .func (.func 66) #[] #[.pointer (some ⟨t.next,0,none⟩), .pointer (some ⟨t.next+1,0,none⟩)])] [32] G0 G8 0 .normal:bM)=L0:=hL0;unfold G0 G8 at G;rw[G];have x6:Ext c {c.push L0 with log:=[]}:=⟨ti _,by rw[cd],λz b=>z4 b,λwf=>(wf.push L0).log _⟩;have Q5:QuH c q m w pv nv ov l os ns:=A.keep I.wf (by omega) (λz b _=>Q z b) ⟨r,bj,o⟩;refine Gb F.op (h:={c.push L0 with log:=[]}) (.of (W5.push L0)) (Q5.ext W5 x6) y (b1:=t.next) (b2:=t.next+1) ((x6.old _ (by omega)).trans J) Y (bl _) (go _) (λd Hh p=>(p.old _ (by omega) (by omega) (by omega)).trans K) ⟨λz b _ _=>x6.old z b,(x6.old _ (by omega)).trans cP,⟨r,(x6.old m (by omega)).trans bj,o⟩,z3 _ _,go _⟩
 ·intro h4 h5 k1 k2 k3 k4 k5 k6 i;obtain⟨O,u1,u2⟩:=i.mem;have D2:=(k5 h.next (by omega)).trans ((i.old _ (by omega) (by omega) (by omega)).trans aw);have D3:=(k5 (h.next+1) (by omega)).trans ((i.old _ (by omega) (by omega) (by omega)).trans be);have D7:=(k5 H.next (by omega)).trans i.n;have Dm:=(k5 m (by omega)).trans u1;have Dq:=(k5 q (by omega)).trans ((i.old _ (by omega) (λe=>by have:=A.gq;rw[e,gm]at this;cases this) (by omega)).trans ((Q q kq).trans A.gq));have dj:∀z∈h5.log,z=m:=λz b=>by
   rcases k1 z b with e|⟨e,e2⟩
   ·rw[cd]at e;cases e
   ·omega
  have s:=u2.put y;rw[←D]at D7;generalize hV:bT w l ns f=V at*;refine Y10 ?_;refine Ak (mm:=O) (f:=f) (n:=V) rfl rfl rfl (by exact rfl) (by exact rfl) (by exact rfl) (by exact rfl) Dm y (λx hx=>(u2 x hx).1) (by omega) (by(repeat apply aC rfl);exact aY) ?_;refine Y8 ?_;exact iy (λz b=>(dy b).elim id (dj z)) rfl ⟨by rw[hV];rfl,_,Heap.aI Dm,s⟩
def opE(w:List Nat×List Nat)(l:List Pb)(os:List (List Nat)):Int:=if pe w l os≠0 then pe w l os else if th w=true then 82 else 0
theorem nR{l:List Pb}:opE w l os=0↔pe w l os=0/\th w=false:=by
 unfold opE;by_cases h1:pe w l os=0
 ·rw[if_neg (by simpa using h1)];cases th w<;>simp[h1]
 ·rw[if_pos h1];simp[h1]
theorem pE(w:List Nat×List Nat)(l:List Pb)(os:List (List Nat)):pz w l os=if opE w l os≠0 then(0,opE w l os)else if 100000<=bT w l (os.map (dR w)) z8 then(0,81)else(bT w l (os.map (dR w)) z8,0):=by
 unfold pz opE;by_cases h1:pe w l os=0
 ·have e:¬ (pe w l os≠0):=λq=>q h1;simp only[if_neg e];cases th w<;>simp
 ·simp only[if_pos h1]
def TT(h:Heap)(w:List Nat×List Nat)(pv ov:Value)(l:List Pb)(os:List (List Nat))(v:Value)(h':Heap):Prop:=
 (opE w l os≠0/\v= .tuple #[.pointer none, .int .i64 (opE w l os)])∨(opE w l os=0/\∃q m nv,v= .tuple #[.pointer (some ⟨q,0,none⟩), .int .i64 0]/\h.next<=m/\m<q/\QuH h' q m w pv nv ov l os (os.map (dR w))/\h'.get m=some (.map (fT [])))
structure zh (T:Nat->Option aq):Prop where
 va:FK T
 ak:QN T
 lk:QZ T
 f96:T 23=some f96
variable{h:Heap}
theorem pW(F:zh T)(hr:Rdy h)(hg:Tab h)(h2:0<h.next)(t:IsW w){Y:Value}{l:List Pb}(K:PbS h Y l)(hl:l.length<1000000){X:Value}(u:SsQ h X os)(j:os.length<1000000):
 Al T 23 [wV w,Y,X] h (TT h w Y X l os):=by
 have hp:=F.va.op.qu.p;refine .of hp F.f96 hr ?_ ?_
 ·rintro v h1 C (q|⟨_,q,m,I,rfl,_⟩)
  ·exact .inl q
  ·cases C
 have U:cellsOf (wV w)=wL w:=by show(wL w).toArray.toList=_;simp
 obtain⟨a,c,rfl⟩:=K.form;obtain⟨a3,c3,rfl⟩:=u.sl.form;have Q:∀b o m c,(.slice a3 os.length c3:Value)= .slice (some ⟨b,o,none⟩) m c->b<h.next:=λb o m c e=>by
  rcases aJ.inv u.sl with⟨_,C,_⟩|⟨b',o',cap,C,s1,_⟩
  ·rw[C]at e;cases e
  ·rw[C]at e;cases e;exact s1.lt
 have D:Ext h (h.push (.cells (cellsOf (wV w)) true 1)):=(Ext.refl h).push _;have g0:(h.push (.cells (cellsOf (wV w)) true 1)).get h.next=some (.cells (wL w) true 1):=by rw[U];exact z3 h _
 have n0:(h.push (.cells (cellsOf (wV w)) true 1)).next=h.next+1:=rfl
 refine Y5 ?_;generalize(h.push (.cells (cellsOf (wV w)) true 1))=H at*;have W:=D.wf hr.wf;have hL:=D.log.trans hr.log;have wk:=oN t;have ba:=kM t;have Z:=JG F.ak (h:={H with log:=[]}) (.of W) t ((K.ext D).log []) hl ((u.ext D).log []) j;unfold TT opE;have i:=j4 (w:=w) (l:=l) (os:=os);generalize pe w l os=er at*;refine Y5 ?_;refine FW.al Z (λv h' m q=>q) ?_;clear Z;rintro _ k E (⟨G,rfl⟩|⟨rfl,q,m,rfl,B,S,aE,gq,gm⟩)
 ·simp only[if_pos G];have g:=E.log.trans hL;have V:an .eql (.int .i64 er) (.int .i64 0)=some (.bool false):=iH G;have mn:an .neq (.int .i64 er) (.int .i64 0)=some (.bool true):=jc G;refine Y31 ?_;exact dG g rfl (.inl ⟨G,rfl⟩)
 simp only[if_neg (show¬ ((0:Int)≠0)from λq=>q rfl)];obtain⟨_,ae,ar,P,_⟩:=i.1 rfl;clear i;have B:H.next<=m:=B
 have f:=D.trans E;have M:=f.wf hr.wf;have g:=E.log.trans hL;have n1:=E.next
 have aw:=(E.old _ (by omega)).trans g0;have y:=Sl F.ak.ne (h:={k with log:=[]}) (.of M) t;have V:an .eql (.int .i64 0) (.int .i64 0)=some (.bool true):=rfl;cases hm:th w with
 |true=>
  rw[hm]at y;have mn:an .neq (.int .i64 82) (.int .i64 0)=some (.bool true):=rfl;refine Y15 ?_;refine FW.pu y ?_;refine Y19 ?_;exact dG g rfl (.inl ⟨by decide,rfl⟩)
 |false=>
 rw[hm]at y;have mn:an .neq (.int .i64 0) (.int .i64 0)=some (.bool false):=rfl;have C5:=OK F.lk (h:={k with log:=[]}) (.of M) (show Tab k from hg.ext f h2) (by show 0<k.next;omega) (q:=q) (by omega) t gq ((u.ext f).log []) j (λb o m c e=>by have:=Q b o m c e;omega);refine Y15 ?_;refine FW.pu y ?_;clear y;refine Y16 ?_;refine FW.gs0 C5 (λv h' m q=> ?_) (λz hz=>by omega) ?_
 ·obtain⟨o5,I,q1,q2⟩:=q;exact⟨o5,I,q1,q2.log m⟩
 rintro _ L n4 l4 _ w4 ⟨J,I,N,sn⟩;clear C5;have J:∀z,z<k.next->z≠q->L.get z=k.get z:=J
 have W4:=w4 M;have O:=l4.trans g;have d:∀{sz n:Nat} {v:Value} {cs:List Value},aJ h sz v n cs->aJ L sz v n cs:=λs=>aJ.uO s (by omega) λz hz=>(J z (by omega) (by omega)).trans (f.old z hz);have A:L.get m=some (.map (fT [])):=(J m (by omega) (by omega)).trans gm;refine Y7 ?_;refine dG O rfl (.inr ⟨rfl,q,m,I,rfl,by omega,S,⟨t,N,⟨d K.sl,K.ok⟩,P,⟨d u.sl,u.ok⟩,j,sn,by rw[po],λr hr=> ?_,[],A,λx hx=>by cases hx⟩,A⟩);obtain⟨o,_,rfl⟩:=List.mem_map.1 hr;exact sh (HN w o) (by decide)
structure QX (T:Nat->Option aq):Prop where
 od:zh T
 f39:T 7=some f39
theorem RN(F:QX T)(hr:Rdy h)(M:Tab h)(L:0<h.next)(r:IsW w){C:Value}{l:List Pb}(E:PbS h C l)(N:l.length<1000000){B:Value}(D:SsQ h B os)(n:os.length<1000000):
 Pu T 7 [wV w,C,B] h (.tuple #[.int .i64 (pz w l os).1, .int .i64 (pz w l os).2]):=by
 have O:=F.od.va.op.qu.p;refine .of O F.f39 hr rfl ?_;have s:cellsOf (wV w)=wL w:=by show(wL w).toArray.toList=_;simp
 obtain⟨a,c,rfl⟩:=E.form;obtain⟨Y,Z,rfl⟩:=D.sl.form;have k:Ext h (h.push (.cells (cellsOf (wV w)) true 1)):=(Ext.refl h).push _;have g0:(h.push (.cells (cellsOf (wV w)) true 1)).get h.next=some (.cells (wL w) true 1):=by rw[s];exact z3 h _
 have n0:(h.push (.cells (cellsOf (wV w)) true 1)).next=h.next+1:=rfl
 refine Y5 ?_;generalize(h.push (.cells (cellsOf (wV w)) true 1))=H at*;have W:=k.wf hr.wf;have y:=k.log.trans hr.log;have wk:=oN r;have U:=kM r;have u:=pW F.od (h:={H with log:=[]}) (.of W) (show Tab H from M.ext k L) (by show 0<H.next;omega) r ((E.ext k).log []) N ((D.ext k).log []) n;rw[pE];refine Y5 ?_;refine FW.al u (λv K m q=> ?_) ?_
 ·rcases q with q|⟨e,q,m',A,e1,e2,e3,e4,e5⟩
  ·exact .inl q
  ·exact .inr ⟨e,q,m',A,e1,e2,e3,e4.log m,e5⟩
 clear u;rintro _ G t (⟨g,rfl⟩|⟨g,q,m,A,rfl,i,P,I,gm⟩)
 ·rw[if_pos g];generalize opE w l os=er at*;have b:=t.log.trans y;have S:an .neq (.int .i64 er) (.int .i64 0)=some (.bool true):=jc g;refine Y19 ?_;exact au b rfl rfl
 rw[if_neg (λq=>q g)];have i:H.next<=m:=i
 have J:=t.wf W;have b:=t.log.trans y;have S:an .neq (.int .i64 0) (.int .i64 0)=some (.bool false):=rfl;have o:=qP (j4.1 (nR.1 g).1).2.2.2.2;have x:=mI F.od.va o _ (h:={G with log:=[]}) (.of J) (I.log []) (f:=z8) rfl (bl _);generalize hV:bT w l (os.map (dR w)) z8=V at*;have j:an .geq (.int .i64 V) (.int .i64 100000)=some (.bool (decide (100000<=V))):=tg;refine Y18 ?_;refine FW.gs0 x (λv K m q=>q) (λz hz=>by omega) ?_;clear x;rintro _ X n2 Q _ w2 ⟨rfl,_⟩;have d:=Q.trans b;rw[hV];by_cases hge:100000<=V
 ·rw[decide_eq_true hge]at j;rw[if_pos hge];refine Y14 ?_;exact au d rfl rfl
 ·rw[decide_eq_false hge]at j;rw[if_neg hge];refine Y16 ?_;exact au d rfl rfl
theorem qh{f:Nat}{a c:Array Value}(h1:jX a.toList a.toList=true)(b:jX c.toList c.toList=true):iL (.func (.func f) a c) (.func (.func f) a c)=true:=by
 simp only[iL,h1,b];simp
def cmZ(a b:Int):Int:=if a<b then -1 else if b<a then 1 else 0
structure zf (T:Nat->Option aq):Prop where
 va:FK T
 f148:T 38=some f148
 f150:T 40=some f150
 f151:T 41=some f151
 f152:T 42=some f152
 f229:T 67=some f229
theorem Ls(F:zf T)(hr:Rdy h)(k:Int):Pu T 67 [.int .i64 k] h (.bool false):=by
 refine .of F.va.op.qu.p F.f229 hr rfl ?_;have m:an .neq (.int .i64 k) (.int .i64 k)=some (.bool false):=oD rfl;refine Y10 ?_;exact au hr.log rfl rfl
theorem Od(F:zf T)(hr:Rdy h)(a b:Int):Pu T 42 [.int .i64 a, .int .i64 b] h (.int .i64 (cmZ a b)):=by
 refine .of F.va.op.qu.p F.f152 hr rfl ?_;have c:=Ls F (h:={h with log:=[]}) (.of hr.wf) a;have d:=Ls F (h:={h with log:=[]}) (.of hr.wf) b;unfold cmZ;by_cases h1:a<b
 ·have e:an .lss (.int .i64 a) (.int .i64 b)=some (.bool true):=dY h1;rw[if_pos h1];refine Y6 ?_;refine FW.pu c ?_;refine Y5 ?_;refine FW.pu d ?_;refine Y28 ?_;exact au hr.log rfl rfl
 ·have e:an .lss (.int .i64 a) (.int .i64 b)=some (.bool false):=eM (by omega);rw[if_neg h1];by_cases h2:b<a
  ·have f:an .gtr (.int .i64 a) (.int .i64 b)=some (.bool true):=fM h2;rw[if_pos h2];refine Y6 ?_;refine FW.pu c ?_;refine Y5 ?_;refine FW.pu d ?_;refine Y37 ?_;exact au hr.log rfl rfl
  ·have f:an .gtr (.int .i64 a) (.int .i64 b)=some (.bool false):=gZ (by omega);rw[if_neg h2];refine Y6 ?_;refine FW.pu c ?_;refine Y5 ?_;refine FW.pu d ?_;refine Y38 ?_;exact au hr.log rfl rfl
def vfV(q:Nat):Value:= .func (.func 24) #[.pointer (some ⟨q,0,none⟩)] #[]
def Ru(m:Nat)(w:List Nat×List Nat)(l:List Pb)(ns:List (List (List Nat)))(u:Value)(v:Value)(h':Heap):Prop:=v=u/\∃mm,h'.get m=some (.map (fT mm))/\mc w l ns mm
variable{b1:Nat}
theorem Ec(F:zf T)(hr:Rdy h){q m:Nat}{l:List Pb}(A:∀p∈l,1<=p.cost/\p.cost<=1000)(d:QuH h q m w pv nv ov l os ns)(s:f.length=8)
 (t:h.get b1=some (.cells [.pointer (some ⟨q,0,none⟩)] true 1))(r:h.get b2=some (.cells [vfV q] true 1))(u:h.get b3=some (.cells (fL f) true 1))(V:p<l.length):
 Gs T 38 [.int .i64 (p:Nat), .pointer (some ⟨b1,0,none⟩), .pointer (some ⟨b2,0,none⟩), .pointer (some ⟨b3,0,none⟩)] h (λz=>z=m) (Ru m w l ns (.int .i64 (ei w l ns f p))):=by
 obtain⟨cf,c,aw⟩:=d.mem;have km:=hr.wf.bP c;refine Gs.of F.va.op.qu.p F.f148 (λv h1 h2 _ hn ha ⟨e,mm,g,hm⟩=>⟨e,mm,(ha m km).trans g,hm⟩) ?_;have k1:=hr.wf.bP t;have k2:=hr.wf.bP r;have k3:=hr.wf.bP u;have kq:=hr.wf.bP d.gq;have C:b1≠m:=λe=>by rw[e,c]at t;cases t
 have D:b2≠m:=λe=>by rw[e,c]at r;cases r
 have E:b3≠m:=λe=>by rw[e,c]at u;cases u
 obtain⟨x,Y⟩:∃x,l[p]? =some x:=⟨l[p],bx V⟩;have be:=d.hl;have B:p<8:=by omega
 obtain⟨b,o,cp,vs,ci,tt,W,K,O,M⟩:=d.sp.elem Y;subst W;have j:=qy Y;have ba:=A x (eA Y);have kc:=M.cost;have hw:=d.hw;have gq:=d.gq;have kp:=rq hw (.slice (some ⟨b,o,none⟩) l.length cp) nv ov (.map (some m));have bj:=iE s;have bo:=fP s;have v1:=gN (w:=w) (ns:=ns) (hc0 A) (f.set p 1);have v2:=gN (w:=w) (ns:=ns) (hc0 A) (f.set p 2);have X:ei w l ns f p=x.cost+mx (bT w l ns (f.set p 1)) (bT w l ns (f.set p 2)):=by unfold ei;rw[j,Lb]
 have aE:an .add (.int .i64 x.cost) (.int .i64 (mx (bT w l ns (f.set p 1)) (bT w l ns (f.set p 2))))=some (.int .i64 (x.cost+mx (bT w l ns (f.set p 1)) (bT w l ns (f.set p 2)))):=by
  have:mx (bT w l ns (f.set p 1)) (bT w l ns (f.set p 2))<=100000/\0<=mx (bT w l ns (f.set p 1)) (bT w l ns (f.set p 2)):=by unfold mx;split<;>omega
  exact jM (bO (by omega) (by omega))
 have C1:=kN F.va.op (h:={h with log:=[]}) (.of hr.wf) s B (a:=1);have I1:=mI F.va A _ (h:={h with log:=[]}) (.of hr.wf) (d.log []) (f:=f.set p 1) (by rw[lp];exact s) (bl _);unfold vfV at r;rw[X];refine Y20 ?_;refine FW.puD C1 (by apply ah rfl (af rfl (dD (by exact rfl)) (by exact bY _ _)) rfl;apply ah rfl (af rfl (di (by exact rfl) (by assumption) (by assumption) (by assumption)) (by exact yg _)) rfl;apply ah rfl (af rfl (bJ (by exact rfl) (by assumption) (by exact rfl)) (by refine qh ?_ ?_;refine bI (dL _) ?_;exact gI;exact gI)) rfl;(repeat apply aC rfl);apply ah rfl (af rfl (bJ (by exact rfl) (by assumption) (by exact rfl)) (by refine qh ?_ ?_;refine bI (dL _) ?_;exact gI;exact gI)) rfl;apply ah rfl (af rfl (bJ (by exact rfl) (by assumption) (by assumption)) (by exact bY _ _)) rfl;apply ah rfl (af rfl (cN (by exact rfl)) (by exact aV _)) rfl;apply ah rfl (af rfl (fW (by exact rfl) (by exact rfl) (by omega)) (by exact aV _)) rfl;apply ah rfl (af rfl (dD (by exact rfl)) (by exact bY _ _)) rfl;apply ah rfl (af rfl (bJ (by exact rfl) (by assumption) (by assumption)) (by exact eH _ _ _)) rfl;apply ah rfl (af rfl (cN (by exact rfl)) (by exact aV _)) rfl;apply ah rfl (af rfl (iw (by exact rfl)) (by exact aV _)) rfl;apply ah rfl (af rfl (bJ (by exact rfl) (by assumption) (by exact rfl)) (by exact aV _)) rfl;exact aY) ?_;clear C1;skip;refine qC ?_;refine FW.gsD I1 (λv h' lg q=>q) ?_;clear I1;rintro _ i lg L bi ⟨rfl,Z,y,S⟩;have nB:=L.next
 have H:∀z,z<h.next->z≠m->i.get z=h.get z:=λz n k=>L.old z n k
 have WB:=L.wf hr.wf;have QB:QuH i q m w (.slice (some ⟨b,o,none⟩) l.length cp) nv ov l os ns:=d.keep hr.wf nB H ⟨Z,y,S⟩;have c1:=(H b1 k1 C).trans t;have c2:=(H b2 k2 D).trans r;have c3:=(H b3 k3 E).trans u;have J:=QB.gq;have G:b≠m:=λe=>by rw[e,c]at K;cases K
 have cb:=(H b O G).trans K;have P:∀z∈i.log,z=m:=λz n=>(L.log z n).elim (λq=>by rw[hr.log]at q;cases q) id;have C2:=kN F.va.op (h:={i with log:=[]}) (.of WB) s B (a:=2);have I2:=mI F.va A _ (h:={i with log:=[]}) (.of WB) (QB.log []) (f:=f.set p 2) (by rw[lp];exact s) (bl _);refine⟨_,by apply ah rfl (af rfl (dD (by exact rfl)) (by exact bY _ _)) rfl;apply ah rfl (af rfl (di (by exact rfl) (by assumption) (by assumption) (by assumption)) (by exact yg _)) rfl;apply ah rfl (af rfl (bJ (by exact rfl) (by assumption) (by exact rfl)) (by refine qh ?_ ?_;refine bI (dL _) ?_;exact gI;exact gI)) rfl;apply aC rfl;apply ah rfl (af rfl (bJ (by exact rfl) (by assumption) (by assumption)) (by exact bY _ _)) rfl;apply ah rfl (af rfl (cN (by exact rfl)) (by exact aV _)) rfl;apply ah rfl (af rfl (fW (by exact rfl) (by exact rfl) (by omega)) (by exact aV _)) rfl;apply ah rfl (af rfl (dD (by exact rfl)) (by exact bY _ _)) rfl;apply ah rfl (af rfl (bJ (by exact rfl) (by assumption) (by assumption)) (by exact eH _ _ _)) rfl;apply ah rfl (af rfl (cN (by exact rfl)) (by exact aV _)) rfl;apply ah rfl (af rfl (iw (by exact rfl)) (by exact aV _)) rfl;apply ah rfl (af rfl (bJ (by exact rfl) (by assumption) (by exact rfl)) (by exact aV _)) rfl;exact aY,?_⟩;clear t r u gq K;skip;refine qC ?_;refine FW.puD C2 (by(repeat apply aC rfl);apply ah rfl (af rfl (bJ (by exact rfl) (by assumption) (by exact rfl)) (by refine qh ?_ ?_;refine bI (dL _) ?_;exact gI;exact gI)) rfl;apply ah rfl (af rfl (bJ (by exact rfl) (by assumption) (by assumption)) (by exact bY _ _)) rfl;apply ah rfl (af rfl (cN (by exact rfl)) (by exact aV _)) rfl;apply ah rfl (af rfl (fW (by exact rfl) (by exact rfl) (by omega)) (by exact aV _)) rfl;apply ah rfl (af rfl (dD (by exact rfl)) (by exact bY _ _)) rfl;apply ah rfl (af rfl (bJ (by exact rfl) (by assumption) (by assumption)) (by exact eH _ _ _)) rfl;apply ah rfl (af rfl (cN (by exact rfl)) (by exact aV _)) rfl;apply ah rfl (af rfl (iw (by exact rfl)) (by exact aV _)) rfl;apply ah rfl (af rfl (bJ (by exact rfl) (by assumption) (by exact rfl)) (by exact aV _)) rfl;exact aY) ?_;clear C2;skip;refine qC ?_;refine FW.gsD I2 (λv h' lg q=>q) ?_;clear I2;rintro _ hC cd xC ar ⟨rfl,ae,N,U⟩;have I:∀z,z<i.next->z≠m->hC.get z=i.get z:=λz n k=>xC.old z n k
 have d1:=(I b1 (by omega) C).trans c1;have d2:=(I b2 (by omega) D).trans c2;have d3:=(I b3 (by omega) E).trans c3;have dq:=(I q (by omega) (λe=>by rw[e,y]at J;cases J)).trans J;have db:=(I b (by omega) G).trans cb;have Q:∀z∈hC.log,z=m:=λz n=>(xC.log z n).elim (P z) id;refine⟨_,by apply aC rfl;apply ah rfl (af rfl (bJ (by exact rfl) (by assumption) (by assumption)) (by exact bY _ _)) rfl;apply ah rfl (af rfl (cN (by exact rfl)) (by exact aV _)) rfl;apply ah rfl (af rfl (fW (by exact rfl) (by exact rfl) (by omega)) (by exact aV _)) rfl;apply ah rfl (af rfl (dD (by exact rfl)) (by exact bY _ _)) rfl;apply ah rfl (af rfl (bJ (by exact rfl) (by assumption) (by assumption)) (by exact eH _ _ _)) rfl;apply ah rfl (af rfl (cN (by exact rfl)) (by exact aV _)) rfl;apply ah rfl (af rfl (iw (by exact rfl)) (by exact aV _)) rfl;apply ah rfl (af rfl (bJ (by exact rfl) (by assumption) (by exact rfl)) (by exact aV _)) rfl;exact aY,?_⟩;clear c1 c2 c3 J cb;refine aO rfl rfl rfl (by exact rfl) (by exact rfl) (by exact rfl) (uF (by exact rfl) (by exact rfl)) ?_;refine Y6 ?_;exact iy Q rfl ⟨rfl,ae,N,U⟩
def woV(b1 b2 b3:Nat):Value:= .func (.func 38) #[] #[.pointer (some ⟨b1,0,none⟩), .pointer (some ⟨b2,0,none⟩), .pointer (some ⟨b3,0,none⟩)]
variable{b9 x:Nat}
theorem Oc(F:zf T)(hr:Rdy h){q m:Nat}{Z X Y:Value}{l:List Pb}(Q:∀p∈l,1<=p.cost/\p.cost<=1000)(r:QuH h q m w Z X Y l os ns)(S:f.length=8)
 (c:h.get b1=some (.cells [.pointer (some ⟨q,0,none⟩)] true 1))(d:h.get b2=some (.cells [vfV q] true 1))(i:h.get b3=some (.cells (fL f) true 1))(b:h.get b9=some (.cells [woV b1 b2 b3] true 1))(hx:x<l.length)(hy:y<l.length):
 Gs T 41 [.int .i64 (x:Nat), .int .i64 (y:Nat), .pointer (some ⟨b9,0,none⟩)] h (λz=>z=m) (Ru m w l ns (.int .i64 (cmZ (ei w l ns f x) (ei w l ns f y)))):=by
 obtain⟨aw,a,V⟩:=r.mem;have km:=hr.wf.bP a;refine Gs.of F.va.op.qu.p F.f151 (λv h1 h2 _ hn ha ⟨e,mm,g,hm⟩=>⟨e,mm,(ha m km).trans g,hm⟩) ?_;have k1:=hr.wf.bP c;have k2:=hr.wf.bP d;have k3:=hr.wf.bP i;have k9:=hr.wf.bP b;have I:b1≠m:=λe=>by rw[e,a]at c;cases c
 have J:b2≠m:=λe=>by rw[e,a]at d;cases d
 have K:b3≠m:=λe=>by rw[e,a]at i;cases i
 have L:b9≠m:=λe=>by rw[e,a]at b;cases b
 have M:=Ec F (h:={h with log:=[]}) (.of hr.wf) Q (r.log []) S c d i hx;unfold woV at b;generalize ei w l ns f x=u1 at*;refine Y10 ?_;refine FW.gsD M (λv h' W q=>q) ?_;clear M;rintro _ n W o ae ⟨rfl,G,s,B⟩;have nB:=o.next
 have k:∀z,z<h.next->z≠m->n.get z=h.get z:=λz j E=>o.old z j E
 have O:=o.wf hr.wf;have QB:QuH n q m w Z X Y l os ns:=r.keep hr.wf nB k ⟨G,s,B⟩;have c9:=(k b9 k9 L).trans b;have u:∀z∈n.log,z=m:=λz j=>(o.log z j).elim (λq=>by rw[hr.log]at q;cases q) id;have N:=Ec F (h:={n with log:=[]}) (.of O) Q (QB.log []) S ((k b1 k1 I).trans c) ((k b2 k2 J).trans d) ((k b3 k3 K).trans i) hy;generalize ei w l ns f y=u2 at*;refine⟨_,by apply ah rfl (af rfl (dD (by exact rfl)) (by exact bY _ _)) rfl;apply ah rfl (af rfl (bJ (by exact rfl) (by assumption) (by exact rfl)) (by refine qh ?_ ?_;exact gI;refine bI (dL _) ?_;refine bI (dL _) ?_;refine bI (dL _) ?_;exact gI)) rfl;(repeat apply aC rfl);exact aY,?_⟩;clear b;skip;refine qC ?_;refine FW.gsD N (λv h' W q=>q) ?_;clear N;rintro _ P ar xC U ⟨rfl,H,t,D⟩;have WC:=xC.wf O;have A:∀z∈P.log,z=m:=λz j=>(xC.log z j).elim (u z) id;have C:=Od F (h:={P with log:=[]}) (.of WC) u1 u2;refine⟨_,by(repeat apply aC rfl);exact aY,?_⟩;skip;refine qC ?_;refine FW.puD C (by exact aY) ?_;refine Y5 ?_;exact iy A rfl ⟨rfl,H,t,D⟩
theorem KW{g:Nat->Int}{L:List Nat}(h:L≠[]):fR g (L++[x])=if g x<g (fR g L)then x else fR g L:=by
 cases L with
 |nil=>exact absurd rfl h
 |cons y L=>
  show(L++[x]).foldl _ y=_;rw[yr];rfl
theorem N9(a b:Int):cmZ a b<0↔a<b:=by
 unfold cmZ;split
 ·simp;omega
 ·split<;>simp<;>omega
theorem KM(F:zf T)(hr:Rdy h){q m:Nat}{l:List Pb}(hc:∀p∈l,1<=p.cost/\p.cost<=1000)(Qh:QuH h q m w pv nv ov l os ns)(hf:f.length=8)
 (J:h.get b1=some (.cells [.pointer (some ⟨q,0,none⟩)] true 1))(K:h.get b2=some (.cells [vfV q] true 1))(M:h.get b3=some (.cells (fL f) true 1))(N:h.get b9=some (.cells [woV b1 b2 b3] true 1)){v:Value}{L:List Nat}(s:aJ h 1 v L.length (ints (L.map Int.ofNat)))(hL:∀p∈L,p<l.length)(hn:L.length<1000000):
 Gs T 40 [v, .func (.func 41) #[] #[.pointer (some ⟨b9,0,none⟩)]] h (λz=>z=m) (Ru m w l ns (.tuple #[.int .i64 (fR (ei w l ns f) L:Nat), .bool (decide (0<L.length))])):=by
 obtain⟨ar,d,E⟩:=Qh.mem;have km:=hr.wf.bP d;refine Gs.of F.va.op.qu.p F.f150 (λv h1 h2 _ hn ha ⟨e,n,g,hm⟩=>⟨e,n,(ha m km).trans g,hm⟩) ?_;have k1:=hr.wf.bP J;have k2:=hr.wf.bP K;have k3:=hr.wf.bP M;have k9:=hr.wf.bP N;have aw:b1≠m:=λe=>by rw[e,d]at J;cases J
 have aE:b2≠m:=λe=>by rw[e,d]at K;cases K
 have ba:b3≠m:=λe=>by rw[e,d]at M;cases M
 have be:b9≠m:=λe=>by rw[e,d]at N;cases N
 obtain⟨a,c,rfl⟩:=s.form;refine Y14 ?_
 refine cT (λk e ds O=>∃i:Nat,i<=L.length/\L.length-i=k/\e=[(0, .slice a L.length c),(1, .func (.func 41) #[] #[.pointer (some ⟨b9,0,none⟩)]),(6, .int .i64 (fR (ei w l ns f) (L.take i):Nat)),(9, .slice a L.length c),(10, .int .i64 (L.length:Nat)),(11, .int .i64 (i:Nat))]/\ds=[]/\Ws (λz=>z=m) h O∧∃n,O.get m=some (.map (fT n))/\mc w l ns n)
  ⟨0,md _,rfl,rfl,rfl,(Ext.refl h).ws,ar,d,E⟩ ?_
 rintro k e ds G ⟨i,hi,rfl,rfl,rfl,A,n,P,u⟩;have WG:=A.wf hr.wf;have nG:=A.next
 have D:∀z,z<h.next->z≠m->G.get z=h.get z:=λz I j=>A.old z I j
 have V:∀z∈G.log,z=m:=λz I=>(A.log z I).elim (λq=>by rw[hr.log]at q;cases q) id;by_cases hlt:i<L.length
 ·obtain⟨x,W⟩:∃x,L[i]? =some x:=⟨L[i],bx hlt⟩;have X:=hL x (eA W);obtain⟨b,o,c3,vs,bo,tt,hv,gl,Q,el⟩:=Rq s (x:= .int .i64 (x:Nat)) (by unfold ints;rw[rb,rb,W];rfl);cases hv;have bi:=(D b Q (λe=>by rw[e,d]at gl;cases gl)).trans gl;have ae:an .lss (.int .i64 (i:Nat)) (.int .i64 (L.length:Nat))=some (.bool true):=dY (by omega);have H:=fU W;rcases Nat.eq_zero_or_pos i with rfl|hpos
  ·have Z:an .eql (.int .i64 ((0:Nat):Int)) (.int .i64 0)=some (.bool true):=rfl;have B:fR (ei w l ns f) (L.take (0+1))=x:=by rw[H];rfl
   refine Y31 ?_;refine bH ?_;refine Y7 ?_;exact⟨L.length-(0+1),by omega,0+1,by omega,rfl,by rw[B],rfl,A,n,P,u⟩
  ·have Z:an .eql (.int .i64 (i:Nat)) (.int .i64 0)=some (.bool false):=iH (by omega);have j:L.take i≠[]:=λe=>by
    have I:(L.take i).length=0:=by rw[e];rfl
    rw[m6]at I;omega
   have B:fR (ei w l ns f) (L.take (i+1))=if ei w l ns f x<ei w l ns f (fR (ei w l ns f) (L.take i))then x else fR (ei w l ns f) (L.take i):=by rw[H];exact KW j
   have S:fR (ei w l ns f) (L.take i)<l.length:=hL _ (wt (Gd j));have QG:QuH G q m w pv nv ov l os ns:=Qh.keep hr.wf nG D ⟨n,P,u⟩;have C:=Oc F (h:={G with log:=[]}) (.of WG) hc (QG.log []) hf ((D b1 k1 aw).trans J) ((D b2 k2 aE).trans K) ((D b3 k3 ba).trans M) ((D b9 k9 be).trans N) X S;generalize hbb:fR (ei w l ns f) (L.take i)=bst at*;have U:=N9 (ei w l ns f x) (ei w l ns f bst);generalize cmZ (ei w l ns f x) (ei w l ns f bst)=cc at*;by_cases hlt2:ei w l ns f x<ei w l ns f bst
   ·have Y:an .lss (.int .i64 cc) (.int .i64 0)=some (.bool true):=dY (U.2 hlt2);rw[if_pos hlt2]at B;refine Y28 ?_;refine FW.gs C (λv O m q=>q) ?_;rintro _ h5 x5 ⟨rfl,y,r,t⟩;refine Y8 ?_;refine bH ?_;refine Y7 ?_;exact⟨L.length-(i+1),by omega,i+1,by omega,rfl,by rw[B],rfl,A.trans x5,y,r,t⟩
   ·have Y:an .lss (.int .i64 cc) (.int .i64 0)=some (.bool false):=eM (by omega);rw[if_neg hlt2]at B;refine Y28 ?_;refine FW.gs C (λv O m q=>q) ?_;rintro _ h5 x5 ⟨rfl,y,r,t⟩;refine Y12 ?_;exact⟨L.length-(i+1),by omega,i+1,by omega,rfl,by rw[B],rfl,A.trans x5,y,r,t⟩
 ·obtain rfl:i=L.length:=by omega
  have ae:an .lss (.int .i64 (L.length:Nat)) (.int .i64 (L.length:Nat))=some (.bool false):=eM (by omega);rw[q9];have bj:an .gtr (.int .i64 (L.length:Nat)) (.int .i64 0)=some (.bool (decide (0<L.length))):=by
   rw[Ge];congr 2;exact decide_eq_decide.2 (by omega)
  refine Y19 ?_;exact iy V rfl ⟨rfl,n,P,u⟩
end Go.A.Pk
end
section
namespace Go.A.Pk
variable {T:Nat->Option aq}
theorem Da(f:List Nat){n:Nat}:∀m,∃r,bG (n+m) f=bG n f++r
 |0=>⟨[],by simp⟩
 |m+1=>by
  obtain⟨r,e⟩:=Da f (n:=n) m;exact⟨r++(if f.getD (n+m) 0=0 then [n+m]else []),by rw[←Nat.add_assoc,tZ,e,rr]⟩
theorem KN(F:sF T){h:Heap}(hr:Rdy h){q m:Nat}{w:List Nat×List Nat}{Z M O:Value}{l:List Pb}{os:List (List Nat)}{ns:List (List (List Nat))}(u:QuH h q m w Z M O l os ns){f:List Nat}(hf:f.length=8){b1 b2:Nat}(g1:h.get b1=some (.cells [.pointer (some ⟨q,0,none⟩)] true 1))
 {lo N z qb:Nat}{P:List Nat->Heap->Prop}(Y:GU T lo N z qb (λp=> .int .i64 ((p:Nat):Int)) (bG l.length f) P)(W:N<=h.next)(D:lo<=h.next)(B:∀d H,P d H->H.get b2=some (.cells (fL f) true 1))(A:P [] h):
 Gr T 66 [.func (.yield z) #[] #[], .pointer (some ⟨b1,0,none⟩), .pointer (some ⟨b2,0,none⟩)] h lo λv j=>v= .tuple #[]/\P (bG l.length f) j:=by
 have t:qb<h.next:=hK Y.hq W
 refine Gr.ofK F.qu.p F.f228 D (λv h1 V p=>OB Y t V hr.log p) ?_;obtain⟨a,c,rfl⟩:=u.sp.form;have gq:=u.gq;have kp:=rq u.hw (.slice a l.length c) M O (.map (some m));have X:=u.hl;refine Y9 ?_
 refine cT (λk e ds j=>∃i:Nat,i<=l.length/\k=l.length-i/\e=[(0, .func (.yield z) #[] #[]),(2, .pointer (some ⟨b2,0,none⟩)),(9, .int .i64 (l.length:Nat)),(10, .int .i64 (i:Nat))]/\ds=[]/\Lk lo h j∧P (bG i f) j∧(j=h∨qb∈j.log/\jd j qb))
  ⟨0,md _,rfl,rfl,rfl, .refl _ _,A, .inl rfl⟩ ?_
 rintro k e ds G ⟨i,hi,rfl,rfl,rfl,o,r,J⟩;have S:=o.wf hr.wf;have U:=B _ _ r;by_cases hlt:i<l.length
 ·obtain⟨y,K⟩:∃y,f[i]? =some y:=⟨f[i]'(by omega),bx _⟩;have kf:=wz K;have C:f.getD i 0=y:=by rw[kK,K];rfl
  have I:an .lss (.int .i64 (i:Nat)) (.int .i64 (l.length:Nat))=some (.bool true):=dY (by omega);have L:an .eql (.int .u8 (y:Nat)) (.int .u8 0)=some (.bool (decide (y=0))):=zL (c:=0) rfl;have b:=tZ i f;rw[C]at b;by_cases hy0:y=0
  ·rw[decide_eq_true hy0]at L;rw[if_pos hy0]at b;obtain⟨Q,g⟩:=Da f (n:=i+1) (l.length-(i+1));rw[show i+1+(l.length-(i+1))=l.length by omega,b,rr]at g;refine Y24 ?_;refine mX (fn:= .yield z) (args:=[.int .i64 (i:Nat)]) (by exact rfl) ?_;refine Y.call F.qu.p (x:=i) g S (by have:=o.next;omega) (by have:=o.next;omega) t r ?_;intro G2 x2 E s;rw[←b]at s;refine Y12 ?_;exact⟨l.length-(i+1),by omega,i+1,by omega,rfl,rfl,rfl,o.trans x2,s, .inr E⟩
  ·rw[decide_eq_false hy0]at L;rw[if_neg hy0,oC]at b;rw[←b]at r;refine Y33 ?_;exact⟨l.length-(i+1),by omega,i+1,by omega,rfl,rfl,rfl,o,r,J⟩
 ·obtain rfl:i=l.length:=by omega
  have I:an .lss (.int .i64 (l.length:Nat)) (.int .i64 (l.length:Nat))=some (.bool false):=eM (by omega);refine Y9 ?_;exact CA (o.log (by rw[hr.log];exact eR.nil _)) rfl ⟨rfl,r,J⟩
section
open I
def GZ:aN:=(I.R [M 8 22] [7,8])
def G6:aN:=(.block 1 (I.R [L 23 7,M 24 8,g 25 (.dw [O] 1 [(0,1,(t 24))]),g 26 (.append 1 8 (t 23) (t 25)),S 1 7 26] []))
end
def bE(v1 v2 v3 v4 v5:Value)(q:Nat)(fv:Value):Env:=[(1,v1),(2,v2),(3,v3),(4,v4),(5,v5),(7, .pointer (some ⟨q,0,none⟩)),(21,fv)]
def rf(ds:List Nat):List Value:=ints (ds.map Int.ofNat)
theorem Ey(a:List Nat)(p:Nat):rf (a++[p])=rf a++[.int .i64 ((p:Nat):Int)]:=by simp[rf,ints]
variable{lo p:Nat}{v:Value}
theorem GY(Y:aF T){H:Heap}(hr:Rdy H){q l lo2:Nat}{J K L M N F:Value}{a:List Nat}(X:a.length<1000000)(w:lo<=q)
 (gl:H.get l=some (.loop (bE J K L M N q F) [22] GZ G6 0 .normal))
 (n:H.get q=some (.cells [v] true 1))(own:Own lo2 H 1 v a.length (rf a))(i:lo<=lo2)(Z:q<lo2)(W:l<lo2)(V:lo2<=H.next):
 FW T (.yield l) [.int .i64 (p:Nat)] H λr c=>r= .ret (.bool true)/\(∀z∈c.log,lo<=z)/\q∈c.log/\∃v',c.get q=some (.cells [v'] true 1)/\cZ [v']=false/\Own lo2 c 1 v' (a++[p]).length (rf (a++[p]))/\(∀z,z<lo2->z≠q->c.get z=H.get z)/\WF c∧H.next<=c.next:=by
 have j:q≠l:=λe=>by subst e;rw[n]at gl;cases gl
 have G:=hr.wf.bP n;have kl:=hr.wf.bP gl;refine FW.NI Y (q:=q) (R:=λc=>∃v',c.get q=some (.cells [v'] true 1)/\cZ [v']=false/\Own lo2 c 1 v' (a++[p]).length (rf (a++[p]))/\(∀z,z<lo2->z≠q->c.get z=H.get z)/\WF c∧H.next<=c.next) gl rfl kl G j ?_;unfold GZ bE;refine Y2 ?_;refine bH ?_;refine y1 ?_;refine⟨rfl,gl,?_⟩;unfold G6;refine lF ?_;refine WE.vh ?_;intro b d;have s:∀z,z<H.next->z≠l->H.get z=b.get z:=λz f x=>by rw[d];exact(z5 x).symm
 have B:b.get l=some (.loop (bE J K L M N q F) [22] GZ G6 1 .normal):=by rw[d];exact Heap.aI gl
 have A5:b.next=H.next:=by rw[d];rfl
 have O:b.log=[]:=by rw[d,Heap.aD (by omega)];exact hr.log
 have P:WF b:=by rw[d];exact hr.wf.as (AS.wr _ _ _ _)
 clear d;have C:=(s q G j).symm.trans n;have m:Own lo2 b 1 v a.length (rf a):=own.keep (by omega) λz f y=>(s z y (by omega)).symm;clear n;refine Y3 ?_;refine aG (iu (by exact rfl) (by exact rfl)) ?_;refine Nt (lo:=lo2) (c1:=[.int .i64 (p:Nat)]) (m.ext ((Ext.refl b).push _)) X (by omega) (by omega) (by exact rfl) (by exact rfl) (jy (cs:=[.int .i64 (p:Nat)]) YG rfl rfl) rfl rfl ?_;intro h g I A w3 k;have g:Own (H.next+1) h 1 (.slice (some ⟨H.next+1,0,none⟩) (a.length+1) UNK) (a.length+1) (rf a++[.int .i64 (p:Nat)]):=by
  have e:(b.push (.cells [.int .i64 (p:Nat)] true 1)).next=H.next+1:=by show b.next+1=_;omega
  rw[←e];exact g
 have I:h.next=H.next+2:=by rw[I];show b.next+1+1=_;omega
 have A:∀z∈h.log,lo2<=z:=λz f=>(A z f).elim id λe=>by
  have e:z∈b.log:=e;rw[O]at e;cases e
 have k:∀z,z<lo2->h.get z=b.get z:=λz f=>(k z (by show z<b.next+1;omega) f).trans (z4 (by omega));have Q:WF h:=w3 (P.push _);have S:∀o,(b.push o).next=H.next+1:=λo=>by show b.next+1=_;omega
 rw[S];have E:=(k q (by omega)).trans C;have D:=(k l (by omega)).trans B;have t:=Ey a p;have u:(a++[p]).length=a.length+1:=by simp
 clear C B;refine yS ?_;refine bH ?_;refine Y2 ?_;refine⟨rfl,⟨_,(z5 (Ne.symm j)).trans D,rfl⟩,λz f=> ?_,oP (by omega),⟨_,_,_,Heap.aI E,rfl⟩, .slice (some ⟨H.next+1,0,none⟩) (a.length+1) UNK,(z5 j).trans (Heap.aI E),rfl,?_,λz f U=> ?_,?_,?_⟩
 ·rcases dy f with rfl|f
  ·exact w
  ·exact gd i (A z f)
 ·rw[t,u];exact Own.low (lo:=H.next+1) (Own.keep g (bl _) λz f _=>(z5 (by omega)).trans (z5 (by omega))) (by omega)
 ·by_cases hl:z=l
  ·subst hl;rw[gl];exact Heap.aI ((z5 (Ne.symm j)).trans D)
  ·exact(z5 hl).trans ((z5 U).trans ((k z f).trans (s z (by omega) hl).symm))
 ·exact(Q.as (AS.wr _ _ _ _)).as (AS.wr _ _ _ _)
 ·show H.next<=h.next
  omega
structure PAl (N q:Nat) (H0:Heap) (L:bM) (done:List Nat) (H:Heap):Prop where
 old:∀z,z<N->z≠q->H.get z=H0.get z
 loop:H.get N=some L
 ow:∃v,H.get q=some (.cells [v] true 1)/\Own (N+1) H 1 v done.length (rf done)
 nx:N<H.next
theorem Pp(y:aF T){N q:Nat}{m:Heap}{E F G I J u:Value}{all:List Nat}(L:q<N)(b:all.length<1000000):GU T q (N+1) N q (λp=> .int .i64 ((p:Nat):Int)) all (PAl N q m (.loop (bE E F G I J q u) [22] GZ G6 0 .normal)):=by
 refine⟨by omega,λdone x k H B A K P=> ?_,λdone H l P w d=> ?_⟩
 ·obtain⟨v,g,h⟩:=P.ow;have e:done.length<1000000:=by rw[B,ec]at b;omega
  refine FW.mono' (GY y A (p:=x) (lo2:=N+1) e (bl q) P.loop g h (by omega) (by omega) (by omega) (by omega)) ?_;rintro r l ⟨n,o,s,D,j,t,C,i,O,M⟩;exact⟨n,o,s,⟨_,_,_,j,t⟩,⟨λz c a=>(i z (by omega) a).trans (P.old z c a),(i N (by omega) (by omega)).trans P.loop,⟨D,j,C⟩,by have:=P.nx;omega⟩⟩
 ·obtain⟨v,g,h⟩:=P.ow;have f:=P.nx;exact⟨λz c a=>(d z (by omega)).trans (P.old z c a),(d N f).trans P.loop,⟨v,(d q (by omega)).trans g,h.keep w λz _ c=>d z c⟩,by omega⟩
def fkL(x:Fk):List Value:=[.int .i64 x.probe, .int .i64 x.yes, .int .i64 x.no]
def jB(s:List Fk):List Value:=s.flatMap fkL
theorem kV:∀(s:List Fk),(jB s).length=s.length*3
 |[]=>rfl
 |x::s=>by
  have e:jB (x::s)=fkL x++jB s:=rfl;rw[e,ec,kV s,pm];show 3+_=_;omega
theorem Kc:∀{s:List Fk} {i:Nat} {x:Fk},s[i]? =some x->((jB s).drop (i*3)).take 3=fkL x
 |[],i,x,h=>by simp at h
 |y::s,0,x,h=>by
  simp at h;subst h;rfl
 |y::s,i+1,x,h=>by
  have e:jB (y::s)=fkL y++jB s:=rfl;have a:(fkL y++jB s).drop 3=jB s:=rfl;rw[e,show(i+1)*3=3+i*3 by omega,←List.drop_drop,a];exact Kc (by simpa using h)
def FkS(h:Heap)(v:Value)(s:List Fk):Prop:=aJ h 3 v s.length (jB s)
variable{h:Heap}{s:List Fk}{x:Fk}
theorem FkS.elem(S:FkS h v s){i:Nat}(hi:s[i]? =some x):
 ∃b o c a e t,v= .slice (some ⟨b,o,none⟩) s.length c/\h.get b=some (.cells a e t)/\b<h.next/\bK a (o+i*3+0)=some (.int .i64 x.probe)/\bK a (o+i*3+1)=some (.int .i64 x.yes)/\bK a (o+i*3+2)=some (.int .i64 x.no)/\cG 3 (cw (o+i*3) a)=fkL x:=by
 have m:=(List.getElem?_eq_some_iff.1 hi).1;rcases aJ.inv S with⟨_,_,h0,_⟩|⟨b,o,cap,hv,s1,hc⟩
 ·omega
 ·obtain⟨a,e,t,g,k⟩:=s1.obj;have f:(a.drop (o+i*3)).take 3=fkL x:=by
   rw[←Kc hi,←k];simp only[bQ,aW,EQ,Fd,sf];congr 1;omega
  have d:∀j,j<3->bK a (o+i*3+j)=(fkL x)[j]? :=λj l=>by
   rw[cH,←f,gS l,me]
  exact⟨b,o,cap,a,e,t,hv,g,s1.lt,d 0 (by omega),d 1 (by omega),d 2 (by omega),by rw[bQ,aW];exact f⟩
variable{w:List Nat×List Nat}{ns:List (List (List Nat))}
theorem TA{l:List Pb}{cost:Int}:∀{k:Nat} {f:List Nat} {a fr paid:Int} {m:Nat},jD w l ns s cost k f a fr paid=some m->m<2 ^ k:=by
 intro k;induction k with
 |zero=>intro f a fr paid m h;simp[jD]at h
 |succ k ih=>
  intro f a fr paid m h;have b:0<2 ^ k:=xx (by omega);rw[ut];unfold jD at h;split at h
  ·split at h
   ·cases h
   ·cases h;omega
  ·split at h
   ·split at h
    ·cases h
    ·split at h
     ·split at h
      ·split at h
       ·cases h
       ·rename_i m1 hm1;split at h
        ·cases h
        ·rename_i m2 hm2;cases h;have:=ih hm1;have:=ih hm2;omega
      ·cases h
     ·cases h
   ·cases h
def yR:Value:= .iface 119 (.agg #[])
structure BX (T:Nat->Option aq):Prop where
 op:sF T
 f106:T 30=some f106
 f203:T 59=some f203
 f204:T 60=some f204
theorem lS(F:BX T)(hr:Rdy h):Pu T 60 [.bool true] h (.tuple #[]):=by
 refine .of F.op.qu.p F.f204 hr rfl ?_;refine Y6 ?_;exact⟨⟨.inl rfl,rfl,hr.log,[],rfl,rfl⟩⟩
theorem jN(F:BX T):CW T 60 [.bool false] h λr h'=>r= .panic yR/\h'=h:=by
 refine CW.code F.f204 (WE.ok ?_);refine Y7 ?_;refine aG (show aop h h.next _ (.iK 119 (.tmp 4))=some (.val (.iface 119 (.agg #[])) h)from rfl) ?_;refine Nu (show aop h h.next _ (.tB (.tmp 5))=some (.panic yR h)from rfl) ?_;exact rN ⟨rfl,rfl⟩
def yw(f:List Nat)(a fr paid:Int)(bq bs bn bc bv:Nat):List Value:=[fV f, .int .i64 a, .int .i64 fr, .int .i64 paid, .pointer (some ⟨bq,0,none⟩), .pointer (some ⟨bs,0,none⟩), .pointer (some ⟨bn,0,none⟩), .pointer (some ⟨bc,0,none⟩), .pointer (some ⟨bv,0,none⟩)]
def IW(bq bs bn bc bv:Nat):Value:= .func (.func 59) #[] #[.pointer (some ⟨bq,0,none⟩), .pointer (some ⟨bs,0,none⟩), .pointer (some ⟨bn,0,none⟩), .pointer (some ⟨bc,0,none⟩), .pointer (some ⟨bv,0,none⟩)]
structure VsH (h0 h:Heap) (q:Nat) (sv:Value) (cost:Int) (n0:Int) (bq bs bn bc bv:Nat):Prop where
 wf:WF h
 nx:h0.next<=h.next
 old:∀z,z<h0.next->h.get z=h0.get z
 gq:h.get bq=some (.cells [.pointer (some ⟨q,0,none⟩)] true 1)
 gs:h.get bs=some (.cells [sv] true 1)
 gn:h.get bn=some (.cells [.int .i64 n0] true 1)
 gc:h.get bc=some (.cells [.int .i64 cost] true 1)
 gv:h.get bv=some (.cells [IW bq bs bn bc bv] true 1)
variable{h':Heap}{n0 n1:Int}{bc bn bq bs bv:Nat}
theorem VsH.ws{a:Heap}{q:Nat}{sv:Value}{cost:Int}(v:VsH a h q sv cost n0 bq bs bn bc bv)(k:WF h')(j:h.next<=h'.next)(ho:∀z,z<h.next->z≠bn->h'.get z=h.get z)(i:a.next<=bn)(c:bq≠bn)(d:bs≠bn)(e:bc≠bn)(f:bv≠bn)(g:h'.get bn=some (.cells [.int .i64 n1] true 1)):VsH a h' q sv cost n1 bq bs bn bc bv:=
 ⟨k,gd v.nx j,λz b=>(ho z (hK b v.nx) (by omega)).trans (v.old z b),(ho _ (v.wf.bP v.gq) c).trans v.gq,(ho _ (v.wf.bP v.gs) d).trans v.gs,g,(ho _ (v.wf.bP v.gc) e).trans v.gc,(ho _ (v.wf.bP v.gv) f).trans v.gv⟩
theorem VsH.log{a h:Heap}{q:Nat}{sv:Value}{cost n0:Int}{bq bs bn bc bv:Nat}(v:VsH a h q sv cost n0 bq bs bn bc bv)(m:List Nat):VsH a {h with log:=m} q sv cost n0 bq bs bn bc bv:=⟨v.wf.log m,v.nx,v.old,v.gq,v.gs,v.gn,v.gc,v.gv⟩
def NQ(w:List Nat×List Nat)(l:List Pb)(ns:List (List (List Nat)))(s:List Fk)(cost:Int)(bn:Nat)(k:Nat)(f:List Nat)(a fr paid n0:Int)(v:Value)(h':Heap):Prop:=v= .tuple #[]/\∃m,jD w l ns s cost k f a fr paid=some m/\h'.get bn=some (.cells [.int .i64 (n0+(m:Nat))] true 1)
def NP(w:List Nat×List Nat)(l:List Pb)(ns:List (List (List Nat)))(s:List Fk)(cost:Int)(k:Nat)(f:List Nat)(a fr paid:Int)(v:Value)(_:Heap):Prop:=v=yR/\jD w l ns s cost k f a fr paid=none
variable{f:Nat}
theorem EvF.LP{args:List Value}(H:EvC T f args h (.panic v,h')):EvF T (.func f) args h (.panic v,h'):=by
 obtain⟨m,a⟩:=H;exact⟨m+1,λn b=>by
  obtain⟨k,rfl⟩:∃k,n=k+1:=⟨n-1,by omega⟩;simp only[gG];exact a k (by omega)⟩
def cdF:aq->aN
 | .code c _=>c
 |_=> .skip
def tlC:aN->aN
 | .seq _ b=>b
 |c=>c
def We:aN:=tlC (tlC (tlC (tlC (tlC (tlC (tlC (tlC (tlC (cdF f203)))))))))
theorem Nk(F:BX T){B:Heap}{q:Nat}{l:List Pb}{sv:Value}(S0:FkS B sv s){cost:Int}(U:B.next<=bn)(d1:bq≠bn)(d2:bs≠bn)(d3:bc≠bn)(d4:bv≠bn)
 {k:Nat}{f:List Nat}(M:f.length=8){i:Nat}(G:p<8)(hx:s[i]? =some x){paid:Int}{b9:Nat}(ba:bn<b9)(D:b9<h.next)(V:VsH B h q sv cost n0 bq bs bn bc bv)(hl:∀z∈h.log,z=bn)(g9:h.get b9=some (.cells (fL f) true 1)){fr:Int}
 (I1:∀{h:Heap} {n0:Int},Rdy h->VsH B h q sv cost n0 bq bs bn bc bv->n0=n1->Gp T 59 (yw (f.set p 1) x.yes i paid bq bs bn bc bv) h (λz=>z=bn) (NQ w l ns s cost bn k (f.set p 1) x.yes i paid n0) (NP w l ns s cost k (f.set p 1) x.yes i paid))(y:n0=n1)
 (I2:∀{m:Nat} {h:Heap} {n0:Int},jD w l ns s cost k (f.set p 1) x.yes i paid=some m->Rdy h->VsH B h q sv cost n0 bq bs bn bc bv->n0=n1+m->Gp T 59 (yw (f.set p 2) x.no i paid bq bs bn bc bv) h (λz=>z=bn) (NQ w l ns s cost bn k (f.set p 2) x.no i paid n0) (NP w l ns s cost k (f.set p 2) x.no i paid))
 {Q Qp:Value->Heap->Prop}(HQ:∀A H d,jD w l ns s cost k (f.set p 1) x.yes i paid=some A->jD w l ns s cost k (f.set p 2) x.no i paid=some H->d.get bn=some (.cells [.int .i64 (n1+(A:Nat)+(H:Nat))] true 1)->Q (.tuple #[]) d)
 (HP:∀d,jD w l ns s cost k (f.set p 1) x.yes i paid=none∨jD w l ns s cost k (f.set p 2) x.no i paid=none->Qp yR d):
 WE T b9 none We (Hr [] (λz=>z=bn) Q Qp) [(1, .int .i64 (i:Nat)),(3, .int .i64 paid),(5, .pointer (some ⟨bs,0,none⟩)),(8, .pointer (some ⟨bv,0,none⟩)),(9, .pointer (some ⟨b9,0,none⟩)),(15, .int .i64 (p:Nat))] [] h:=by
 have bo:=iE M;have cd:=fP M;have bi:=(List.getElem?_eq_some_iff.1 hx).1;obtain⟨b,o,c,vs,cX,t,rfl,r,u,cf,ci,cj,cJ⟩:=S0.elem hx;have gb:=(V.old b u).trans r;have be:=hK u V.nx;have gv:=V.gv;have gs:=V.gs;have J:=kN F.op (h:={h with log:=[]}) (.of V.wf) M G (a:=1);have C2:=I1 (h:={h with log:=[]}) (.of V.wf) (V.log []) y;unfold We tlC cdF f203;dsimp only;unfold IW at gv;obtain⟨r1,hB,g,xB,X⟩:=C2;unfold yw at g;rcases X with⟨v,rfl,rfl,A,hm1,gn1⟩|⟨v,rfl,rfl,hm1⟩
 ·have Z:Gs T 59 [fV (f.set p 1), .int .i64 x.yes, .int .i64 (i:Nat), .int .i64 paid, .pointer (some ⟨bq,0,none⟩), .pointer (some ⟨bs,0,none⟩), .pointer (some ⟨bn,0,none⟩), .pointer (some ⟨bc,0,none⟩), .pointer (some ⟨bv,0,none⟩)] {h with log:=[]} (λz=>z=bn) (λv d=>v= .tuple #[]/\d.get bn=some (.cells [.int .i64 (n0+(A:Nat))] true 1)):=⟨_,_,g,xB,_,rfl,rfl,gn1⟩;refine uz (GQ ?_);refine Y11 ?_;refine FW.puD J (by apply ah rfl (af rfl (dD (by exact rfl)) (by exact bY _ _)) rfl;apply ah rfl (af rfl (dD (by exact rfl)) (by exact bY _ _)) rfl;apply ah rfl (af rfl (bJ (by exact rfl) (by assumption) (by assumption)) (by exact bY _ _)) rfl;apply ah rfl (af rfl (cN (by exact rfl)) (by exact aV _)) rfl;apply ah rfl (af rfl (fW (by exact rfl) (by exact rfl) (by omega)) (by exact aV _)) rfl;apply ah rfl (af rfl (dD (by exact rfl)) (by exact bY _ _)) rfl;apply ah rfl (af rfl (bJ (by exact rfl) (by assumption) (by exact rfl)) (by exact eH _ _ _)) rfl;(repeat apply aC rfl);apply ah rfl (af rfl (bJ (by exact rfl) (by assumption) (by exact rfl)) (by refine lH ?_;refine bI (dL _) ?_;refine bI (dL _) ?_;refine bI (dL _) ?_;refine bI (dL _) ?_;refine bI (dL _) ?_;exact gI)) rfl;exact aY) ?_;clear J;skip;refine qC ?_;refine FW.gsD Z (λv d lg q=>q) ?_;clear Z g;rintro _ C lg I bj ⟨rfl,O⟩;have N:=I.wf V.wf;have L:VsH B C q (.slice (some ⟨b,o,none⟩) s.length c) cost (n0+(A:Nat)) bq bs bn bc bv:=V.ws N I.next (λz n W=>I.old z n W) U d1 d2 d3 d4 O
  have ar:=(I.old b9 D (by omega)).trans g9;have aw:=(L.old b u).trans r;have S:=L.gv;have aE:=L.gs;unfold IW at S;have E:∀z∈C.log,z=bn:=λz n=>(I.log z n).elim (hl z) id;refine⟨_,by(repeat apply aC rfl);exact aY,?_⟩;refine Y3 ?_;have K:=kN F.op (h:={C with log:=[]}) (.of N) M G (a:=2);have C4:=I2 (h:={C with log:=[]}) hm1 (.of N) (L.log []) (by rw[y]);obtain⟨r2,hD,j,xD,Y⟩:=C4;unfold yw at j;clear gv gs g9 gb r;rcases Y with⟨v,rfl,rfl,H,hm2,gn2⟩|⟨v,rfl,rfl,hm2⟩
  ·have G2:Gs T 59 [fV (f.set p 2), .int .i64 x.no, .int .i64 (i:Nat), .int .i64 paid, .pointer (some ⟨bq,0,none⟩), .pointer (some ⟨bs,0,none⟩), .pointer (some ⟨bn,0,none⟩), .pointer (some ⟨bc,0,none⟩), .pointer (some ⟨bv,0,none⟩)] {C with log:=[]} (λz=>z=bn) (λv d=>v= .tuple #[]/\d.get bn=some (.cells [.int .i64 (n0+(A:Nat)+(H:Nat))] true 1)):=⟨_,_,j,xD,_,rfl,rfl,gn2⟩;refine Y12 ?_;refine FW.puD K (by apply ah rfl (af rfl (dD (by exact rfl)) (by exact bY _ _)) rfl;apply ah rfl (af rfl (dD (by exact rfl)) (by exact bY _ _)) rfl;apply ah rfl (af rfl (bJ (by exact rfl) (by assumption) (by assumption)) (by exact bY _ _)) rfl;apply ah rfl (af rfl (cN (by exact rfl)) (by exact aV _)) rfl;apply ah rfl (af rfl (fW (by exact rfl) (by exact rfl) (by omega)) (by exact aV _)) rfl;apply ah rfl (af rfl (dD (by exact rfl)) (by exact bY _ _)) rfl;apply ah rfl (af rfl (bJ (by exact rfl) (by assumption) (by exact rfl)) (by exact eH _ _ _)) rfl;(repeat apply aC rfl);apply ah rfl (af rfl (bJ (by exact rfl) (by assumption) (by exact rfl)) (by refine lH ?_;refine bI (dL _) ?_;refine bI (dL _) ?_;refine bI (dL _) ?_;refine bI (dL _) ?_;refine bI (dL _) ?_;exact gI)) rfl;exact aY) ?_;clear K;skip;refine qC ?_;refine FW.gsD G2 (λv d lg q=>q) ?_;clear G2 j;rintro _ hE cP xE ae ⟨rfl,P⟩;refine⟨_,by(repeat apply aC rfl);exact aY,?_⟩;refine Y2 ?_;exact wq (λz n=>(xE.log z n).elim (E z) id) rfl (HQ A H _ hm1 hm2 (by rw[←y];exact P))
  ·refine D9 (init:=[0,1,2,4,5,6,7,8,9,10,3]) (i:=11) (mask:=2047) rfl rfl (by decide) ?_;refine Y11 ?_;refine FW.puD K (by apply ah rfl (af rfl (dD (by exact rfl)) (by exact bY _ _)) rfl;apply ah rfl (af rfl (dD (by exact rfl)) (by exact bY _ _)) rfl;apply ah rfl (af rfl (bJ (by exact rfl) (by assumption) (by assumption)) (by exact bY _ _)) rfl;apply ah rfl (af rfl (cN (by exact rfl)) (by exact aV _)) rfl;apply ah rfl (af rfl (fW (by exact rfl) (by exact rfl) (by omega)) (by exact aV _)) rfl;apply ah rfl (af rfl (dD (by exact rfl)) (by exact bY _ _)) rfl;apply ah rfl (af rfl (bJ (by exact rfl) (by assumption) (by exact rfl)) (by exact eH _ _ _)) rfl;(repeat apply aC rfl);apply ah rfl (af rfl (bJ (by exact rfl) (by assumption) (by exact rfl)) (by refine lH ?_;refine bI (dL _) ?_;refine bI (dL _) ?_;refine bI (dL _) ?_;refine bI (dL _) ?_;refine bI (dL _) ?_;exact gI)) rfl;exact aY) ?_;clear K;refine ux ?_;exact⟨⟨_,_,_,_,rfl,rfl,rfl,rB rfl rfl rfl rfl,yR,_,EvF.LP j,λbase=>fJ (λz n=>by
    rcases qA n with e|e
    ·exact E z e
    ·exact(xD.log z e).elim (λe=>by cases e) id) (HP _ (.inr hm2))⟩⟩
 ·refine uz ?_;refine D9 (init:=[0,1,2,4,5,6,7,8,9,10,3]) (i:=11) (mask:=2047) rfl rfl (by decide) ?_;refine Y11 ?_;refine FW.puD J (by apply ah rfl (af rfl (dD (by exact rfl)) (by exact bY _ _)) rfl;apply ah rfl (af rfl (dD (by exact rfl)) (by exact bY _ _)) rfl;apply ah rfl (af rfl (bJ (by exact rfl) (by assumption) (by assumption)) (by exact bY _ _)) rfl;apply ah rfl (af rfl (cN (by exact rfl)) (by exact aV _)) rfl;apply ah rfl (af rfl (fW (by exact rfl) (by exact rfl) (by omega)) (by exact aV _)) rfl;apply ah rfl (af rfl (dD (by exact rfl)) (by exact bY _ _)) rfl;apply ah rfl (af rfl (bJ (by exact rfl) (by assumption) (by exact rfl)) (by exact eH _ _ _)) rfl;(repeat apply aC rfl);apply ah rfl (af rfl (bJ (by exact rfl) (by assumption) (by exact rfl)) (by refine lH ?_;refine bI (dL _) ?_;refine bI (dL _) ?_;refine bI (dL _) ?_;refine bI (dL _) ?_;refine bI (dL _) ?_;exact gI)) rfl;exact aY) ?_;clear J;refine ux ?_;exact⟨⟨_,_,_,_,rfl,rfl,rfl,rB rfl rfl rfl rfl,yR,_,EvF.LP g,λbase=>rO (fJ (λz n=>by
   rcases qA n with e|e
   ·exact hl z e
   ·exact(xB.log z e).elim (λe=>by cases e) id) (HP _ (.inl hm1)))⟩⟩
theorem WO.Hu{base:Nat}{rnd:Option Nat}{Q:XQ}{ops:List aP}{e:Env}{a:Dfs}(b:∀hA,hA=h->WO T base rnd Q ops e a hA):WO T base rnd Q ops e a h:=b h rfl
theorem CG(a b:List Fk):jB (a++b)=jB a++jB b:=by unfold jB;rw[vy]
theorem Ot{a c:List Fk}{p y z y' z':Int}:((jB (a++⟨p,y,z⟩::c)).set (0+a.length*3+1) (.int .i64 y')).set (0+a.length*3+2) (.int .i64 z')=jB (a++⟨p,y',z'⟩::c):=by
 have e:∀y z,jB (a++⟨p,y,z⟩::c)=jB a++(.int .i64 p:: .int .i64 y:: .int .i64 z::jB c):=λy z=>by rw[CG];rfl
 rw[e,e,List.set_append_right _ _ (by rw[kV];omega),List.set_append_right _ _ (by rw[kV];omega),kV];rw[show 0+a.length*3+1-a.length*3=1 by omega,show 0+a.length*3+2-a.length*3=2 by omega];rfl
theorem GI{l:List Pb}:∀{k:Nat} {f:List Nat} {a:Nat},(eN w l ns k f a).2.length<2 ^ k:=by
 intro k;induction k with
 |zero=>intro f a;exact Nat.zero_lt_one
 |succ k ih=>
  intro f a;rw[ut];unfold eN;split
  ·exact Nat.mul_pos (xx (by omega)) (by omega)
  ·have b:=ih (f:=f.set (fR (ei w l ns f) (bG l.length f)) 1) (a:=a+1);have c:=ih (f:=f.set (fR (ei w l ns f) (bG l.length f)) 2) (a:=a+1+(eN w l ns k (f.set (fR (ei w l ns f) (bG l.length f)) 1) (a+1)).2.length);rw[pm,ec];omega
structure I9 (T:Nat->Option aq):Prop where
 bu:zf T
 f146:T 36=some f146
structure BdN (h0:Heap) (lo b8 b10 b11 b12 m:Nat):Prop where
 l8:h0.next<=b8/\b8<lo
 l10:h0.next<=b10/\b10<lo
 l11:h0.next<=b11/\b11<lo
 l12:h0.next<=b12/\b12<lo
 d8:b8≠b11
 d10:b10≠b11
 d12:b12≠b11
 lm:m<h0.next
def buV(b8 b10 b11 b12:Nat):Value:= .func (.func 36) #[] #[.pointer (some ⟨b10,0,none⟩), .pointer (some ⟨b8,0,none⟩), .pointer (some ⟨b11,0,none⟩), .pointer (some ⟨b12,0,none⟩)]
structure BdH (h0 h:Heap) (q m b8 b10 b11 b12 lo:Nat) (w:List Nat×List Nat) (l:List Pb) (ns:List (List (List Nat))):Prop where
 wf:WF h
 nx:lo<=h.next
 old:∀z,z<h0.next->z≠m->h.get z=h0.get z
 mem:∃mm,h.get m=some (.map (fT mm))/\mc w l ns mm
 g8:h.get b8=some (.cells [.pointer (some ⟨q,0,none⟩)] true 1)
 g10:h.get b10=some (.cells [vfV q] true 1)
 g12:h.get b12=some (.cells [buV b8 b10 b11 b12] true 1)
theorem BdH.step{g:Heap}{q m e a b c:Nat}{l:List Pb}(B:BdH g h q m e a b c lo w l ns)(N:BdN g lo e a b c m)(t:WF h')(s:h.next<=h'.next)(f:∀z,z<lo->z≠m->z≠b->h'.get z=h.get z)(r:∃mm,h'.get m=some (.map (fT mm))/\mc w l ns mm):BdH g h' q m e a b c lo w l ns:=by
 obtain⟨⟨v,i⟩,⟨x,j⟩,⟨y,A⟩,⟨C,k⟩,n,o,p,D⟩:=N;exact⟨t,gd B.nx s,λz u d=>(f z (by omega) d (by omega)).trans (B.old z u d),r,(f e i (by omega) n).trans B.g8,(f a j (by omega) o).trans B.g10,(f c k (by omega) p).trans B.g12⟩
variable{os:List (List Nat)}
theorem BdH.qu{d:Heap}{q m a b c:Nat}{j g i:Value}{l:List Pb}(B:BdH d h q m f a b c lo w l ns)(N:BdN d lo f a b c m)(e:WF d)(k:QuH d q m w j g i l os ns):QuH h q m w j g i l os ns:=
 k.keep e (by have:=N.l8;have:=B.nx;omega) B.old B.mem
def SB(m b11:Nat)(v0:Value)(z:Nat):Prop:=z=m∨z=b11∨vB v0 z
def BuQ(m b11 lo nx:Nat)(w:List Nat×List Nat)(l:List Pb)(ns:List (List (List Nat)))(out:List Fk)(v0:Value)(r:Int×List Fk)(v:Value)(h':Heap):Prop:=
 v= .int .i64 r.1/\(∃mm,h'.get m=some (.map (fT mm))/\mc w l ns mm)/\∃v1,h'.get b11=some (.cells [v1] true 1)/\Own lo h' 3 v1 (out.length+r.2.length) (jB (out++r.2))/\∀z,vB v1 z->vB v0 z∨nx<=z
theorem BdH.log{e h:Heap}{q m d a b c lo:Nat}{w:List Nat×List Nat}{l:List Pb}{ns:List (List (List Nat))}(B:BdH e h q m d a b c lo w l ns)(k:List Nat):BdH e {h with log:=k} q m d a b c lo w l ns:=⟨B.wf.log k,B.nx,B.old,B.mem,B.g8,B.g10,B.g12⟩
variable{sz:Nat}{cs:List Value}
theorem jO{n z:Nat}(s:Own lo h sz v n cs)(b:vB v z):lo<=z/\z<h.next:=by
 obtain⟨a,c,rfl⟩:=b;cases s with
 |full h1 h2=>exact⟨h1,h2⟩
theorem uj{n:Nat}(s:Own lo h sz v n cs)(b:h.next<=h'.next)(a:∀z,vB v z->h'.get z=h.get z):Own lo h' sz v n cs:=by
 cases s with
 |nil=>exact .nil
 |full h1 h2 h3 h4 h5=>exact .full h1 (by omega) ((a _ ⟨_,_,rfl⟩).trans h3) h4 h5
theorem JI(F:I9 T){K:Heap}(du:WF K){q m E o g j:Nat}{pv nv ov:Value}{l:List Pb}(Q0:QuH K q m w pv nv ov l os ns)(hc:∀p∈l,1<=p.cost/\p.cost<=1000)(N:BdN K lo E o g j m):
 ∀(k:Nat) {f:List Nat} {h:Heap} {out:List Fk} {v0:Value},f.length=8->(bG l.length f).length<k->bT w l ns f<100000->Rdy h->BdH K h q m E o g j lo w l ns->h.get g=some (.cells [v0] true 1)->Own lo h 3 v0 out.length (jB out)->out.length+2 ^ k<=1000000→
 Gs T 36 [fV f, .pointer (some ⟨o,0,none⟩), .pointer (some ⟨E,0,none⟩), .pointer (some ⟨g,0,none⟩), .pointer (some ⟨j,0,none⟩)] h (SB m g v0) (BuQ m g lo h.next w l ns out v0 (eN w l ns k f out.length)):=by
 intro k;induction k with
 |zero=>intro f h out v0 _ hk;omega
 |succ k ih=>
  intro f h out v0 hf hk gg hr B i6 ow ld;have hp:=F.bu.va.op.qu.p;have hN:=N;obtain⟨⟨a1,a2⟩,⟨a3,a4⟩,⟨a5,a6⟩,⟨a7,a8⟩,d1,d2,d3,lm⟩:=hN;have ol:=B.nx;rw[ut]at ld;have oX:1<=2 ^ k:=xx (by omega);have nz:=Q0.hl;refine Gs.ofM hp F.f146 ?_;have jn:=gu f;refine cI (E0:=[(1, .pointer (some ⟨o,0,none⟩)),(2, .pointer (some ⟨E,0,none⟩)),(3, .pointer (some ⟨g,0,none⟩)),(4, .pointer (some ⟨j,0,none⟩)),(5, .pointer (some ⟨h.next,0,none⟩))]) (P:=λt=>Ext h t∧t.next=h.next+1/\t.get h.next=some (.cells (fL f) true 1)) ?_ ?_
  ·refine Y3 ?_;refine bH ?_;refine y1 ?_;rw[jn];exact⟨rfl,rfl,rfl,(Ext.refl h).push _,rfl,z3 _ _⟩
  rintro H ⟨x0,n0,g5⟩;have W:=x0.wf hr.wf;have hL:=x0.log.trans hr.log;have BH:BdH K H q m E o g j lo w l ns:=B.step N W x0.next (λz i _ _=>x0.old z (by omega)) (by
   obtain⟨mm,u1,u2⟩:=B.mem;exact⟨mm,(x0.old m (by omega)).trans u1,u2⟩)
  have Q:=(x0.old g (by omega)).trans i6;have dC:=ow.ext x0;have QH:=BH.qu N du Q0;have bo:=BH.g10;have ph:=iE hf;have pi:=fP hf;have C1:=mI F.bu.va hc _ (h:={H with log:=[]}) (.of W) (QH.log []) hf (bl _);unfold vfV at bo;by_cases U:bT w l ns f=0
  ·have hJ:an .eql (.int .i64 (bT w l ns f)) (.int .i64 0)=some (.bool true):=mD U;refine Y5 ?_;refine FW.gsL C1 (λv t m q=>q) ?_;rintro _ s x1 ⟨rfl,I,A,G⟩;have n1:=x1.next
   have jp:∀z∈s.log,SB m g v0 z:=λz i=>(x1.log z i).elim (λq=>by rw[hL]at q;cases q) λq=> .inl q;have e1:eN w l ns (k+1) f out.length=(-1,[]):=by rw[eN,if_pos U]
   rw[e1];have o1:∀z,z<H.next->z≠m->s.get z=H.get z:=λz i r=>x1.old z i r
   have gt:∀h2:Heap,h.next<=h2.next->(∀x,x<h.next->h2.get x=s.get x)->BuQ m g lo h.next w l ns out v0 (-1,[]) (.int .i64 (-1)) h2:=λh2 ke ha=>by
    refine⟨rfl,⟨I,(ha m (by omega)).trans A,G⟩,v0,(ha g (by omega)).trans ((o1 g (by omega) (by omega)).trans Q),?_,λz i=> .inl i⟩;have:=uj ow ke λz i=>by
     have V:=jO ow i;exact(ha z V.2).trans ((o1 z (by omega) (by omega)).trans (x0.old z V.2))
    simpa using this
   refine Y8 ?_;exact qz jp rfl (gt s (by omega) λ_ _=>rfl) (.inr gt)
  have hJ:an .eql (.int .i64 (bT w l ns f)) (.int .i64 0)=some (.bool false):=iH U;obtain⟨aE,io⟩:=yy hc (by omega) U gg;obtain⟨il,nl⟩:=fB.1 aE
  have e1:eN w l ns (k+1) f out.length=((out.length:Int),⟨(fR (ei w l ns f) (bG l.length f):Nat),(eN w l ns k (f.set (fR (ei w l ns f) (bG l.length f)) 1) (out.length+1)).1,(eN w l ns k (f.set (fR (ei w l ns f) (bG l.length f)) 2) (out.length+1+(eN w l ns k (f.set (fR (ei w l ns f) (bG l.length f)) 1) (out.length+1)).2.length)).1⟩::
   ((eN w l ns k (f.set (fR (ei w l ns f) (bG l.length f)) 1) (out.length+1)).2++(eN w l ns k (f.set (fR (ei w l ns f) (bG l.length f)) 2) (out.length+1+(eN w l ns k (f.set (fR (ei w l ns f) (bG l.length f)) 1) (out.length+1)).2.length)).2)):=by rw[eN,if_neg U]
  refine Y5 ?_;refine FW.gsL C1 (λv t m q=>q) ?_;clear C1;rintro _ s x1 ⟨rfl,I,A,G⟩;have n1:=x1.next
  have o1:∀z,z<H.next->z≠m->s.get z=H.get z:=λz i r=>x1.old z i r
  have W1:=x1.wf W;have l1:∀z∈s.log,SB m g v0 z:=λz i=>(x1.log z i).elim (λq=>by rw[hL]at q;cases q) λq=> .inl q;have B1:BdH K s q m E o g j lo w l ns:=BH.step N W1 n1 (λz i r _=>o1 z (by omega) r) ⟨I,A,G⟩;have da:=(o1 h.next (by omega) (by omega)).trans g5;have cd:=(o1 g (by omega) (by omega)).trans Q;have hZ:Own lo s 3 v0 out.length (jB out):=uj dC n1 λz i=>by
   have V:=jO dC i;exact o1 z V.2 (by omega)
  clear bo hJ x1;refine Y5 ?_;refine cI (E0:=[(1, .pointer (some ⟨o,0,none⟩)),(2, .pointer (some ⟨E,0,none⟩)),(3, .pointer (some ⟨g,0,none⟩)),(4, .pointer (some ⟨j,0,none⟩)),(5, .pointer (some ⟨h.next,0,none⟩)),(7, .pointer (some ⟨s.next,0,none⟩))]) (P:=λt=>Ext s t∧t.next=s.next+1/\t.get s.next=some (.cells [.slice none 0 0] true 1)) ?_ ?_
  ·refine Y2 ?_;refine bH ?_;refine y1 ?_;exact⟨rfl,rfl,rfl,(Ext.refl s).push _,rfl,z3 _ _⟩
  rintro H2 ⟨x2,n2,eh⟩;have W2:=x2.wf W1;have B2:BdH K H2 q m E o g j lo w l ns:=B1.step N W2 x2.next (λz i _ _=>x2.old z (by omega)) ⟨I,(x2.old m (by omega)).trans A,G⟩
  have i7:=(x2.old _ (by omega)).trans da;have ib:=B2.g8;have C2:=AU F.bu.va.op (h:={H2 with log:=[]}) (.of W2) (.pointer (some ⟨q,0,none⟩)) f rfl;refine Y5 ?_;refine FW.al C2 (λv t m q=>q) ?_;clear C2;rintro _ C x3 ⟨rfl,n3,ae,ar⟩;have n3:C.next=H2.next+2:=n3
  have ae:C.get H2.next=some (.cells [.pointer (some ⟨q,0,none⟩)] true 1):=ae
  have ar:C.get (H2.next+1)=some (.cells (fL f) true 1):=ar;have M:=x2.trans x3;have W3:=x3.wf W2;have B3:BdH K C q m E o g j lo w l ns:=B1.step N W3 M.next (λz i _ _=>M.old z (by omega)) ⟨I,(M.old m (by omega)).trans A,G⟩
  have eI:=(x3.old _ (by omega)).trans eh;have Q3:=B3.qu N du Q0;generalize hfn:(.func (.func 66) #[] #[.pointer (some ⟨H2.next,0,none⟩), .pointer (some ⟨H2.next+1,0,none⟩)]:Value)=fn;generalize hL0:(.loop (bE (.pointer (some ⟨o,0,none⟩)) (.pointer (some ⟨E,0,none⟩)) (.pointer (some ⟨g,0,none⟩)) (.pointer (some ⟨j,0,none⟩)) (.pointer (some ⟨h.next,0,none⟩)) s.next fn) [22] GZ G6 0 .normal:bM)=L0;have Y:GU T s.next (C.next+1) C.next s.next (λp=> .int .i64 ((p:Nat):Int)) (bG l.length f) (PAl C.next s.next C L0):=by
   rw[←hL0];exact Pp hp (by omega) (sh (jL _ _) (by omega))
  rw[←hfn];refine Y2 ?_;refine Fz (lo:=s.next) (P:=PAl C.next s.next C L0 (bG l.length f)) rfl (by rfl) (by rw[F.bu.va.op.f228];rfl) (by omega) (by omega) W3 ?_ (λHh p=>by
   have:=p.loop;rw[←hL0]at this;exact⟨_,_,_,_,this⟩) ?_
  ·have S:=hL0;rw[←hfn]at S;unfold bE GZ G6 at S;rw[S];have o6:∀z,z<C.next->(C.push L0).get z=C.get z:=λz i=>z4 i
   have Q6:QuH {C.push L0 with log:=[]} q m w pv nv ov l os ns:=Q3.keep W3 (ti _) (λz i _=>o6 z i) ⟨I,(o6 m (by omega)).trans ((M.old m (by omega)).trans A),G⟩;refine KN F.bu.va.op (h:={C.push L0 with log:=[]}) (.of (W3.push L0)) Q6 hf (b1:=H2.next) (b2:=H2.next+1) ((o6 _ (by omega)).trans ae) Y (bl _) (by show s.next<=C.next+1;omega) (λd Hh p=>(p.old _ (by omega) (by omega)).trans ar) ⟨λz i _=>o6 z i,z3 _ _,⟨_,(o6 _ (by omega)).trans eI, .nil⟩,go _⟩
  intro h4 Z k1 W4 k3 k4 k5 k6 hP;clear Y;refine Y2 ?_;obtain⟨vl,gl,i5⟩:=hP.ow;have eJ:=(k5 s.next (by omega)).trans gl;have i0:Own (C.next+1) Z 1 vl (bG l.length f).length (rf (bG l.length f)):=i5.keep (by omega) λz q1 q2=>k5 z (by omega);have u:∀z,z<s.next->Z.get z=s.get z:=λz i=>(k6 z i).trans (M.old z i)
  have B4:BdH K Z q m E o g j lo w l ns:=B1.step N W4 (by omega) (λz i _ _=>u z (by omega)) ⟨I,(u m (by omega)).trans A,G⟩;have dT:=(u _ (by omega)).trans da;have eQ:∀z∈Z.log,SB m g v0 z:=λz i=>by
   rw[k1,M.log]at i;exact l1 z i
  clear hP k5 k6 gl i5 eI B3 B2 Q3 ae ar ib i7 eh W2;refine cI (E0:=[(3, .pointer (some ⟨g,0,none⟩)),(4, .pointer (some ⟨j,0,none⟩)),(5, .pointer (some ⟨h.next,0,none⟩)),(7, .pointer (some ⟨s.next,0,none⟩)),(9, .pointer (some ⟨Z.next,0,none⟩))]) (P:=λt=>Ext Z t∧t.next=Z.next+1/\t.get Z.next=some (.cells [woV E o h.next] true 1)) ?_ ?_
  ·refine Y4 ?_;refine bH ?_;refine y1 ?_;exact⟨rfl,rfl,rfl,((Ext.refl Z).push _).wr (bl _) (by omega),rfl,Heap.aI (z3 _ _)⟩
  rintro H5 ⟨x5,n5,eK⟩;have W5:=x5.wf W4;have B5:BdH K H5 q m E o g j lo w l ns:=B4.step N W5 x5.next (λz i _ _=>x5.old z (by omega)) ⟨I,(x5.old m (by omega)).trans ((u m (by omega)).trans A),G⟩
  have dj:=(x5.old _ (by omega)).trans dT;have i9:=(x5.old _ (by omega)).trans eJ;have i4:=i0.ext x5;have Q5:=B5.qu N du Q0;have oi:=jL l.length f;have ju:0<(bG l.length f).length:=List.length_pos_of_mem aE;have C3:=KM F.bu (h:={H5 with log:=[]}) (.of W5) hc (Q5.log []) hf (b1:=E) (b2:=o) (b3:=h.next) (b9:=Z.next) B5.g8 B5.g10 dj eK (L:=bG l.length f) ((i4.slice (by omega)).log []) (λp hp=>(fB.1 hp).1) (by omega);refine Y4 ?_;refine FW.gsL C3 (λv t lg q=>q) ?_;clear C3;rintro _ D x6 ⟨rfl,hY,dp,fd⟩;have n6:=x6.next
  have o6:∀z,z<H5.next->z≠m->D.get z=H5.get z:=λz i r=>x6.old z i r
  have W6:=x6.wf W5;have B6:BdH K D q m E o g j lo w l ns:=B5.step N W6 n6 (λz i r _=>o6 z (by omega) r) ⟨hY,dp,fd⟩;have e9:=(o6 _ (by omega) (by omega)).trans dj;have X:∀z,z<s.next->z≠m->D.get z=s.get z:=λz i r=>(o6 z (by omega) r).trans ((x5.old z (by omega)).trans (u z i))
  have cf:=(X g (by omega) (by omega)).trans cd;have be:Own lo D 3 v0 out.length (jB out):=uj hZ (by omega) λz i=>by
   have V:=jO ow i;exact X z (by omega) (by omega)
  have f0:∀z∈D.log,SB m g v0 z:=λz i=>(x6.log z i).elim (λq=>by rw[x5.log]at q;exact eQ z q) λq=> .inl q;clear x5 x6 o6 B5 B4 B1 eK i9 dj dT eJ i4 i0 A hZ Q5;generalize fR (ei w l ns f) (bG l.length f)=b at*;have lc:out.length<1000000:=by omega
  obtain⟨va,vc,lf⟩:=(be.slice (by omega)).form;subst lf;refine Y6 ?_;refine cI (E0:=[(3, .pointer (some ⟨g,0,none⟩)),(4, .pointer (some ⟨j,0,none⟩)),(5, .pointer (some ⟨h.next,0,none⟩)),(10, .int .i64 (b:Nat)),(12, .int .i64 (out.length:Nat))]) (P:=λt=>D=t) ?_ ?_
  ·refine Y4 ?_;refine bH ?_;refine y1 ?_;exact⟨rfl,rfl,rfl,rfl⟩
  rintro _ rfl;refine cI (E0:=[(3, .pointer (some ⟨g,0,none⟩)),(4, .pointer (some ⟨j,0,none⟩)),(5, .pointer (some ⟨h.next,0,none⟩)),(10, .int .i64 (b:Nat)),(12, .int .i64 (out.length:Nat))]) (P:=λt=>∃v2,(∀z,vB v2 z->D.next<=z)/\Own lo t 3 v2 (out++[⟨b,0,0⟩]:List Fk).length (jB (out++[⟨b,0,0⟩]))/\t.get g=some (.cells [v2] true 1)/\g∈t.log/\(∀z∈t.log,SB m g (.slice va out.length vc) z)/\(∀z,z<D.next->z≠g->¬vB (.slice va out.length vc) z->t.get z=D.get z)/\WF t∧D.next<=t.next) ?_ ?_
  ·refine Y4 ?_;refine aG (iu (by exact rfl) (by exact rfl)) ?_;refine WO.Hu ?_;intro hA aw;have xA:Ext D hA:=by rw[aw];exact(Ext.refl D).push _
   have nA:hA.next=D.next+1:=by rw[aw];rfl
   have gA:hA.get D.next=some (.cells [.int .i64 (b:Nat), .int .i64 0, .int .i64 0] true 3):=by rw[aw];exact z3 _ _
   clear aw;refine Eb (c1:=[.int .i64 (b:Nat), .int .i64 0, .int .i64 0]) (be.ext xA) lc (by omega) (by omega) (by exact rfl) (by exact rfl) (jy gA rfl rfl) rfl rfl ?_;intro H7 bi n7 lr w7 o7;have J:H7.get g=some (.cells [.slice va out.length vc] true 1):=(o7 g (by omega) (λq a c e e2=>by
    have:=jO be ⟨a,c,e⟩;omega)).trans ((xA.old g (by omega)).trans cf)
   refine yS ?_;refine bH ?_;refine y1 ?_;exact⟨rfl,rfl,rfl,_,(λz ⟨a,c,e⟩=>by cases e;omega),((by rw[ec,CG];exact bi:Own hA.next H7 3 _ (out++[⟨b,0,0⟩]:List Fk).length (jB (out++[⟨b,0,0⟩]))).low (by omega)).keep (bl _) (λz i _=>z5 (by omega)),Heap.aI J,BQ (by omega),(λz i=>by
    rcases dy i with rfl|i
    ·exact .inr (.inl rfl)
    ·rcases lr z i with i|i
     ·exact f0 z (xA.log▸i)
     ·exact .inr (.inr i)),(λz i r U=>(z5 r).trans ((o7 z (by omega) λq a c e e2=>U ⟨a,c,e2▸e⟩).trans (xA.old z i))),(w7 (xA.wf W6)).as (AS.wr _ _ _ _),(by show D.next<=H7.next;omega)⟩
  rintro H7 ⟨v2,ba,bi,J,fg,f7,o7,W7,n7⟩;have fY:∀z,z<lo->¬vB (.slice va out.length vc) z:=λz i U=>by
   have:=jO ow U;omega
  have B7:BdH K H7 q m E o g j lo w l ns:=B6.step N W7 n7 (λz i r fw=>o7 z (by omega) fw (fY z i)) ⟨hY,(o7 m (by omega) (by omega) (fY m (by omega))).trans dp,fd⟩;have eg:=(o7 h.next (by omega) (by omega) (λU=>by
   have:=jO ow U;omega)).trans e9
  have cJ:=B7.g12;clear o7 B6 e9 cf dp be u X f0 eQ l1 da g5 o1 cd W6 Q dC W BH QH;have f9:b<f.length:=by omega
  have m9:=jm (n:=l.length) (f:=f) (a:=1) f9 (by omega) aE;have nf:=jm (n:=l.length) (f:=f) (a:=2) f9 (by omega) aE;have ip:(f.set b 1).length=8:=by rw[lp];exact hf
  have ix:(f.set b 2).length=8:=by rw[lp];exact hf
  have cY:bT w l ns (f.set b 1)<100000/\bT w l ns (f.set b 2)<100000:=by
   have h1:=(lW hc il).1;unfold ei at io;omega
  have pb:=GI (w:=w) (l:=l) (ns:=ns) (k:=k) (f:=f.set b 1) (a:=out.length+1);have C4:=kN F.bu.va.op (h:={H7 with log:=[]}) (.of W7) hf (p:=b) (a:=1) (by omega);have I1:=ih (f:=f.set b 1) (h:={H7 with log:=[]}) (out:=out++[⟨b,0,0⟩]) (v0:=v2) ip (by omega) cY.1 (.of W7) (B7.log []) J (bi.log []) (by rw[ec,wl];omega);rw[show(out++[⟨b,0,0⟩]:List Fk).length=out.length+1 from by rw[ec,wl]]at I1;unfold buV at cJ;generalize hR1:eN w l ns k (f.set b 1) (out.length+1)=R1 at*;refine Y6 ?_;refine FW.puD C4 (by(repeat apply aC rfl);apply ah rfl (af rfl (bJ (by exact rfl) (by assumption) (by exact rfl)) (by refine qh ?_ ?_;exact gI;refine bI (dL _) ?_;refine bI (dL _) ?_;refine bI (dL _) ?_;refine bI (dL _) ?_;exact gI)) rfl;exact aY) ?_;clear C4;skip;refine qC ?_;refine FW.R4 I1 (λv t lg ⟨q1,q2,v1,q3,O,q5⟩=>⟨q1,q2,v1,q3,O.log lg,q5⟩) ?_;clear I1;rintro _ H8 pj x8 lO ⟨rfl,⟨lw,ie,jz⟩,v3,ci,dv,lh⟩;have n8:=x8.next
  have W8:=x8.wf W7;have o8:∀z,z<lo->z≠m->z≠g->H8.get z=H7.get z:=λz i h1 h2=>x8.old z (by omega) λhS=>by
   rcases hS with e|e|e
   ·exact h1 e
   ·exact h2 e
   ·have:=ba z e;omega
  have B8:BdH K H8 q m E o g j lo w l ns:=B7.step N W8 n8 o8 ⟨lw,ie,jz⟩;have i8:=(x8.old h.next (by omega) λhS=>by
   rcases hS with e|e|e
   ·omega
   ·omega
   ·have:=ba _ e;omega).trans eg
  have cP:=B8.g12;have fj:=x8.Sd _ fg;have f8:∀z∈H8.log,SB m g (.slice va out.length vc) z:=λz i=>(x8.OJ z i).elim (f7 z) λ⟨q,hb⟩=>by
   rcases q with e|e|e
   ·exact .inl e
   ·exact .inr (.inl e)
   ·have:=ba z e;omega
  have d9:∀z,vB v3 z->D.next<=z:=λz i=>(lh z i).elim (ba z) λe=>by
   have:H7.next<=z:=e
   omega
  refine⟨_,by apply aC rfl;exact aY,?_⟩;clear B7 eg cJ bi J W7 f7 fg;have pf:=GI (w:=w) (l:=l) (ns:=ns) (k:=k) (f:=f.set b 2) (a:=out.length+1+R1.2.length);have C5:=kN F.bu.va.op (h:={H8 with log:=[]}) (.of W8) hf (p:=b) (a:=2) (by omega);rw[←List.length_append]at dv;have I2:=ih (f:=f.set b 2) (h:={H8 with log:=[]}) (out:=(out++[⟨b,0,0⟩])++R1.2) (v0:=v3) ix (by omega) cY.2 (.of W8) (B8.log []) ci (dv.log []) (by rw[ec,ec,wl];omega);rw[show((out++[⟨b,0,0⟩])++R1.2:List Fk).length=out.length+1+R1.2.length from by rw[ec,ec,wl]]at I2;unfold buV at cP;generalize hR2:eN w l ns k (f.set b 2) (out.length+1+R1.2.length)=R2 at*;refine Y10 ?_;refine FW.puD C5 (by(repeat apply aC rfl);apply ah rfl (af rfl (bJ (by exact rfl) (by assumption) (by exact rfl)) (by refine qh ?_ ?_;exact gI;refine bI (dL _) ?_;refine bI (dL _) ?_;refine bI (dL _) ?_;refine bI (dL _) ?_;exact gI)) rfl;exact aY) ?_;clear C5;skip;refine qC ?_;refine FW.R4 I2 (λv t lg ⟨q1,q2,v1,q3,O,q5⟩=>⟨q1,q2,v1,q3,O.log lg,q5⟩) ?_;clear I2;rintro _ H9 pk x9 m8 ⟨rfl,⟨lL,ii,kd⟩,v4,dE,bj,ll⟩;have n9:=x9.next
  have W9:=x9.wf W8;have fp:=x9.Sd _ fj;have ik:∀z∈H9.log,SB m g (.slice va out.length vc) z:=λz i=>(x9.OJ z i).elim (f8 z) λ⟨q,hb⟩=>by
   rcases q with e|e|e
   ·exact .inl e
   ·exact .inr (.inl e)
   ·have:=d9 z e;omega
  have ge:∀z,vB v4 z->D.next<=z:=λz i=>(ll z i).elim (d9 z) λe=>by
   have:H8.next<=z:=e
   omega
  refine⟨_,by apply aC rfl;exact aY,?_⟩;clear B8 i8 cP dv ci W8 f8 x9 x8;rw[show((out++[⟨b,0,0⟩])++R1.2++R2.2:List Fk)=out++⟨b,0,0⟩::(R1.2++R2.2)from by simp]at bj;obtain⟨nn,fX⟩:∃nn,nn=((out++[⟨b,0,0⟩])++R1.2:List Fk).length+R2.2.length:=⟨_,rfl⟩;rw[←fX]at bj;rw[ec,ec,wl]at fX;generalize hcs:jB (out++⟨b,0,0⟩::(R1.2++R2.2))=cs at bj;cases bj with
  |nil=>omega
  | @full O _ _ q1 q2 q3 q5 q6=>
  have oY:=ge O ⟨_,_,rfl⟩;refine Y14 ?_;refine nW rfl rfl rfl (by exact rfl) (by exact rfl) (by exact rfl) (by assumption) (by exact rfl) (by exact rfl) (by omega) (by omega) (by omega) (by(repeat apply aC rfl);apply ah rfl (af rfl (dD (by exact rfl)) (by exact bY _ _)) rfl;apply aC rfl;apply ah rfl (af rfl (dD (by exact rfl)) (by exact bY _ _)) rfl;apply ah rfl (af rfl (bJ (by exact rfl) YG (by exact rfl)) (by exact eH _ _ _)) rfl;(repeat apply aC rfl);exact aY) ?_;refine Y2 ?_;refine nW rfl rfl rfl (by exact rfl) (by exact rfl) (by exact rfl) YG (by exact rfl) (by exact rfl) (by(simp only[aK,lp];omega)) (by(simp only[z1,z2];omega)) (by omega) (by(repeat apply aC rfl);exact aY) ?_;refine Y8 ?_;have cX:=Ot (a:=out) (c:=R1.2++R2.2) (p:=b) (y:=0) (z:=0) (y':=R1.1) (z':=R2.1);rw[hcs]at cX;rw[cX,e1];have fb:((H9.wr h.next O (.cells (cs.set (0+out.length*3+1) (.int .i64 R1.1)) true 3)).wr h.next O (.cells (jB (out++⟨b,R1.1,R2.1⟩::(R1.2++R2.2))) true 3)).log=H9.log:=by rw[Heap.aD (by omega),Heap.aD (by omega)]
  have old:∀z,z≠O->((H9.wr h.next O (.cells (cs.set (0+out.length*3+1) (.int .i64 R1.1)) true 3)).wr h.next O (.cells (jB (out++⟨b,R1.1,R2.1⟩::(R1.2++R2.2))) true 3)).get z=H9.get z:=λz i=>(z5 i).trans (z5 i);have cj:=(old g (by omega)).trans dE;refine qz (λz i=>ik z (fb▸i)) rfl ⟨rfl,⟨lL,(old m (by omega)).trans ii,kd⟩,_,cj,?_,λz ⟨a,c,e⟩=> .inr (by cases e;omega)⟩ (.inl ⟨g,by omega,by rw[fb];exact fp,_,_,_,cj,rfl⟩);have:=Own.full (lo:=lo) (sz:=3) (n:=nn) q1 (h:=(H9.wr h.next O (.cells (cs.set (0+out.length*3+1) (.int .i64 R1.1)) true 3)).wr h.next O (.cells (jB (out++⟨b,R1.1,R2.1⟩::(R1.2++R2.2))) true 3)) q2 (Heap.aI (Heap.aI q3)) (by rw[kV];simp only[ec,pm];omega) q6;rw[show out.length+(⟨b,R1.1,R2.1⟩::(R1.2++R2.2):List Fk).length=nn from by simp only[ec,pm];omega];exact this
end Go.A.Pk
end
section
namespace Go.A.Pk
structure Sta where
 found:List Nat
 cost:Int
def lkS(s:List Sta)(g:List Nat):Int:=match s.find? (λx=>decide (eX x.found=g))with|some x=>x.cost|none=>0
theorem Gc{s:List Sta}{g:List Nat}(h:lkS s g≠0):∃x∈s,eX x.found=g/\x.cost=lkS s g:=by
 unfold lkS at h⊢;cases hq:s.find? (λx=>decide (eX x.found=g))with
 |none=>rw[hq]at h;exact absurd rfl h
 |some x=>exact⟨x,List.mem_of_find?_eq_some hq,by simpa using List.find?_some hq,rfl⟩
def kX(f:List Nat):Nat:=f.foldl (λn k=>3*n+k) 0
theorem wJ:∀(f:List Nat) (a:Nat),f.foldl (λn k=>3*n+k) a=3 ^ f.length*a+kX f
 |[],a=>by simp[kX]
 |k::f,a=>by
  have e:kX (k::f)=f.foldl (λn k=>3*n+k) (3*0+k):=rfl;rw[List.foldl_cons,wJ f,e,wJ f (3*0+k),pm,ut,Nat.mul_add,←Nat.mul_assoc];rw[Nat.mul_add (3 ^ f.length) (3*0) k];omega
theorem wH(k:Nat)(f:List Nat):kX (k::f)=3 ^ f.length*k+kX f:=by
 have e:kX (k::f)=f.foldl (λn k=>3*n+k) (3*0+k):=rfl;rw[e,wJ];simp
theorem Ew:∀{f:List Nat},(∀k∈f,k<=2)->kX f<3 ^ f.length
 |[],_=>by decide
 |k::f,h=>by
  have h1:=Ew (f:=f) λx b=>h x (bz _ b);have a:=h k b6;rw[wH,pm,ut];have:3 ^ f.length*k<=3 ^ f.length*2:=sT _ a;omega
def AV:List Nat->List Nat->Bool
 |[],[]=>false
 |[],_::_=>true
 |_::_,[]=>false
 |a::f,b::g=>if a<b then true else if b<a then false else AV f g
theorem AW:∀{f g:List Nat},f.length=g.length->(∀k∈f,k<=2)->(∀k∈g,k<=2)->(AV f g=true↔kX f<kX g)
 |[],[],_,_,_=>by simp[AV,kX]
 |[],_::_,h,_,_=>by simp at h
 |_::_,[],h,_,_=>by simp at h
 |a::f,b::g,h,h1,h2=>by
  have hl:f.length=g.length:=by simpa using h
  have e:=AW hl (λx c=>h1 x (bz _ c)) (λx c=>h2 x (bz _ c));have i:=Ew (f:=f) λx c=>h1 x (bz _ c);have d:=Ew (f:=g) λx c=>h2 x (bz _ c);rw[wH,wH,←hl];rw[←hl]at d;unfold AV;by_cases q1:a<b
  ·rw[if_pos q1];have:3 ^ f.length*(a+1)<=3 ^ f.length*b:=sT _ q1;rw[Nat.mul_succ]at this;simp only[true_iff];omega
  ·rw[if_neg q1];by_cases q2:b<a
   ·rw[if_pos q2];have:3 ^ f.length*(b+1)<=3 ^ f.length*a:=sT _ q2;rw[Nat.mul_succ]at this;simp only[rc,false_iff];omega
   ·rw[if_neg q2];obtain rfl:a=b:=by omega
    rw[e];omega
section
variable (w:List Nat×List Nat) (l:List Pb) (ns:List (List (List Nat)))
def CJ(s:List Sta):Prop:=(∀x∈s,x.found.length=l.length/\(∀k∈x.found,k<=2)/\1<=x.cost/\x.cost<=100000)/\∀(i:Nat) x y,s[i]? =some x->s[i+1]? =some y->kX x.found<kX y.found
def rE(lk:List Nat->Int)(f:List Nat)(c:Int)(p a:Nat):Bool:=bsB w (l.zip (f.set p a))&&(decide (c<=dx l p)||decide (c-dx l p<=lk (f.set p a)))
def pJ(lk:List Nat->Int)(f:List Nat)(c:Int):Bool:=(bG l.length f).all λp=>rE w l lk f c p 1||rE w l lk f c p 2
def Ca(s:List Sta)(cost:Int):Prop:=CJ l s/\(∀x∈s,eG w l ns (eX x.found)=true/\pJ w l (lkS s) (eX x.found) x.cost=true)/\(cost<=0∨cost<=lkS s z8)
end
section
variable {w:List Nat×List Nat} {l:List Pb} {ns:List (List (List Nat))}
variable{s:List Sta}
theorem GX(c:∀p∈l,1<=p.cost/\p.cost<=1000)(G:l.length<=8)(h1:CJ l s)(i:∀x∈s,eG w l ns (eX x.found)=true/\pJ w l (lkS s) (eX x.found) x.cost=true):∀(k:Nat) x,x∈s->(bG l.length (eX x.found)).length<=k->x.cost<=bT w l ns (eX x.found):=by
 intro k;induction k using Nat.strongRecOn with
 |ind k ih=>
  intro x g F;obtain⟨C,D,E,h⟩:=h1.1 x g;obtain⟨t,u⟩:=i x g;have m:(eX x.found).length=8:=nS (by omega);rw[qT (by omega),t,if_pos rfl];refine A4 h λp d=> ?_;have o:=(fB.1 d).1;have f:=List.all_eq_true.1 u p d;have z:=(gN (w:=w) (ns:=ns) (hc0 c) ((eX x.found).set p 1)).1;have A:=(gN (w:=w) (ns:=ns) (hc0 c) ((eX x.found).set p 2)).1;have b:∀a,a≠0->rE w l (lkS s) (eX x.found) x.cost p a=true->x.cost<=dx l p+bT w l ns ((eX x.found).set p a):=λa j q=>by
   unfold rE at q;rw[ed,oB,decide_eq_true_eq,decide_eq_true_eq]at q;have v:=(gN (w:=w) (ns:=ns) (hc0 c) ((eX x.found).set p a)).1;rcases q.2 with q2|q2
   ·omega
   ·by_cases hz:lkS s ((eX x.found).set p a)=0
    ·omega
    ·obtain⟨y,r,e,B⟩:=Gc hz;have n:=jm (a:=a) (by omega) j d;have:=ih (bG l.length ((eX x.found).set p a)).length (by omega) y r (by rw[e];exact bl _);rw[e]at this;omega
  rw[oB]at f;rcases f with q|q
  ·have:=b 1 (by omega) q;omega
  ·have:=b 2 (by omega) q;omega
theorem NV(a:∀p∈l,1<=p.cost/\p.cost<=1000)(f:l.length<=8){cost:Int}(h:Ca w l ns s cost):cost<=bT w l ns z8:=by
 obtain⟨c,d,e⟩:=h;have j:=(gN (w:=w) (ns:=ns) (hc0 a) z8).1;rcases e with q|q
 ·omega
 ·by_cases hz:lkS s z8=0
  ·omega
  ·obtain⟨y,g,b,i⟩:=Gc hz;have:=GX a f c d _ y g (bl _);rw[b]at this;omega
def iP(w:List Nat×List Nat)(l:List Pb)(ns:List (List (List Nat))):Nat->Nat->List Nat->List (List Nat)
 |0,_,f=>if eG w l ns f then [f]else []
 |k+1,i,f=>iP w l ns k (i+1) (f.set i 0)++(iP w l ns k (i+1) (f.set i 1)++iP w l ns k (i+1) (f.set i 2))
def Av(w:List Nat×List Nat)(l:List Pb)(ns:List (List (List Nat))):List Sta:=(iP w l ns l.length 0 z8).map λf=>⟨f.take l.length,bT w l ns f⟩
theorem vz:∀{k i:Nat} {f g:List Nat},i+k<=f.length->(g∈iP w l ns k i f↔eG w l ns g=true/\g.length=f.length/\(∀j,j<i->g.getD j 0=f.getD j 0)/\(∀j,i<=j->j<i+k->g.getD j 0<=2)/\∀j,i+k<=j->g.getD j 0=f.getD j 0):=by
 intro k;induction k with
 |zero=>
  intro i f g _;unfold iP;by_cases ho:eG w l ns f=true
  ·rw[if_pos ho,wd];constructor
   ·rintro rfl;exact⟨ho,rfl,λ_ _=>rfl,λj m d=>by omega,λ_ _=>rfl⟩
   ·rintro⟨m,d,h,_,n⟩;refine List.ext_getElem d λj r s=> ?_;have:g.getD j 0=f.getD j 0:=by
     rcases xG j i with q|q
     ·exact h j q
     ·exact n j q
    rw[kK,kK,bx r,bx s]at this;exact this
  ·rw[if_neg ho];constructor
   ·intro q;cases q
   ·rintro⟨m,d,h,_,n⟩;exfalso;apply ho;have e:g=f:=by
     refine List.ext_getElem d λj r s=> ?_;have:g.getD j 0=f.getD j 0:=by
      rcases xG j i with q|q
      ·exact h j q
      ·exact n j q
     rw[kK,kK,bx r,bx s]at this;exact this
    rw[←e];exact m
 |succ k ih=>
  intro i f g z;have t:∀a,(f.set i a).length=f.length:=λa=>lp;have c:∀a j,(f.set i a).getD j 0=if j=i then a else f.getD j 0:=λa j=>sY (by omega)
  have o:∀a,g∈iP w l ns k (i+1) (f.set i a)↔eG w l ns g=true/\g.length=f.length/\(∀j,j<i->g.getD j 0=f.getD j 0)/\g.getD i 0=a/\(∀j,i+1<=j->j<i+1+k->g.getD j 0<=2)/\∀j,i+1+k<=j->g.getD j 0=f.getD j 0:=λa=>by
   rw[ih (by rw[t];omega),t];constructor
   ·rintro⟨m,d,h,p,n⟩;refine⟨m,d,λj v=> ?_,?_,p,λj v=> ?_⟩
    ·rw[h j (by omega),c,if_neg (by omega)]
    ·rw[h i (by omega),c,if_pos rfl]
    ·rw[n j v,c,if_neg (by omega)]
   ·rintro⟨m,d,h,p,n,u⟩;refine⟨m,d,λj v=> ?_,n,λj v=> ?_⟩
    ·rw[c];by_cases q:j=i
     ·rw[if_pos q,q,p]
     ·rw[if_neg q,h j (by omega)]
    ·rw[c,if_neg (by omega),u j v]
  unfold iP;rw[wp,wp,o,o,o];constructor
  ·rintro(⟨m,d,h,p,n,u⟩|⟨m,d,h,p,n,u⟩|⟨m,d,h,p,n,u⟩)<;>
   ·refine⟨m,d,h,λj r s=> ?_,λj v=>u j (by omega)⟩;by_cases q:j=i
    ·subst q;omega
    ·exact n j (by omega) (by omega)
  ·rintro⟨m,d,h,p,n⟩;have u:=p i (bl _) (by omega);have x:∀j,i+1<=j->j<i+1+k->g.getD j 0<=2:=λj a b=>p j (by omega) (by omega);have y:∀j,i+1+k<=j->g.getD j 0=f.getD j 0:=λj a=>n j (by omega);have:g.getD i 0=0∨g.getD i 0=1∨g.getD i 0=2:=by omega
   rcases this with q|q|q
   ·exact .inl ⟨m,d,h,q,x,y⟩
   ·exact .inr (.inl ⟨m,d,h,q,x,y⟩)
   ·exact .inr (.inr ⟨m,d,h,q,x,y⟩)
theorem Oy:∀{k i:Nat} {f:List Nat},i+k<=f.length->(∀g∈iP w l ns k i f,3 ^ k*kX (f.take i)<=kX (g.take (i+k))/\kX (g.take (i+k))<3 ^ k*(kX (f.take i)+1))/\(iP w l ns k i f).Pairwise λa b=>kX (a.take (i+k))<kX (b.take (i+k)):=by
 intro k;induction k with
 |zero=>
  intro i f _;unfold iP;split
  ·refine⟨λg c=> ?_,List.pairwise_singleton _ _⟩;rw[wd]at c;subst c;rw[ww,Nat.pow_zero];omega
  ·exact⟨λg c=>(by cases c),List.Pairwise.nil⟩
 |succ k ih=>
  intro i f t;have s:i<f.length:=by omega
  have u:∀a,(f.set i a).take (i+1)=f.take i++[a]:=λa=>by
   rw[zs (by rw[lp];exact s),List.getElem_set_self,List.take_set_of_le (bl _)]
  have v:∀a,kX ((f.set i a).take (i+1))=3*kX (f.take i)+a:=λa=>by
   rw[u];unfold kX;rw[yr];rfl
  have d:=λa=>ih (i:=i+1) (f:=f.set i a) (by rw[lp];omega);simp only[v,show i+1+k=i+(k+1)by omega]at d;obtain⟨m,x⟩:=d 0;obtain⟨h,y⟩:=d 1;obtain⟨n,z⟩:=d 2;generalize kX (f.take i)=X at*;have o:3 ^ (k+1)*X=3 ^ k*(3*X+0):=by rw[ut,Nat.mul_assoc];rfl
  have p:3 ^ k*(3*X+0+1)=3 ^ k*(3*X+1):=rfl;have q:3 ^ k*(3*X+1+1)=3 ^ k*(3*X+2):=rfl;have r:3 ^ (k+1)*(X+1)=3 ^ k*(3*X+2+1):=by rw[ut,Nat.mul_assoc];rfl
  have A:3 ^ k*(3*X+0)<=3 ^ k*(3*X+1):=sT _ (by omega);have B:3 ^ k*(3*X+1)<=3 ^ k*(3*X+2):=sT _ (by omega);have C:3 ^ k*(3*X+2)<=3 ^ k*(3*X+2+1):=sT _ (by omega);rw[p]at m;rw[q]at h;rw[o,r];unfold iP;refine⟨λg c=> ?_,?_⟩
  ·rcases List.mem_append.1 c with c|c
   ·have:=m g c;omega
   ·rcases List.mem_append.1 c with c|c
    ·have:=h g c;omega
    ·have:=n g c;omega
  ·refine List.pairwise_append.2 ⟨x,List.pairwise_append.2 ⟨y,z,λa j b e=> ?_⟩,λa j b e=> ?_⟩
   ·have:=h a j;have:=n b e;omega
   ·have:=m a j;rcases List.mem_append.1 e with e|e
    ·have:=h b e;omega
    ·have:=n b e;omega
variable{f:List Nat}
theorem N1(k:IsW w)(z:∀p∈l,IsS p.cells)(L:l.length<=f.length)(d:bsB w (l.zip f)=true){p:Nat}(J:p∈bG l.length f):bsB w (l.zip (f.set p 1))=true∨bsB w (l.zip (f.set p 2))=true:=by
 obtain⟨D,K⟩:=fB.1 J;have o:=yJ (f:=f) z;have v:=tR k.a o;unfold bsB at d;rw[ed]at d;have r:Sub (bsS w.1 (l.zip f)) w.2:=(mV v k.b).1 d.1;have t:=Ax.1 d.2;have C:∀(i:Nat) (a:Nat) x,(l.zip (f.set p a))[i]? =some x->(i=p/\l[p]? =some x.1/\x.2=a)∨(i≠p/\(l.zip f)[i]? =some x):=λi a x h=>by
  obtain⟨H,u⟩:=List.getElem?_zip_eq_some.1 h;rw[zc]at u;by_cases e:p=i
  ·subst e;rw[if_pos rfl,if_pos (by omega)]at u;exact .inl ⟨rfl,H,(Option.some.inj u).symm⟩
  ·rw[if_neg e]at u;exact .inr ⟨λq=>e q.symm,List.getElem?_zip_eq_some.2 ⟨H,u⟩⟩
 have g:∀(a:Nat) x,x∈l.zip (f.set p a)->(l[p]? =some x.1/\x.2=a)∨x∈l.zip f:=λa x j=>by
  obtain⟨i,I⟩:=List.mem_iff_getElem?.1 j;rcases C i a x I with q|q
  ·exact .inl q.2
  ·exact .inr (eA q.2)
 obtain⟨y,E⟩:∃y,l[p]? =some y:=⟨l[p],bx D⟩;have F:=z y (eA E);cases hin:sIn y.cells (bsS w.1 (l.zip f))with
 |true=>
  left;have c:=yJ (f:=f.set p 1) z;have m:=tR k.a c;have n:Sub (bsS w.1 (l.zip (f.set p 1))) (bsS w.1 (l.zip f)):=qw k.a c (sN k.a o) λx j s=>by
   rcases g 1 x j with⟨q,_⟩|q
   ·rw[E]at q;cases q;exact(mV F v).1 hin
   ·exact vq k.a o x q s
  unfold bsB;rw[(mV m k.b).2 (n.trans r),rn,Ax];intro x j s;rcases g 1 x j with⟨_,q⟩|q
  ·omega
  ·have G:=t x q s;cases h2:sIn x.1.cells (bsS w.1 (l.zip (f.set p 1)))with
   |false=>rfl
   |true=>
    have A:=(mV (c x j) m).1 h2;rw[(mV (c x j) v).2 (A.trans n)]at G;cases G
 |false=>
  right;have c:=yJ (f:=f.set p 2) z;have m:=tR k.a c;have n:Sub (bsS w.1 (l.zip (f.set p 2))) (bsS w.1 (l.zip f)):=qw k.a c (sN k.a o) λx j s=>by
   rcases g 2 x j with⟨_,q⟩|q
   ·omega
   ·exact vq k.a o x q s
  unfold bsB;rw[(mV m k.b).2 (n.trans r),rn,Ax];intro x j s;cases h2:sIn x.1.cells (bsS w.1 (l.zip (f.set p 2)))with
  |false=>rfl
  |true=>
   have A:=(mV (c x j) m).1 h2;have B:=(mV (c x j) v).2 (A.trans n);rcases g 2 x j with⟨q,_⟩|q
   ·rw[E]at q;have e:=Option.some.inj q;rw[e,B]at hin;cases hin
   ·rw[t x q s]at B;cases B
theorem Dr(h:eG w l ns f=true):bsB w (l.zip f)=true:=by
 unfold eG at h;rw[ed]at h;exact h.1
theorem xq{n:Nat}(f:n<=8){g:List Nat}(e:g.length=8)(d:∀j,n<=j->g.getD j 0=0):eX (g.take n)=g:=by
 refine List.ext_getElem (by rw[nS (by rw[m6];omega),e]) λj b a=> ?_;have c:(eX (g.take n))[j]? =g[j]? :=by
  unfold eX;rcases xG j n with q|q
  ·rw[hG (by rw[m6];omega),gS q]
  ·rw[gK (by rw[m6];omega),List.getElem?_replicate,m6,if_pos (by omega)];have:=d j q;rw[kK,bx a]at this;rw[bx a];exact congrArg some this.symm
 rw[bx b,bx a]at c;exact Option.some.inj c
theorem tL(j:Nat):z8.getD j 0=0:=by
 rcases xG j 8 with q|q
 ·rw[kK,Wo q];rfl
 ·rw[kK,re (by exact q)];rfl
theorem Jn(a:l.length<=8){g:List Nat}(d:g.length=8)(k:∀j,j<l.length->g.getD j 0<=2)(e:∀j,l.length<=j->g.getD j 0=0)(ho:eG w l ns g=true):lkS (Av w l ns) g=bT w l ns g:=by
 have m:g∈iP w l ns l.length 0 z8:=(vz (by rw[hX];exact a)).2 ⟨ho,d,λj c=>by omega,λj _ c=>k j (by omega),λj c=>by rw[e j (by omega),tL]⟩;unfold lkS;cases hq:(Av w l ns).find? (λx=>decide (eX x.found=g))with
 |none=>
  exfalso;rw[List.find?_eq_none]at hq;have:=hq ⟨g.take l.length,bT w l ns g⟩ (List.mem_map.2 ⟨g,m,rfl⟩);rw[xq a d e]at this;simp at this
 |some x=>
  have h:=List.mem_of_find?_eq_some hq;have i:eX x.found=g:=by simpa using List.find?_some hq
  obtain⟨f,b,rfl⟩:=List.mem_map.1 h;obtain⟨_,n,_,_,o⟩:=(vz (by rw[hX];exact a)).1 b;have:f=g:=by
   rw[←i];exact(xq a n λj c=>by rw[o j (by omega),tL]).symm
  rw[this]
theorem NU(X:IsW w)(J:∀p∈l,IsS p.cells)(z:∀p∈l,1<=p.cost/\p.cost<=1000)(t:l.length<=8){cost:Int}(A:cost<=bT w l ns z8):Ca w l ns (Av w l ns) cost:=by
 have d:∀g∈iP w l ns l.length 0 z8,eG w l ns g=true/\g.length=8/\(∀j,j<l.length->g.getD j 0<=2)/\∀j,l.length<=j->g.getD j 0=0:=λg s=>by
  obtain⟨u,C,_,F,Y⟩:=(vz (by rw[hX];exact t)).1 s;exact⟨u,C,λj o=>F j (md _) (by omega),λj o=>by rw[Y j (by omega),tL]⟩
 have W:∀g∈iP w l ns l.length 0 z8,1<=bT w l ns g/\bT w l ns g<=100000:=λg s=>by
  obtain⟨u,C,_,_⟩:=d g s;exact⟨(jA z (by omega)).1.1 u,(gN (w:=w) (ns:=ns) (hc0 z) g).2⟩
 refine⟨⟨λx B=> ?_,λi x y B K=> ?_⟩,λx B=> ?_,?_⟩
 ·obtain⟨g,s,rfl⟩:=List.mem_map.1 B;obtain⟨u,C,L,F⟩:=d g s;refine⟨by dsimp only;rw[m6];omega,λk T=> ?_,W g s⟩;obtain⟨j,o⟩:=List.mem_iff_getElem?.1 T;have I:=(List.getElem?_eq_some_iff.1 o).1;rw[m6]at I;rw[gS (by omega)]at o;have:=L j (by omega);rw[kK,o]at this;exact this
 ·unfold Av at B K;rw[rb]at B K;obtain⟨a,H,rfl⟩:=Option.map_eq_some_iff.1 B;obtain⟨b,P,rfl⟩:=Option.map_eq_some_iff.1 K;have E:=(Oy (w:=w) (l:=l) (ns:=ns) (k:=l.length) (i:=0) (f:=z8) (by rw[hX];exact t)).2;obtain⟨N,M⟩:=List.getElem?_eq_some_iff.1 H;obtain⟨O,G⟩:=List.getElem?_eq_some_iff.1 P;have:=List.pairwise_iff_getElem.1 E i (i+1) N O (by omega);rw[M,G,hX]at this;exact this
 ·obtain⟨g,s,rfl⟩:=List.mem_map.1 B;obtain⟨u,C,L,F⟩:=d g s;dsimp only;rw[xq t C F];refine⟨u,List.all_eq_true.2 λp E=> ?_⟩;have V:=(fB.1 E).1;have e:=qT (w:=w) (l:=l) (ns:=ns) (f:=g) (by omega);rw[u,if_pos rfl]at e;have G:=A8 (λp=>dx l p+max (bT w l ns (g.set p 1)) (bT w l ns (g.set p 2))) (c:=100000) E;rw[←e]at G;have v:=λa=>(gN (w:=w) (ns:=ns) (hc0 z) (g.set p a)).1;have n:∀a,(g.set p a).length=8:=λa=>by rw[lp];exact C
  have r:∀a,a<=2->bsB w (l.zip (g.set p a))=true->bT w l ns g<=dx l p+bT w l ns (g.set p a)->rE w l (lkS (Av w l ns)) g (bT w l ns g) p a=true:=λa H D U=>by
   unfold rE;rw[D,rn,oB,decide_eq_true_eq,decide_eq_true_eq];by_cases hz:bT w l ns (g.set p a)=0
   ·left;omega
   ·right;rw[Jn t (n a) (λj o=> ?_) (λj o=> ?_) ((jA z (by rw[n];exact t)).1.2 (by have:=v a;omega))]
    ·omega
    ·rw[sY (by omega)];split
     ·exact H
     ·exact L j o
    ·rw[sY (by omega),if_neg (by omega)];exact F j o
  have m:∀a,1<=bT w l ns (g.set p a)->bsB w (l.zip (g.set p a))=true:=λa h=>Dr ((jA z (by rw[n];exact t)).1.2 h);have Q:=v 1;have S:=v 2;rw[oB];by_cases q1:1<=bT w l ns (g.set p 1)/\bT w l ns (g.set p 2)<=bT w l ns (g.set p 1)
  ·exact .inl (r 1 (by omega) (m 1 q1.1) (by omega))
  ·by_cases q2:1<=bT w l ns (g.set p 2)
   ·exact .inr (r 2 (by omega) (m 2 q2) (by omega))
   ·rcases N1 X J (by omega) (Dr u) E with q|q
    ·exact .inl (r 1 (by omega) q (by omega))
    ·exact .inr (r 2 (by omega) q (by omega))
 ·by_cases hz:bT w l ns z8=0
  ·left;omega
  ·right;have Z:=(gN (w:=w) (ns:=ns) (hc0 z) z8).1;rw[Jn t rfl (λj _=>by rw[tL];omega) (λj _=>tL j) ((jA (w:=w) (ns:=ns) (f:=z8) z t).1.2 (by omega))];exact A
end
end Go.A.Pk
end
section
namespace Go.A
variable {T:Nat->Option aq} {base:Nat} {rnd:Option Nat} {Q:XQ} {e:Env} {ds:Dfs} {h:Heap}
theorem FW.XH{f:Nat}{args:List Value}{S:Nat->Prop}{d:Value->Heap->Prop}{K:List Rec->Env->Heap->Prop}{mask:Nat}{rs:List Rec}{dst:Option Nat}(H:Gs T f args {h with log:=[]} S d)
 (i:∀v h' lg,WsL base S h h'→(∀z∈lg,S z)->(∀z∈lg,z<base->z∈h'.log)->d v {h' with log:=lg}->∃a,br h' base lg mask rs=some a∧K a (bN e dst v) h'):FW T (.func f) args {h with log:=[]} (KD K base mask rs dst e h.log):=by
 refine .func (CW.mono H ?_);rintro r b ⟨g,v,rfl,k⟩;obtain⟨a,l,m⟩:=i v {b with log:=aB base h.log b.log} b.log g.JM (λz c=>(g.log z c).elim (λq=>by cases q) id) (λz c j=>mem_merge j c) k;refine⟨?_⟩;show kD K base mask rs dst e h.log (.ret v) b;unfold kD;simp only[l];exact m
end Go.A
namespace Go.A.Pk
variable {T:Nat->Option aq}
def fsL(L:List (List Nat)):List Value:=L.flatMap fL
theorem Ou(a b:List (List Nat)):fsL (a++b)=fsL a++fsL b:=by unfold fsL;rw[vy]
theorem Ov(f:List Nat):fsL [f]=fL f:=by unfold fsL;simp
def Bf(w:List Nat×List Nat)(l:List Pb)(ns:List (List (List Nat)))(k i:Nat)(f:List Nat)(j:Nat):List (List Nat):=(List.range j).flatMap λa=>iP w l ns k (i+1) (f.set i a)
theorem nT{w:List Nat×List Nat}{l:List Pb}{ns:List (List (List Nat))}{k i:Nat}{f:List Nat}{j:Nat}:Bf w l ns k i f (j+1)=Bf w l ns k i f j++iP w l ns k (i+1) (f.set i j):=by
 unfold Bf;rw[A1,vy];simp
theorem Mf{w:List Nat×List Nat}{l:List Pb}{ns:List (List (List Nat))}{k i:Nat}{f:List Nat}:Bf w l ns k i f 3=iP w l ns (k+1) i f:=by
 rw[nT,nT,nT];show([]++_++_)++_=_;rw[iP,vd,rr]
theorem AK{w:List Nat×List Nat}{l:List Pb}{ns:List (List (List Nat))}:∀{k i:Nat} {f:List Nat},(iP w l ns k i f).length<=3 ^ k:=by
 intro k;induction k with
 |zero=>intro i f;unfold iP;split<;>simp
 |succ k ih=>
  intro i f;have a:=ih (i:=i+1) (f:=f.set i 0);have b:=ih (i:=i+1) (f:=f.set i 1);have c:=ih (i:=i+1) (f:=f.set i 2);rw[iP,ec,ec,ut];omega
theorem DD{w:List Nat×List Nat}{l:List Pb}{ns:List (List (List Nat))}{k i:Nat}{f:List Nat}:∀j,(Bf w l ns k i f j).length<=j*3 ^ k
 |0=>by simp[Bf]
 |j+1=>by
  have h1:=DD (w:=w) (l:=l) (ns:=ns) (k:=k) (i:=i) (f:=f) j;have a:=AK (w:=w) (l:=l) (ns:=ns) (k:=k) (i:=i+1) (f:=f.set i j);rw[nT,ec,sx];omega
theorem J9{h:Heap}{e:Env}{z cs:List Value}{k:Nat}{x:Operand}(a:cs.length=k)(f:z.length=k)(d:ev h e x=some (.agg cs.toArray)):je h e z [(0,k,x)]=some cs:=by
 have b:cellsOf (.agg cs.toArray)=cs:=by show cs.toArray.toList=_;simp
 have c:cW z 0 cs=cs:=by rw[eY (by omega),a,xp,List.drop_eq_nil_of_le (by omega)];simp
 simp only[je,d,b,c,bX,a,f,beq_eq,ble_eq,hX];simp
theorem Dv{lo sz n:Nat}{h h':Heap}{v:Value}{cs:List Value}(s:Own lo h sz v n cs)(a:∀z,vB v z->z<h'.next/\h'.get z=h.get z):Own lo h' sz v n cs:=by
 cases s with
 |nil=>exact .nil
 |full h1 h2 h3 h4 h5=>exact .full h1 (a _ ⟨_,_,rfl⟩).1 ((a _ ⟨_,_,rfl⟩).2.trans h3) h4 h5
structure Jh (T:Nat->Option aq):Prop where
 op:sF T
 f153:T 34=some f153
 f230:T 65=some f230
structure GnN (h0:Heap) (lo b1 b3 b4:Nat):Prop where
 l1:h0.next<=b1/\b1<lo
 l3:h0.next<=b3/\b3<lo
 l4:h0.next<=b4/\b4<lo
 d1:b1≠b3
 d4:b4≠b3
def gnV(b1 b3 b4:Nat):Value:= .func (.func 65) #[] #[.pointer (some ⟨b1,0,none⟩), .pointer (some ⟨b3,0,none⟩), .pointer (some ⟨b4,0,none⟩)]
structure GnH (h0 h:Heap) (q b1 b3 b4 lo:Nat):Prop where
 wf:WF h
 nx:lo<=h.next
 old:∀z,z<h0.next->h.get z=h0.get z
 g1:h.get b1=some (.cells [.pointer (some ⟨q,0,none⟩)] true 1)
 g4:h.get b4=some (.cells [gnV b1 b3 b4] true 1)
theorem GnH.log{b h:Heap}{q b1 b3 a lo:Nat}(G:GnH b h q b1 b3 a lo)(k:List Nat):GnH b {h with log:=k} q b1 b3 a lo:=⟨G.wf.log k,G.nx,G.old,G.g1,G.g4⟩
theorem GnH.step{b h h':Heap}{q b1 b3 a lo:Nat}(G:GnH b h q b1 b3 a lo)(N:GnN b lo b1 b3 a)(j:WF h')(i:h.next<=h'.next)(c:∀z,z<lo->z≠b3->h'.get z=h.get z):GnH b h' q b1 b3 a lo:=by
 obtain⟨⟨l,d⟩,⟨m,n⟩,⟨o,e⟩,f,g⟩:=N;exact⟨j,gd G.nx i,λz k=>(c z (by omega) (by omega)).trans (G.old z k),(c b1 d f).trans G.g1,(c a e g).trans G.g4⟩
theorem GnH.qu{b h:Heap}{q m b1 b3 d lo:Nat}{w:List Nat×List Nat}{i e f:Value}{l:List Pb}{os:List (List Nat)}{ns:List (List (List Nat))}(G:GnH b h q b1 b3 d lo)(N:GnN b lo b1 b3 d)(a:WF b)(c:QuH b q m w i e f l os ns):QuH h q m w i e f l os ns:=by
 obtain⟨n,g,j⟩:=c.mem;exact c.keep a (by have:=N.l1;have:=G.nx;omega) (λz k _=>G.old z k) ⟨n,(G.old m (a.bP g)).trans g,j⟩
def SG(b3:Nat)(v0:Value)(z:Nat):Prop:=z=b3∨vB v0 z
def GnQ(b3 lo nx:Nat)(out:List (List Nat))(v0:Value)(r:List (List Nat))(v:Value)(h':Heap):Prop:=
 v= .tuple #[]/\∃v1,h'.get b3=some (.cells [v1] true 1)/\Own lo h' 8 v1 (out++r).length (fsL (out++r))/\(∀z,vB v1 z->vB v0 z∨nx<=z)/\((b3∈h'.log/\cZ [v1]=false)∨v1=v0)
theorem RY(F:Jh T){D:Heap}(ae:WF D){q m lo b1 b3 r:Nat}{w:List Nat×List Nat}{pv nv ov:Value}{l:List Pb}{os:List (List Nat)}{ns:List (List (List Nat))}(Q0:QuH D q m w pv nv ov l os ns)(N:GnN D lo b1 b3 r):
 ∀(k i:Nat) {f:List Nat} {h:Heap} {out:List (List Nat)} {v0:Value},f.length=8->i+k=l.length->Rdy h->GnH D h q b1 b3 r lo->h.get b3=some (.cells [v0] true 1)->Own lo h 8 v0 out.length (fsL out)->out.length+3 ^ k<=1000000→
 Gs T 65 [fV f, .int .i64 (i:Nat), .pointer (some ⟨b1,0,none⟩), .pointer (some ⟨b3,0,none⟩), .pointer (some ⟨r,0,none⟩)] h (SG b3 v0) (GnQ b3 lo h.next out v0 (iP w l ns k i f)):=by
 have hp:=F.op.qu.p;have hN:=N;obtain⟨⟨a1,a2⟩,⟨a3,a4⟩,⟨a5,a6⟩,d1,d2⟩:=hN;have e9:=Q0.hl;obtain⟨pa,pc,ci⟩:=Q0.sp.form;subst ci;intro k;induction k with
 |zero=>
  intro i f h out v0 o hi Y G g3 C Z;have cf:=G.nx;refine Gs.ofM hp F.f230 ?_;have I:=gu f;refine cI (E0:=[(1, .int .i64 (i:Nat)),(2, .pointer (some ⟨b1,0,none⟩)),(3, .pointer (some ⟨b3,0,none⟩)),(4, .pointer (some ⟨r,0,none⟩)),(5, .pointer (some ⟨h.next,0,none⟩))]) (P:=λg=>Ext h g∧g.next=h.next+1/\g.get h.next=some (.cells (fL f) true 1)) ?_ ?_
  ·refine Y2 ?_;refine bH ?_;refine y1 ?_;rw[I];exact⟨rfl,rfl,rfl,(Ext.refl h).push _,rfl,z3 _ _⟩
  rintro H ⟨n,n0,g5⟩;have W:=n.wf Y.wf;have hL:=n.log.trans Y.log;have L:GnH D H q b1 b3 r lo:=G.step N W n.next (λz d _=>n.old z (by omega))
  have M:=L.qu N ae Q0;have aE:=L.g1;have t:=(n.old b3 (by omega)).trans g3;have y:=C.ext n;have be:=M.gq;have kp:=rq M.hw (.slice pa l.length pc) nv ov (.map (some m));have aw:=iE o;have cJ:=fP o;have m1:an .eql (.int .i64 (i:Nat)) (.int .i64 (l.length:Nat))=some (.bool true):=mD (by omega);have C1:=tA F.op (h:={H with log:=[]}) (.of W) (M.log []) o;refine Y16 ?_;refine FW.pu C1 ?_;clear C1;by_cases O:eG w l ns f=true
  ·have s:iP w l ns 0 i f=[f]:=by rw[iP,if_pos O]
   rw[O,s];refine Y13 ?_;refine aG (iu (J9 (by rw[dJ,o]) rfl (by exact rfl)) rfl) ?_;refine WO.Hu ?_;intro hA u;have xA:Ext H hA:=by rw[u];exact(Ext.refl H).push _
   have nA:hA.next=H.next+1:=by rw[u];rfl
   have gA:hA.get H.next=some (.cells (fL f) true 8):=by rw[u];exact z3 _ _
   clear u;refine Eb (c1:=fL f) (y.ext xA) (by omega) (by omega) (by omega) (by exact rfl) (by exact rfl) (jy gA aw (by rw[dJ,o])) (by rw[dJ,o]) (ot f) ?_;intro H7 da n7 cX w7 o7;have Q:H7.get b3=some (.cells [v0] true 1):=(o7 b3 (by omega) (λq a c e B=>by
    have:=jO C ⟨a,c,e⟩;omega)).trans ((xA.old b3 (by omega)).trans t)
   refine Y4 ?_;refine qz (λz d=> ?_) rfl ⟨rfl,_,Heap.aI Q,?_,λz ⟨a,c,e⟩=> .inr (by cases e;omega), .inl ⟨BQ (by omega),rfl⟩⟩ (.inl ⟨b3,by omega,BQ (by omega),_,_,_,Heap.aI Q,rfl⟩)
   ·rcases dy d with rfl|d
    ·exact .inl rfl
    ·rcases cX z d with d|d
     ·rw[xA.log,hL]at d;cases d
     ·exact .inr d
   ·have B:fsL (out++[f])=fsL out++fL f:=by rw[Ou,Ov]
    rw[B,ec];exact(da.low (by omega)).keep (bl _) (λz d _=>z5 (by omega))
  ·have O:eG w l ns f=false:=by simpa using O
   have s:iP w l ns 0 i f=[]:=by rw[iP,O];rfl
   rw[O,s];have ar:∀S:Heap,h.next<=S.next->(∀x,x<h.next->S.get x=H.get x)->GnQ b3 lo h.next out v0 [] (.tuple #[]) S:=λS bo U=>by
    refine⟨rfl,v0,(U b3 (by omega)).trans t,?_,λz d=> .inl d, .inr rfl⟩;rw[oC];exact Dv y λz d=>by
     have:=jO C d;exact⟨by omega,U z this.2⟩
   refine Y14 ?_;exact qz (λz d=>by rw[hL]at d;cases d) rfl (ar H (by omega) λ_ _=>rfl) (.inr ar)
 |succ k ih=>
  intro i f h out v0 o hi Y G g3 C Z;have cf:=G.nx;refine Gs.ofM hp F.f230 ?_;have I:=gu f;refine cI (E0:=[(1, .int .i64 (i:Nat)),(2, .pointer (some ⟨b1,0,none⟩)),(3, .pointer (some ⟨b3,0,none⟩)),(4, .pointer (some ⟨r,0,none⟩)),(5, .pointer (some ⟨h.next,0,none⟩))]) (P:=λg=>Ext h g∧g.next=h.next+1/\g.get h.next=some (.cells (fL f) true 1)) ?_ ?_
  ·refine Y2 ?_;refine bH ?_;refine y1 ?_;rw[I];exact⟨rfl,rfl,rfl,(Ext.refl h).push _,rfl,z3 _ _⟩
  rintro H ⟨n,n0,g5⟩;have W:=n.wf Y.wf;have hL:=n.log.trans Y.log;have L:GnH D H q b1 b3 r lo:=G.step N W n.next (λz d _=>n.old z (by omega))
  have M:=L.qu N ae Q0;have aE:=L.g1;have t:=(n.old b3 (by omega)).trans g3;have y:=C.ext n;have be:=M.gq;have kp:=rq M.hw (.slice pa l.length pc) nv ov (.map (some m));have aw:=iE o;have cJ:=fP o;have m1:an .eql (.int .i64 (i:Nat)) (.int .i64 (l.length:Nat))=some (.bool false):=iH (by omega);have bj:i<8:=by omega
  rw[ut]at Z;have eg:1<=3 ^ k:=xx (by omega);rw[←Mf];refine Y18 ?_;refine cT (λk' e ds g=>∃(j:Nat) (A:Value),j<=3/\3-j=k'∧e=[(1, .int .i64 (i:Nat)),(4, .pointer (some ⟨r,0,none⟩)),(5, .pointer (some ⟨h.next,0,none⟩)),(29, .agg ([.int .u8 0, .int .u8 1, .int .u8 2]:List Value).toArray),(30, .int .i64 (j:Nat))]/\ds=[]/\WF g∧H.next<=g.next/\(∀z∈g.log,SG b3 v0 z)/\(∀z,z<H.next->¬SG b3 v0 z->g.get z=H.get z)/\g.get b3=some (.cells [A] true 1)/\Own lo g 8 A (out++Bf w l ns k i f j).length (fsL (out++Bf w l ns k i f j))/\(∀z,vB A z->vB v0 z∨H.next<=z)/\((b3∈g.log/\cZ [A]=false)∨A=v0)) ⟨0,v0,by omega,rfl,rfl,rfl,W,bl _,(λz d=>by rw[hL]at d;cases d),λ_ _ _=>rfl,t,(by show Own lo H 8 v0 (out++[]).length (fsL (out++[]));rw[oC];exact y),λz d=> .inl d, .inr rfl⟩ ?_;rintro k' e ds X ⟨j,A,dE,dT,rfl,rfl,Wj,nj,lj,oj,gj,K,v,J⟩;by_cases hlt:j<3
  ·have cY:an .lss (.int .i64 (j:Nat)) (.int .i64 3)=some (.bool true):=dY (by omega);have ki:bK (([.int .u8 0, .int .u8 1, .int .u8 2]:List Value).toArray).toList (j*1)=some (.int .u8 (j:Nat)):=by
    rcases(by omega:j=0∨j=1∨j=2)with rfl|rfl|rfl<;>rfl
   have d9:∀z,z<lo->z≠b3->X.get z=H.get z:=λz d cd=>oj z (by omega) λE=>by
    rcases E with e|e
    ·exact cd e
    ·have:=jO C e;omega
   have Gj:GnH D X q b1 b3 r lo:=L.step N Wj nj d9;have ba:=Gj.g4;have dC:=(oj h.next (by omega) λE=>by
    rcases E with e|e
    ·omega
    ·have:=jO C e;omega).trans g5
   unfold gnV at ba;have du:an .add (.int .i64 (i:Nat)) (.int .i64 1)=some (.int .i64 ((i+1:Nat):Int)):=by
    have:=jM (a:=(i:Nat)) (b:=1) (bO (by omega) (by omega));exact this
   have dv:an .add (.int .i64 (j:Nat)) (.int .i64 1)=some (.int .i64 ((j+1:Nat):Int)):=by
    have:=jM (a:=(j:Nat)) (b:=1) (bO (by omega) (by omega));exact this
   have C4:=kN F.op (h:={X with log:=[]}) (.of Wj) o (p:=i) (a:=j) bj;have eI:=DD (w:=w) (l:=l) (ns:=ns) (k:=k) (i:=i) (f:=f) j;have eh:j*3 ^ k<=2*3 ^ k:=wx _ (by omega);have I1:=ih (i+1) (f:=f.set i j) (h:={X with log:=[]}) (out:=out++Bf w l ns k i f j) (v0:=A) (by rw[lp];exact o) (by omega) (.of Wj) (Gj.log []) gj (K.log []) (by rw[ec];omega);refine Y10 ?_;refine aG (Ar (by exact rfl) (by exact rfl) (by omega) (by assumption)) ?_;refine Y10 ?_;refine FW.puD C4 (by apply ah rfl (af rfl (zk (by exact rfl) (by exact rfl) (by with_reducible assumption)) (by exact bY _ _)) rfl;apply ah rfl (af rfl (dD (by exact rfl)) (by exact bY _ _)) rfl;(repeat apply aC rfl);apply ah rfl (af rfl (bJ (by exact rfl) (by assumption) (by exact rfl)) (by refine qh ?_ ?_;exact gI;refine bI (dL _) ?_;refine bI (dL _) ?_;refine bI (dL _) ?_;exact gI)) rfl;exact aY) ?_;clear C4;skip;refine qC ?_;refine FW.XH I1 ?_;clear I1;rintro _ h8 eJ x8 dp V ⟨rfl,v8,g8,dj,cj,cP⟩;have n8:=x8.next
   refine⟨_,by(repeat apply aC rfl);exact aY,?_⟩;refine Y8 ?_;refine⟨3-(j+1),by omega,j+1,v8,by omega,rfl,rfl,rfl,x8.wf Wj,by omega,λz d=> ?_,λz d E=>(x8.old z (by omega) λbi=> ?_).trans (oj z d E),g8,?_,λz d=>(cj z d).elim (v z) λe=> .inr (by have:X.next<=z:=e;omega),?_⟩
   ·rcases x8.OJ z d with e|⟨e,hb⟩
    ·exact lj z e
    ·rcases e with e|e
     ·exact .inl e
     ·rcases v z e with e|e
      ·exact .inr e
      ·omega
   ·rcases bi with e|e
    ·exact E (.inl e)
    ·rcases v z e with e|e
     ·exact E (.inr e)
     ·omega
   ·rw[nT,←List.append_assoc];exact dj.log _
   ·rcases cP with⟨s,B⟩|e
    ·exact .inl ⟨V _ s (by omega),B⟩
    ·rw[e];rcases J with⟨s,B⟩|e
     ·exact .inl ⟨x8.Sd _ s,B⟩
     ·exact .inr e
  ·obtain rfl:j=3:=by omega
   have cY:an .lss (.int .i64 ((3:Nat):Int)) (.int .i64 3)=some (.bool false):=rfl;refine Y9 ?_;refine Hq lj rfl ⟨rfl,A,gj,K,λz d=>(v z d).imp id λe=>by omega,J⟩ ?_;rcases J with⟨s,B⟩|rfl
   ·exact .inl ⟨b3,by omega,s,_,_,_,gj,B⟩
   ·refine .inr λS bo U=>⟨rfl,A,(U b3 (by omega)).trans gj,Dv K λz d=> ?_,λz d=> .inl d, .inr rfl⟩;have:=jO C d;exact⟨by omega,U z this.2⟩
theorem IC(F:Jh T){h:Heap}(hr:Rdy h){q m:Nat}{w:List Nat×List Nat}{pv nv ov:Value}{l:List Pb}{os:List (List Nat)}{ns:List (List (List Nat))}(t:QuH h q m w pv nv ov l os ns):
 Al T 34 [.pointer (some ⟨q,0,none⟩)] h (λv b=>Own h.next b 8 v (iP w l ns l.length 0 z8).length (fsL (iP w l ns l.length 0 z8))):=by
 have Y:=F.op.qu.p;refine .of Y F.f153 hr (λv h1 Z o=>Own.Vf Z o) ?_;have kq:=hr.wf.bP t.gq;refine cI (E0:=[(1, .pointer (some ⟨h.next,0,none⟩))]) (P:=λb=>Ext h b∧b.next=h.next+1/\b.get h.next=some (.cells [.pointer (some ⟨q,0,none⟩)] true 1)) ?_ ?_
 ·refine Y3 ?_;refine bH ?_;refine y1 ?_;exact⟨rfl,rfl,rfl,(Ext.refl h).push _,rfl,z3 _ _⟩
 rintro d ⟨x1,n1,V⟩;refine cI (E0:=[(1, .pointer (some ⟨h.next,0,none⟩)),(3, .pointer (some ⟨d.next,0,none⟩))]) (P:=λb=>Ext d b∧b.next=d.next+1/\b.get d.next=some (.cells [.slice none 0 0] true 1)) ?_ ?_
 ·refine Y2 ?_;refine bH ?_;refine y1 ?_;exact⟨rfl,rfl,rfl,(Ext.refl d).push _,rfl,z3 _ _⟩
 rintro g ⟨S,n2,W⟩;refine cI (E0:=[(1, .pointer (some ⟨h.next,0,none⟩)),(3, .pointer (some ⟨d.next,0,none⟩)),(4, .pointer (some ⟨g.next,0,none⟩))]) (P:=λb=>Ext g b∧b.next=g.next+1/\b.get g.next=some (.cells [.nilFunc] true 1)) ?_ ?_
 ·refine Y2 ?_;refine bH ?_;refine y1 ?_;exact⟨rfl,rfl,rfl,(Ext.refl g).push _,rfl,z3 _ _⟩
 rintro M ⟨I,n3,X⟩;refine cI (E0:=[(3, .pointer (some ⟨d.next,0,none⟩)),(4, .pointer (some ⟨g.next,0,none⟩))]) (P:=λb=>Ext h b∧b.next=M.next/\(∀z,z<g.next->b.get z=M.get z)/\b.get g.next=some (.cells [gnV h.next d.next g.next] true 1)) ?_ ?_
 ·refine Y3 ?_;refine bH ?_;refine y1 ?_;exact⟨rfl,rfl,rfl,(x1.trans (S.trans I)).wr (by omega) (by omega),rfl,λz s=>z5 (by omega),Heap.aI X⟩
 rintro k ⟨J,n4,Q,n⟩;have O:=J.wf hr.wf;have A:=J.log.trans hr.log;have u:=(Q _ (by omega)).trans ((I.old _ (by omega)).trans ((S.old _ (by omega)).trans V));have y:=(Q _ (by omega)).trans ((I.old _ (by omega)).trans W);have N:GnN h k.next h.next d.next g.next:=⟨⟨by omega,by omega⟩,⟨by omega,by omega⟩,⟨by omega,by omega⟩,by omega,by omega⟩
 have U:GnH h {k with log:=[]} q h.next d.next g.next k.next:=⟨O.log [],bl _,λz s=>J.old z s,u,n⟩
 have C:=t.hl;have K:=RY F hr.wf t N l.length 0 (f:=z8) (h:={k with log:=[]}) (out:=[]) (v0:= .slice none 0 0) rfl (hX _) (.of O) U y .nil (by
  have:3 ^ l.length<=3 ^ 8:=rh (by omega) C;show 0+3 ^ l.length<=1000000;have:(3:Nat) ^ 8=6561:=by decide
  omega)
 have L:Gs T 65 [fV z8, .int .i64 ((0:Nat):Int), .pointer (some ⟨h.next,0,none⟩), .pointer (some ⟨d.next,0,none⟩), .pointer (some ⟨g.next,0,none⟩)] {k with log:=[]} (SG d.next (.slice none 0 0)) (λv b=>v= .tuple #[]/\∃j,b.get d.next=some (.cells [j] true 1)/\Own k.next b 8 j (iP w l ns l.length 0 z8).length (fsL (iP w l ns l.length 0 z8))):=CW.mono K (by
  rintro r h2 ⟨x,v,rfl,E,j,G,H,q4,q5⟩;exact⟨x,v,rfl,E,j,G,H⟩)
 clear K;have i:=n;unfold gnV at i;refine Y4 ?_;refine FW.gs0 L (λv b lg ⟨E,j,G,H⟩=>⟨E,j,G,H.log lg⟩) (λz s=> ?_) ?_
 ·rcases s with e|⟨a,c,e⟩
  ·omega
  ·cases e
 clear L i;rintro _ H5 n5 l5 o5 w5 ⟨rfl,j,g5,D⟩;have B:=l5.trans A;refine Y6 ?_;exact dG B rfl (D.low (by omega))
end Go.A.Pk
end
section
namespace Go.A.Pk
variable {T:Nat->Option aq}
def zb(w:List Nat×List Nat)(l:List Pb)(os:List (List Nat)):List Fk:=if(pz w l os).2=0 then Fu w l (os.map (dR w))else []
def Rx(lo:Nat)(w:List Nat×List Nat)(l:List Pb)(os:List (List Nat))(v:Value)(h':Heap):Prop:=
 ∃v1,v= .tuple #[v1, .int .i64 (pz w l os).2]/\Own lo h' 3 v1 (zb w l os).length (jB (zb w l os))
structure Q8 (T:Nat->Option aq):Prop where
 bd:I9 T
 od:zh T
 f58:T 11=some f58
variable{h:Heap}
theorem Fv(F:Q8 T)(hr:Rdy h)(hg:Tab h)(h2:0<h.next){w:List Nat×List Nat}(hw:IsW w){pv:Value}{l:List Pb}(sp:PbS h pv l)(hl:l.length<1000000){ov:Value}{os:List (List Nat)}(so:SsQ h ov os)(ci:os.length<1000000):
 Al T 11 [wV w,pv,ov] h (Rx h.next w l os):=by
 have hp:=F.od.va.op.qu.p;refine .of hp F.f58 hr (λv h1 hv ⟨V,e,o⟩=>⟨V,e,?_⟩) ?_
 ·subst e;exact Own.Ve hv o
 have cj:cellsOf (wV w)=wL w:=by show(wL w).toArray.toList=_;simp
 obtain⟨a,c,rfl⟩:=sp.form;obtain⟨a3,c3,rfl⟩:=so.sl.form;have X:Ext h (h.push (.cells (cellsOf (wV w)) true 1)):=(Ext.refl h).push _;have g0:(h.push (.cells (cellsOf (wV w)) true 1)).get h.next=some (.cells (wL w) true 1):=by rw[cj];exact z3 h _
 have n0:(h.push (.cells (cellsOf (wV w)) true 1)).next=h.next+1:=rfl
 refine Y5 ?_;generalize(h.push (.cells (cellsOf (wV w)) true 1))=H at*;have W:=X.wf hr.wf;have hL:=X.log.trans hr.log;have wk:=oN hw;have cY:=kM hw;have C1:=pW F.od (h:={H with log:=[]}) (.of W) (show Tab H from hg.ext X h2) (by show 0<H.next;omega) hw ((sp.ext X).log []) hl ((so.ext X).log []) ci;refine Y5 ?_;refine FW.al C1 (λv b m q=> ?_) ?_
 ·rcases q with q|⟨e,q,m',nv,e1,e2,e3,e4,e5⟩
  ·exact .inl q
  ·exact .inr ⟨e,q,m',nv,e1,e2,e3,e4.log m,e5⟩
 clear C1;rintro _ d Y (⟨B,rfl⟩|⟨B,q,m,nv,rfl,O,cX,Q1,gm⟩)
 ·have e2:(pz w l os).2=opE w l os:=by rw[pE,if_pos B]
  unfold Rx zb;rw[e2,if_neg B];generalize opE w l os=er at*;have A:=Y.log.trans hL;have mn:an .neq (.int .i64 er) (.int .i64 0)=some (.bool true):=jc B;refine Y20 ?_;have n1:H.next<=d.next:=Y.next
  exact dG (by rw[Heap.aD (by omega)];exact A) rfl ⟨_,rfl, .nil⟩
 have O:H.next<=m:=O
 have n1:H.next<=d.next:=Y.next
 have W1:=Y.wf W;have A:=Y.log.trans hL;have kq:=W1.bP Q1.gq;have mn:an .neq (.int .i64 0) (.int .i64 0)=some (.bool false):=rfl;have M:=qP (j4.1 (nR.1 B).1).2.2.2.2;have K:(pz w l os).2=if 100000<=bT w l (os.map (dR w)) z8 then 81 else 0:=by
  rw[pE,if_neg (λq=>q B)];split<;>rfl
 generalize hns:os.map (dR w)=ns at*;refine Y7 ?_;refine WE.vh ?_;intro g hA;have x2:Ext d g:=by rw[hA];exact((Ext.refl d).push _).wr (bl _) (by omega)
 have n2:g.next=d.next+1:=by rw[hA];rfl
 have ae:g.get d.next=some (.cells [.pointer (some ⟨q,0,none⟩)] true 1):=by rw[hA];exact Heap.aI (z3 _ _)
 clear hA;refine Y8 ?_;refine cI (E0:=[(8, .pointer (some ⟨d.next,0,none⟩)),(10, .pointer (some ⟨g.next,0,none⟩))]) (P:=λb=>Ext g b∧b.next=g.next+1/\b.get g.next=some (.cells [vfV q] true 1)) ?_ ?_
 ·refine Y5 ?_;refine bH ?_;refine y1 ?_;exact⟨rfl,rfl,rfl,((Ext.refl g).push _).wr (bl _) (by omega),rfl,Heap.aI (z3 _ _)⟩
 rintro H3 ⟨x3,n3,u⟩;have ar:=(x3.old _ (by omega)).trans ae;have i:=x2.trans x3;have W3:=i.wf W1;have bi:=i.log.trans A;have Q3:QuH H3 q m w _ nv _ l os ns:=Q1.keep W1 i.next (λz s _=>i.old z s) ⟨[],(i.old m (by omega)).trans gm,λx hx=>by cases hx⟩
 have C2:=mI F.bd.bu.va M _ (h:={H3 with log:=[]}) (.of W3) (Q3.log []) (f:=z8) rfl (bl _);have S:an .geq (.int .i64 (bT w l ns z8)) (.int .i64 100000)=some (.bool (decide (100000<=bT w l ns z8))):=tg;have n:=u;unfold vfV at n;refine Y5 ?_;refine FW.gs0 C2 (λv b m q=>q) (λz s=>by omega) ?_;clear C2 n;rintro _ j n4 l4 o4 w4 ⟨rfl,cJ,ba,cd⟩;have W4:=w4 W3;have L:=l4.trans bi;have aw:=(o4 _ (by omega) (by omega)).trans ar;have D:=(o4 _ (by omega) (by omega)).trans u;by_cases hge:100000<=bT w l ns z8
 ·rw[decide_eq_true hge]at S;rw[if_pos hge]at K;unfold Rx zb;rw[K,if_neg (by decide)];refine Y9 ?_;exact dG L rfl ⟨_,rfl, .nil⟩
 rw[decide_eq_false hge]at S;rw[if_neg hge]at K;have Q:bT w l ns z8<100000:=by omega
 refine Y5 ?_;refine cI (E0:=[(8, .pointer (some ⟨d.next,0,none⟩)),(10, .pointer (some ⟨g.next,0,none⟩)),(11, .pointer (some ⟨j.next,0,none⟩))]) (P:=λb=>Ext j b∧b.next=j.next+1/\b.get j.next=some (.cells [.slice none 0 0] true 1)) ?_ ?_
 ·refine Y2 ?_;refine bH ?_;refine y1 ?_;exact⟨rfl,rfl,rfl,(Ext.refl j).push _,rfl,z3 _ _⟩
 rintro k ⟨x5,n5,G⟩;refine cI (E0:=[(8, .pointer (some ⟨d.next,0,none⟩)),(10, .pointer (some ⟨g.next,0,none⟩)),(11, .pointer (some ⟨j.next,0,none⟩)),(12, .pointer (some ⟨k.next,0,none⟩))]) (P:=λb=>Ext k b∧b.next=k.next+1/\b.get k.next=some (.cells [.nilFunc] true 1)) ?_ ?_
 ·refine Y2 ?_;refine bH ?_;refine y1 ?_;exact⟨rfl,rfl,rfl,(Ext.refl k).push _,rfl,z3 _ _⟩
 rintro H6 ⟨x6,n6,J⟩;refine cI (E0:=[(11, .pointer (some ⟨j.next,0,none⟩)),(12, .pointer (some ⟨k.next,0,none⟩))]) (P:=λb=>b.next=H6.next/\b.log=H6.log/\WF b∧(∀z,z<k.next->b.get z=H6.get z)/\b.get k.next=some (.cells [buV d.next g.next j.next k.next] true 1)) ?_ ?_
 ·refine Y3 ?_;refine bH ?_;refine y1 ?_;exact⟨rfl,rfl,rfl,rfl,Heap.aD (by omega),(x6.wf (x5.wf W4)).as (AS.wr _ _ _ _),λz s=>z5 (by omega),Heap.aI J⟩
 rintro C ⟨n7,l7,W7,o7,y⟩;have Z:=x5.trans x6;have bj:=(l7.trans Z.log).trans L;have t:∀z,z<j.next->C.get z=j.get z:=λz s=>(o7 z (by omega)).trans (Z.old z s)
 have aE:=(t _ (by omega)).trans aw;have E:=(t _ (by omega)).trans D;have I:=(o7 _ (by omega)).trans ((x6.old _ (by omega)).trans G);have be:=(t m (by omega)).trans ba;have N:BdN d C.next d.next g.next j.next k.next m:=⟨⟨by omega,by omega⟩,⟨by omega,by omega⟩,⟨by omega,by omega⟩,⟨by omega,by omega⟩,by omega,by omega,by omega,by omega⟩
 have B7:BdH d {C with log:=[]} q m d.next g.next j.next k.next C.next w l ns:=⟨W7.log [],bl _,λz s cf=>(t z (by omega)).trans ((o4 z (by omega) cf).trans (i.old z s)),⟨cJ,be,cd⟩,aE,E,y⟩
 have C3:=JI F.bd W1 Q1 M N 10 (f:=z8) (h:={C with log:=[]}) (out:=[]) (v0:= .slice none 0 0) rfl (sh (jL _ _) (by have:=Q1.hl;omega)) Q (.of W7) B7 I .nil (by decide);have r:=y;unfold buV at r;refine Y4 ?_;refine FW.gs0 C3 (λv b lg ⟨q1,q2,V,q3,q4,q5⟩=>⟨q1,q2,V,q3,q4.log lg,q5⟩) (λz s=> ?_) ?_
 ·rcases s with e|e|⟨a,c,e⟩
  ·omega
  ·omega
  ·cases e
 clear C3 r;rintro _ H8 n8 l8 o8 w8 ⟨rfl,_,V,cP,U,_⟩;have bo:=l8.trans bj;refine Y7 ?_;refine dG bo rfl ⟨V,by rw[K];rfl,?_⟩;unfold zb Fu;rw[K,if_pos rfl,hns];have e:([]:List Fk).length+(eN w l ns 10 z8 ([]:List Fk).length).2.length=(eN w l ns 10 z8 0).2.length:=hX _;rw[e]at U;exact U.low (by omega)
structure vI (T:Nat->Option aq):Prop where
 p:aF T
 f104:T 28=some f104
 f105:T 29=some f105
 f107:T 31=some f107
 f205:T 61=some f205
 f206:T 62=some f206
 f260:T 94=some f260
variable{f:List Nat}{i k:Nat}
theorem J6(h:f[i]? =some k):(fL f)[i]? =some (.int .u8 (k:Nat)):=by simp[fL,h]
def SlJ(h:Heap)(v:Value)(l:List Nat):Prop:=aJ h 1 v l.length (fL l)∨l=[]/\∃b o k,v= .slice (some ⟨b,o,some k⟩) 0 0
theorem SlJ.form{h:Heap}{v:Value}{l:List Nat}(s:SlJ h v l):∃a c,v= .slice a l.length c:=by
 rcases s with s|⟨rfl,b,o,k,rfl⟩
 ·exact aJ.form s
 ·exact⟨_,_,rfl⟩
variable{v:Value}{l:List Nat}
theorem SlJ.src(s:SlJ h v l):dn h 1 v=some (fL l,l.length):=by
 rcases s with s|⟨rfl,b,o,k,rfl⟩
 ·exact BI s
 ·rfl
theorem SlJ.ext{h h':Heap}{v:Value}{l:List Nat}(s:SlJ h v l)(x:Ext h h'):SlJ h' v l:=s.imp (λs=>aJ.ext s x) id
theorem SlJ.log{h:Heap}{v:Value}{l:List Nat}(s:SlJ h v l)(m:List Nat):SlJ {h with log:=m} v l:=s.imp (λs=>aJ.log s m) id
theorem SlJ.uO{h h':Heap}{v:Value}{l:List Nat}(s:SlJ h v l)(b:h.next<=h'.next)(a:∀z,z<h.next->h'.get z=h.get z):SlJ h' v l:=s.imp (λs=>aJ.uO s b a) id
theorem Fm(s:SlJ h v l){x:Value}(hi:(fL l)[i]? =some x):
 ∃b o c vs own t,v= .slice (some ⟨b,o,none⟩) l.length c/\h.get b=some (.cells vs own t)/\b<h.next/\bK vs (o+i*1)=some x:=by
 rcases s with s|⟨rfl,_⟩
 ·exact Rq s hi
 ·simp[fL]at hi
theorem RG(F:vI T)(hr:Rdy h)(k:Nat):Pu T 29 [.int .u8 (k:Nat)] h (.bool (decide (2<k))):=by
 refine .of F.p F.f105 hr rfl ?_;have m:an .gtr (.int .u8 (k:Nat)) (.int .u8 2)=some (.bool (decide (2<k))):=by
  rw[Ge];congr 2;exact decide_eq_decide.2 (by omega)
 refine Y9 ?_;exact au hr.log rfl rfl
def wG:List Nat->Nat->Int
 |[],_=> -1
 |k::l,i=>if 2<k then(i:Int)else wG l (i+1)
theorem HA(hi:l[i]? =some k):wG (l.drop i) i=if 2<k then(i:Int)else wG (l.drop (i+1)) (i+1):=by
 obtain⟨a,rfl⟩:=List.getElem?_eq_some_iff.1 hi;rw[pB a,wG]
theorem CT:∀(l:List Nat) (i:Nat),decide (0<=wG l i)=l.any λk=>decide (2<k)
 |[],_=>rfl
 |k::l,i=>by
  rw[wG,List.any_cons];by_cases h:2<k
  ·rw[if_pos h,decide_eq_true h,Bool.true_or];exact decide_eq_true (by omega)
  ·rw[if_neg h,CT l (i+1),decide_eq_false h,xc]
theorem Kx(F:vI T)(hr:Rdy h)(s:SlJ h v l)(A:l.length<1000000):Pu T 61 [v, .func (.func 29) #[] #[]] h (.int .i64 (wG l 0)):=by
 refine .of F.p F.f205 hr rfl ?_;obtain⟨a,c,rfl⟩:=s.form;refine Y10 ?_
 refine cT (λm e ds j=>∃i:Nat,i<=l.length/\m=l.length-i/\e=[(0, .slice a l.length c),(1, .func (.func 29) #[] #[]),(7, .int .i64 (l.length:Nat)),(8, .int .i64 (i:Nat))]/\ds=[]/\h=j∧wG l 0=wG (l.drop i) i)
  ⟨0,md _,rfl,rfl,rfl,rfl,rfl⟩ ?_
 rintro m e ds _ ⟨i,n,rfl,rfl,rfl,rfl,d⟩;by_cases hlt:i<l.length
 ·obtain⟨k,g⟩:∃r,l[i]? =some r:=⟨l[i],bx hlt⟩;obtain⟨b,o,w,B,u,t,q,x,z,y⟩:=Fm s (J6 g);cases q;have f:an .lss (.int .i64 (i:Nat)) (.int .i64 (l.length:Nat))=some (.bool true):=dY (by omega);have C:=RG F (h:={h with log:=[]}) (.of hr.wf) k;rw[HA g]at d;by_cases h3:2<k
  ·rw[decide_eq_true h3]at C;rw[if_pos h3]at d;rw[d];refine Y20 ?_;refine FW.pu C ?_;refine Y12 ?_;exact au hr.log rfl rfl
  ·rw[decide_eq_false h3]at C;rw[if_neg h3]at d;refine Y20 ?_;refine FW.pu C ?_;refine Y9 ?_;exact⟨l.length-(i+1),by omega,i+1,by omega,rfl,rfl,rfl,rfl,d⟩
 ·obtain rfl:i=l.length:=by omega
  have f:an .lss (.int .i64 (l.length:Nat)) (.int .i64 (l.length:Nat))=some (.bool false):=eM (by omega);rw[zp]at d;have d:wG l 0= -1:=d;rw[d];refine Y14 ?_;exact au hr.log rfl rfl
theorem Cs(F:vI T)(hr:Rdy h)(s:SlJ h v l)(b:l.length<1000000):Pu T 28 [v, .func (.func 29) #[] #[]] h (.bool (l.any λk=>decide (2<k))):=by
 refine .of F.p F.f104 hr rfl ?_;obtain⟨a,c,rfl⟩:=s.form;have C:=Kx F (h:={h with log:=[]}) (.of hr.wf) (SlJ.log s []) b;rw[←CT l 0];generalize wG l 0=z at C⊢;have d:an .geq (.int .i64 z) (.int .i64 0)=some (.bool (decide (0<=z))):=tg;refine Y7 ?_;refine FW.pu C ?_;refine Y4 ?_;exact au hr.log rfl rfl
def cmN(a b:Nat):Int:=if a<b then -1 else if b<a then 1 else 0
def cmF:List Nat->List Nat->Int
 |[],[]=>0
 |[],_::_=> -1
 |_::_,[]=>1
 |a::f,b::g=>if cmN a b≠0 then cmN a b else cmF f g
theorem AA:∀(f g:List Nat),cmF f g<0↔AV f g=true
 |[],[]=>by simp[cmF,AV]
 |[],_::_=>by simp[cmF,AV]
 |_::_,[]=>by simp[cmF,AV]
 |a::f,b::g=>by
  unfold cmF AV cmN;by_cases h1:a<b
  ·rw[if_pos h1,if_pos (by omega),if_pos h1];simp
  ·rw[if_neg h1,if_neg h1];by_cases h2:b<a
   ·rw[if_pos h2,if_pos (by omega),if_pos h2];simp
   ·rw[if_neg h2,if_neg (by omega),if_neg h2];exact AA f g
theorem Lt(F:vI T)(hr:Rdy h)(k:Nat):Pu T 94 [.int .u8 (k:Nat)] h (.bool false):=by
 refine .of F.p F.f260 hr rfl ?_;have m:an .neq (.int .u8 (k:Nat)) (.int .u8 (k:Nat))=some (.bool false):=oD rfl;refine Y10 ?_;exact au hr.log rfl rfl
theorem Oe(F:vI T)(hr:Rdy h)(a b:Nat):Pu T 62 [.int .u8 (a:Nat), .int .u8 (b:Nat)] h (.int .i64 (cmN a b)):=by
 refine .of F.p F.f206 hr rfl ?_;have c:=Lt F (h:={h with log:=[]}) (.of hr.wf) a;have d:=Lt F (h:={h with log:=[]}) (.of hr.wf) b;unfold cmN;by_cases h1:a<b
 ·have e:an .lss (.int .u8 (a:Nat)) (.int .u8 (b:Nat))=some (.bool true):=dY (by omega);rw[if_pos h1];refine Y6 ?_;refine FW.pu c ?_;refine Y5 ?_;refine FW.pu d ?_;refine Y28 ?_;exact au hr.log rfl rfl
 ·have e:an .lss (.int .u8 (a:Nat)) (.int .u8 (b:Nat))=some (.bool false):=eM (by omega);rw[if_neg h1];by_cases h2:b<a
  ·have f:an .gtr (.int .u8 (a:Nat)) (.int .u8 (b:Nat))=some (.bool true):=fM (by omega);rw[if_pos h2];refine Y6 ?_;refine FW.pu c ?_;refine Y5 ?_;refine FW.pu d ?_;refine Y37 ?_;exact au hr.log rfl rfl
  ·have f:an .gtr (.int .u8 (a:Nat)) (.int .u8 (b:Nat))=some (.bool false):=gZ (by omega);rw[if_neg h2];refine Y6 ?_;refine FW.pu c ?_;refine Y5 ?_;refine FW.pu d ?_;refine Y38 ?_;exact au hr.log rfl rfl
theorem JT{g:List Nat}{a b:Nat}(e:f[i]? =some a)(hb:g[i]? =some b):cmF (f.drop i) (g.drop i)=if cmN a b≠0 then cmN a b else cmF (f.drop (i+1)) (g.drop (i+1)):=by
 obtain⟨c,rfl⟩:=List.getElem?_eq_some_iff.1 e;obtain⟨d,rfl⟩:=List.getElem?_eq_some_iff.1 hb;rw[pB c,pB d,cmF]
theorem Oa(F:vI T)(hr:Rdy h){u:Value}{g:List Nat}(s:SlJ h v f)(D:SlJ h u g)(Y:f.length<1000000)(L:g.length<1000000):Pu T 31 [v,u] h (.int .i64 (cmF f g)):=by
 refine .of F.p F.f107 hr rfl ?_;obtain⟨a,c,rfl⟩:=s.form;obtain⟨E,G,rfl⟩:=D.form;refine Y10 ?_
 refine cT (λm e ds I=>∃i:Nat,i<=f.length/\i<=g.length/\m=f.length-i/\e=[(0, .slice a f.length c),(1, .slice E g.length G),(9, .slice a f.length c),(10, .int .i64 (f.length:Nat)),(11, .int .i64 (i:Nat))]/\ds=[]/\h=I∧cmF f g=cmF (f.drop i) (g.drop i))
  ⟨0,md _,md _,rfl,rfl,rfl,rfl,rfl⟩ ?_
 rintro m e ds _ ⟨i,K,y,rfl,rfl,rfl,rfl,d⟩;by_cases hlt:i<f.length
 ·obtain⟨k,z⟩:∃r,f[i]? =some r:=⟨f[i],bx hlt⟩;obtain⟨b,o,S,vs,O,t,M,V,X,H⟩:=Fm s (J6 z);cases M;have w:an .lss (.int .i64 (i:Nat)) (.int .i64 (f.length:Nat))=some (.bool true):=dY (by omega);by_cases hl2:i<g.length
  ·obtain⟨A,j⟩:∃r,g[i]? =some r:=⟨g[i],bx hl2⟩;obtain⟨Q,Z,U,P,B,t2,l,W,J,x⟩:=Fm D (J6 j);cases l;have n:an .geq (.int .i64 (i:Nat)) (.int .i64 (g.length:Nat))=some (.bool false):=ue (by omega);have C:=Oe F (h:={h with log:=[]}) (.of hr.wf) k A;rw[JT z j]at d;generalize cmN k A=cc at*;by_cases h0:cc=0
   ·have N:an .neq (.int .i64 cc) (.int .i64 0)=some (.bool false):=oD h0;rw[if_neg (by simpa using h0)]at d;refine Y37 ?_;refine FW.pu C ?_;refine Y14 ?_;exact⟨f.length-(i+1),by omega,i+1,by omega,by omega,rfl,rfl,rfl,rfl,d⟩
   ·have N:an .neq (.int .i64 cc) (.int .i64 0)=some (.bool true):=jc h0;rw[if_pos h0]at d;rw[d];refine Y37 ?_;refine FW.pu C ?_;refine Y17 ?_;exact au hr.log rfl rfl
  ·obtain rfl:i=g.length:=by omega
   have n:an .geq (.int .i64 (g.length:Nat)) (.int .i64 (g.length:Nat))=some (.bool true):=wQ (by omega);rw[zp,pB hlt,cmF]at d;rw[d];refine Y34 ?_;exact au hr.log rfl rfl
 ·obtain rfl:i=f.length:=by omega
  have w:an .lss (.int .i64 (f.length:Nat)) (.int .i64 (f.length:Nat))=some (.bool false):=eM (by omega);rw[zp]at d;rcases xG f.length g.length with hl2|hl2
  ·have q:an .lss (.int .i64 (f.length:Nat)) (.int .i64 (g.length:Nat))=some (.bool true):=dY (by omega);rw[pB hl2,cmF]at d;rw[d];refine Y24 ?_;exact au hr.log rfl rfl
  ·have q:an .lss (.int .i64 (f.length:Nat)) (.int .i64 (g.length:Nat))=some (.bool false):=eM (by omega);rw[pA hl2,cmF]at d;rw[d];refine Y25 ?_;exact au hr.log rfl rfl
def stL(fs:List Value)(s:List Sta):List Value:=(fs.zip s).flatMap λp=>[p.1, .int .i64 p.2.cost]
theorem Fq:∀{c:List Value} {s:List Sta} {i:Nat} {u:Value} {x:Sta},c[i]? =some u->s[i]? =some x->((stL c s).drop (i*2)).take 2=[u, .int .i64 x.cost]
 |[],_,i,u,x,h,_=>by simp at h
 |_::_,[],i,u,x,_,h=>by simp at h
 |a::c,b::s,0,u,x,h1,h2=>by
  simp at h1 h2;subst h1;subst h2;rfl
 |a::c,b::s,i+1,u,x,h1,h2=>by
  have e:(stL (a::c) (b::s)).drop 2=stL c s:=rfl;rw[show(i+1)*2=2+i*2 by omega,←List.drop_drop,e];exact Fq (by simpa using h1) (by simpa using h2)
structure mZ (h:Heap) (v:Value) (s:List Sta):Prop where
 ex:∃fs:List Value,fs.length=s.length/\aJ h 2 v s.length (stL fs s)/\∀(i:Nat) u x,fs[i]? =some u->s[i]? =some x->SlJ h u x.found
theorem mZ.form{h:Heap}{v:Value}{s:List Sta}(S:mZ h v s):∃a c,v= .slice a s.length c:=by
 obtain⟨d,_,b,_⟩:=S.ex;exact b.form
theorem mZ.ext{h h':Heap}{v:Value}{s:List Sta}(S:mZ h v s)(x:Ext h h'):mZ h' v s:=by
 obtain⟨a,e,d,f⟩:=S.ex;exact⟨a,e,d.ext x,λi u y b c=>(f i u y b c).ext x⟩
theorem mZ.log{h:Heap}{v:Value}{s:List Sta}(S:mZ h v s)(m:List Nat):mZ {h with log:=m} v s:=by
 obtain⟨a,e,d,f⟩:=S.ex;exact⟨a,e,d.log m,λi u y b c=>(f i u y b c).log m⟩
theorem mZ.uO{h h':Heap}{v:Value}{s:List Sta}(S:mZ h v s)(b:h.next<=h'.next)(a:∀z,z<h.next->h'.get z=h.get z):mZ h' v s:=by
 obtain⟨c,e,g,j⟩:=S.ex;exact⟨c,e,aJ.uO g b a,λi u y d f=>SlJ.uO (j i u y d f) b a⟩
theorem mZ.elem{s:List Sta}(S:mZ h v s){x:Sta}(hi:s[i]? =some x):
 ∃b o c d a t u,v= .slice (some ⟨b,o,none⟩) s.length c/\h.get b=some (.cells d a t)/\b<h.next/\cG 2 (cw (o+i*2) d)=[u, .int .i64 x.cost]/\bK d (o+i*2+0)=some u/\SlJ h u x.found:=by
 obtain⟨f,e,n,p⟩:=S.ex;have m:=(List.getElem?_eq_some_iff.1 hi).1;obtain⟨u,j⟩:∃u,f[i]? =some u:=⟨f[i]'(by omega),bx _⟩;rcases aJ.inv n with⟨_,_,h0,_⟩|⟨b,o,cap,hv,s3,hc⟩
 ·omega
 ·obtain⟨d,a,t,k,l⟩:=s3.obj;have g:(d.drop (o+i*2)).take 2=[u, .int .i64 x.cost]:=by
   rw[←Fq j hi,←l];simp only[bQ,aW,EQ,Fd,sf];congr 1;omega
  refine⟨b,o,cap,d,a,t,u,hv,k,s3.lt,by rw[bQ,aW];exact g,?_,p i u x j hi⟩;rw[cH];have:((d.drop (o+i*2)).take 2)[0]? =some u:=by rw[g];rfl
  rw[gS (by omega),me]at this;exact this
end Go.A.Pk
end
section
namespace Go.A
variable {T:Nat->Option aq} {base:Nat} {rnd:Option Nat} {Q:XQ} {e:Env} {ds:Dfs} {h:Heap}
theorem No{lo sz b n:Nat}{ops:List aP}{bf:List Nat}{rs:List Rec}{Q:Env->Heap->Prop}{i mask:Nat}{is:List Nat}{dst:Option Nat}{g:Option (Nat×Bool)}{k:Env}{x y:Operand}{v u:Value}{cs c1:List Value}
 (s:Own lo h sz v n cs)(L:n<1000000)(t:0<sz)(hb:b<=100000)(m:base<=lo)
 (ho:bK ops i=some ⟨dst, .append sz b x y,g⟩)(D:bK bf i=some mask)(C:bD e (cA ⟨dst, .append sz b x y,g⟩)=k)(j:bA k g=some true)
 (F:ev {h with log:=[]} k x=some v)(G:ev {h with log:=[]} k y=some u)(E:dn {h with log:=[]} sz u=some (c1,1))(p:c1.length=sz)(h1:eC c1=true)
 (B:∀h' lg,Own h.next h' sz (.slice (some ⟨h.next,0,none⟩) (n+1) UNK) (n+1) (cs++c1)->h'.next=h.next+1->h'.log=h.log->(WF h->WF h')->(∀z,z<h.next->(∀q a c,v= .slice (some ⟨q,0,none⟩) a c->z≠q)->h'.get z=h.get z)->∃d,br h' base lg mask rs=some d∧WD T base ops bf Q is d (bN e dst (.slice (some ⟨h.next,0,none⟩) (n+1) UNK)) h'):WD T base ops bf Q (i::is) rs e h:=by
 have f:(2*(n+1)+768)*b<=281474976710656:=by
  have:(2*(n+1)+768)*b<=2000768*100000:=Do (by omega) hb;omega
 cases s with
 |nil=>
  have:=Own.full (lo:=h.next) (h:=h.push (.cells c1 true sz)) (sz:=sz) (q:=h.next) (n:=1) (cs:=c1) (bl _) (go _) (z3 _ _) (by omega) (by omega);obtain⟨d,H,l⟩:=B _ [] this rfl rfl (λw=>w.push _) (λz A _=>z4 A);exact yz (n:=1) ho D C j F G E (by omega) (by simpa using f) H l
 | @full q _ _ H l q3 q4 q5=>
   have I:Own h.next ((h.wr base q .dead).push (.cells (cs++c1) true sz)) sz (.slice (some ⟨h.next,0,none⟩) (n+1) UNK) (n+1) (cs++c1):= .full (bl _) (go _) (z3 _ _) (by rw[ec,q4,p,sx,A3]) (by omega)
   obtain⟨d,J,K⟩:=B _ [q] I rfl (Heap.aD (o:= .dead) (by omega)) (λw=>(w.as (AS.wr base _ q .dead)).push _) (λz A r=>(z4 (by exact A)).trans (z5 (r q _ _ rfl)));exact lV ho D C j rfl (jZ (h:={h with log:=[]}) (n:=1) (vs:=cs) (ws:=cs++c1) F G E (by omega) q3 q4 t h1 f (dI _ _)) (uM l _ _) (rj l .dead) J K
end Go.A
namespace Go.A.Pk
variable {T:Nat->Option aq}
theorem WD.Hu{base:Nat}{ops:List aP}{bf:List Nat}{rs:List Rec}{Q:Env->Heap->Prop}{is:List Nat}{e:Env}{h:Heap}(a:∀hA,hA=h->WD T base ops bf Q is rs e hA):WD T base ops bf Q is rs e h:=a h rfl
structure I8 (T:Nat->Option aq):Prop where
 od:zh T
 ss:Jh T
 f59:T 10=some f59
 f154:T 35=some f154
def Wu(lo n:Nat)(cs:List Value)(v:Value)(h':Heap):Prop:=∃b c,v= .slice (some ⟨b,0,none⟩) n c/\lo<=b/\aJ h' 1 v n cs
theorem JQ(F:I8 T){h:Heap}(hr:Rdy h){b n c:Nat}{cs:List Value}(s:aJ h 1 (.slice (some ⟨b,0,none⟩) n c) n cs)(t:n<1000000):
 Al T 35 [.slice (some ⟨b,0,none⟩) n c] h (Wu h.next n cs):=by
 have l:=F.od.va.op.qu.p;refine .of l F.f154 hr (λv r m ⟨b,c,e,_⟩=>by subst e;cases m) ?_;have f:=aJ.len s;by_cases h0:n=0
 ·subst h0;have k:cs=[]:=List.eq_nil_of_length_eq_zero (by rw[f,vx]);subst k;refine Y6 ?_;refine aG (BZ (by exact rfl) (by exact rfl) (by exact rfl)) ?_;refine Y5 ?_;refine aG (iu (by exact rfl) (by exact rfl)) ?_;refine yM ?_;refine WO.Hu ?_;intro d a;have i:Ext h d:=by rw[a];exact(Ext.refl h).push _
  have o:d.next=h.next+1:=by rw[a];rfl
  have j:d.get h.next=some (.cells [] true 1):=by rw[a];exact z3 _ _
  clear a;have g:=i.log.trans hr.log;refine aG (vN (by exact rfl) (by exact rfl) (BI (s.ext i)) (bl _)) ?_;refine Y3 ?_;exact dG g rfl ⟨h.next,0,rfl,bl _, .mem ⟨by omega,⟨_,_,_,j,rfl⟩,rfl⟩ (bl _)⟩
 ·refine Y6 ?_;refine aG (BZ (by exact rfl) (by exact rfl) (by exact rfl)) ?_;refine Y5 ?_;refine aG (iu (by exact rfl) (by exact rfl)) ?_;refine yM ?_;refine WO.Hu ?_;intro d a;have i:Ext h d:=by rw[a];exact(Ext.refl h).push _
  have o:d.next=h.next+1:=by rw[a];rfl
  have j:d.get h.next=some (.cells [] true 1):=by rw[a];exact z3 _ _
  clear a;have g:=i.log.trans hr.log;refine aG (vM (ws:=cs) (by exact rfl) (by exact rfl) (BI (s.ext i)) h0 (by omega) (by decide) j (by decide) (by omega) (by rfl)) ?_;have q:Own h.next (d.push (.cells cs true 1)) 1 (.slice (some ⟨d.next,0,none⟩) n UNK) n cs:= .full (by omega) (go _) (z3 _ _) f h0
  refine Y3 ?_;refine dG g rfl ?_;rw[hX];exact⟨d.next,UNK,rfl,by omega,q.slice (by omega)⟩
def oL(w:List Nat×List Nat)(l:List Pb)(ns:List (List (List Nat)))(f:List Nat):Sta:=⟨f.take l.length,bT w l ns f⟩
theorem Kh:∀{L:List (List Nat)},(∀f∈L,f.length=8)->∀{j:Nat} {f:List Nat},L[j]? =some f->((fsL L).drop (j*8)).take 8=fL f
 |[],_,j,f,h=>by simp at h
 |g::L,hg,0,f,h=>by
  simp at h;subst h;have e:fsL (g::L)=fL g++fsL L:=rfl;have a:=hg g b6;rw[e,vx,py,j3 (by rw[dJ,a];exact bl _),gk (by rw[dJ,a];exact bl _)]
 |g::L,hg,j+1,f,h=>by
  have e:fsL (g::L)=fL g++fsL L:=rfl;have a:=hg g b6;have b:(fsL (g::L)).drop 8=fsL L:=by
   rw[e,sy (by rw[dJ,a];exact bl _),pA (by rw[dJ,a];exact bl _),vd]
  rw[show(j+1)*8=8+j*8 by omega,←List.drop_drop,b];exact Kh (λf c=>hg f (bz _ c)) (by simpa using h)
theorem MV{a:List Value}{s:List Sta}{u:Value}{x:Sta}(h:a.length=s.length):stL (a++[u]) (s++[x])=stL a s++[u, .int .i64 x.cost]:=by
 unfold stL;rw[List.zip_append h,vy];rfl
structure ElS (lo:Nat) (h:Heap) (v:Value) (fs:List Value) (s:List Sta):Prop where
 len:fs.length=s.length
 ow:Own lo h 2 v s.length (stL fs s)
 el:∀(i:Nat) u x,fs[i]? =some u->s[i]? =some x->aJ h 1 u x.found.length (fL x.found)/\∃b o k c,u= .slice (some ⟨b,o,none⟩) k c/\lo<=b/\b<h.next/\¬vB v b
theorem aJ.wK{h h':Heap}{sz n b o k c:Nat}{cs:List Value}(s:aJ h sz (.slice (some ⟨b,o,none⟩) k c) n cs)(g:h.next<=h'.next)(f:h'.get b=h.get b):aJ h' sz (.slice (some ⟨b,o,none⟩) k c) n cs:=by
 cases s with
 |mem s hc=>
  obtain⟨i,a,t,d,e⟩:=s.obj;exact .mem ⟨hK s.lt g,⟨i,a,t,f.trans d,e⟩,s.len⟩ hc
theorem ElS.keep{lo:Nat}{h h':Heap}{v:Value}{d:List Value}{s:List Sta}(E:ElS lo h v d s)(f:h.next<=h'.next)(e:∀z,lo<=z->z<h.next->h'.get z=h.get z):ElS lo h' v d s:=
 ⟨E.len,E.ow.keep f e,λi u x l m=>by
  obtain⟨n,b,o,k,c,rfl,a,g,j⟩:=E.el i u x l m;exact⟨aJ.wK n f (e b a g),b,o,k,c,rfl,a,by omega,j⟩⟩
theorem ElS.snoc{lo:Nat}{h h':Heap}{v v':Value}{g:List Value}{s:List Sta}{b k c:Nat}{x:Sta}(E:ElS lo h v g s)(j:lo<=h.next)(r:Own h.next h' 2 v' (s.length+1) (stL g s++[.slice (some ⟨b,0,none⟩) k c, .int .i64 x.cost]))(p:h.next<=h'.next)
 (n:∀z,lo<=z->z<h.next->¬vB v z->h'.get z=h.get z)(A:aJ h 1 (.slice (some ⟨b,0,none⟩) k c) x.found.length (fL x.found))(hb:lo<=b/\b<h.next/\¬vB v b):ElS lo h' v' (g++[.slice (some ⟨b,0,none⟩) k c]) (s++[x]):=by
 have q:∀z,z<h.next->¬vB v' z:=λz B ⟨a,c,e⟩=>by
  subst e;cases r with
  |full d f=>omega
 refine⟨by rw[ec,ec,E.len];rfl,by rw[MV E.len,ec];exact r.low j,λi u y d f=> ?_⟩;rcases Nat.lt_trichotomy i s.length with hi|hi|hi
 ·rw[hG (by rw[E.len];exact hi)]at d;rw[hG hi]at f;obtain⟨w,b,o,k,c,rfl,l,m,t⟩:=E.el i u y d f;exact⟨aJ.wK w p (n b l m t),b,o,k,c,rfl,l,by omega,q b m⟩
 ·subst hi;rw[gK (by rw[E.len];exact bl _),E.len]at d;rw[gK (by omega)]at f;simp at d f;subst d;subst f;exact⟨aJ.wK A p (n b hb.1 hb.2.1 hb.2.2),b,0,k,c,rfl,hb.1,by omega,q b hb.2.1⟩
 ·rw[re (by rw[ec,E.len];simp;omega)]at d;cases d
def Aw(w:List Nat×List Nat)(l:List Pb)(os:List (List Nat)):List Sta:=if opE w l os=0/\bT w l (os.map (dR w)) z8≠0 then Av w l (os.map (dR w))else []
def Rt(w:List Nat×List Nat)(l:List Pb)(os:List (List Nat))(v:Value)(h':Heap):Prop:=∃v1,v= .tuple #[v1, .int .i64 (opE w l os)]/\mZ h' v1 (Aw w l os)
theorem mZ.nil{h:Heap}{c:Nat}:mZ h (.slice none 0 c) []:=⟨[],rfl, .nil,λi u x h=>by simp at h⟩
theorem Cc(F:I8 T){h:Heap}(hr:Rdy h)(hg:Tab h)(D:0<h.next){w:List Nat×List Nat}(hw:IsW w){pv:Value}{l:List Pb}(sp:PbS h pv l)(hl:l.length<1000000){ov:Value}{os:List (List Nat)}(so:SsQ h ov os)(d9:os.length<1000000):
 Al T 10 [wV w,pv,ov] h (Rt w l os):=by
 have hp:=F.od.va.op.qu.p;refine .of hp F.f59 hr (λv h1 t ⟨v1,e,o⟩=>⟨v1,e,?_⟩) ?_
 ·subst e;obtain⟨B,e1,s,_⟩:=o.ex;rcases aJ.inv s with⟨c,rfl,Z,_⟩|⟨b,o,cap,rfl,_⟩
  ·rw[List.eq_nil_of_length_eq_zero Z];exact .nil
  ·cases t
 have dv:cellsOf (wV w)=wL w:=by show(wL w).toArray.toList=_;simp
 obtain⟨a,c,rfl⟩:=sp.form;obtain⟨a3,c3,rfl⟩:=so.sl.form;have x0:Ext h (h.push (.cells (cellsOf (wV w)) true 1)):=(Ext.refl h).push _;have g0:(h.push (.cells (cellsOf (wV w)) true 1)).get h.next=some (.cells (wL w) true 1):=by rw[dv];exact z3 h _
 have n0:(h.push (.cells (cellsOf (wV w)) true 1)).next=h.next+1:=rfl
 refine Y5 ?_;generalize(h.push (.cells (cellsOf (wV w)) true 1))=H at*;have W:=x0.wf hr.wf;have hL:=x0.log.trans hr.log;have wk:=oN hw;have hZ:=kM hw;have C1:=pW F.od (h:={H with log:=[]}) (.of W) (show Tab H from hg.ext x0 D) (by show 0<H.next;omega) hw ((sp.ext x0).log []) hl ((so.ext x0).log []) d9;refine Y5 ?_;refine FW.al C1 (λv d m q=> ?_) ?_
 ·rcases q with q|⟨e,q,m',nv,e1,s,Z,e4,e5⟩
  ·exact .inl q
  ·exact .inr ⟨e,q,m',nv,e1,s,Z,e4.log m,e5⟩
 clear C1;rintro _ H1 x1 (⟨he,rfl⟩|⟨he,q,m,nv,rfl,bi,fY,Q1,gm⟩)
 ·unfold Rt Aw;rw[if_neg (λe=>he e.1)];generalize opE w l os=er at*;have M:=x1.log.trans hL;have mn:an .neq (.int .i64 er) (.int .i64 0)=some (.bool true):=jc he;refine Y25 ?_;exact dG M rfl ⟨_,rfl, .nil⟩
 have bi:H.next<=m:=bi
 have n1:H.next<=H1.next:=x1.next
 have W1:=x1.wf W;have kq:=W1.bP Q1.gq;have M:=x1.log.trans hL;have mn:an .neq (.int .i64 0) (.int .i64 0)=some (.bool false):=rfl;have be:=qP (j4.1 (nR.1 he).1).2.2.2.2;unfold Rt Aw;rw[he];have ba:=Q1.hl;generalize hns:os.map (dR w)=ns at*;have C2:=mI F.od.va be _ (h:={H1 with log:=[]}) (.of W1) (Q1.log []) (f:=z8) rfl (bl _);refine Y17 ?_;refine FW.gs0 C2 (λv d m q=>q) (λz y=>by omega) ?_;clear C2;rintro _ H2 n2 l2 o2 w2 ⟨rfl,eg,cd,cP⟩;have W2:=w2 W1;have ar:=l2.trans M;by_cases t:bT w l ns z8=0
 ·have dT:an .eql (.int .i64 (bT w l ns z8)) (.int .i64 0)=some (.bool true):=mD t;rw[if_neg (λe=>e.2 t)];refine Y12 ?_;exact dG ar rfl ⟨_,rfl, .nil⟩
 have dT:an .eql (.int .i64 (bT w l ns z8)) (.int .i64 0)=some (.bool false):=iH t;rw[if_pos ⟨rfl,t⟩];have Q2:QuH H2 q m w _ nv _ l os ns:=Q1.keep W1 n2 (λz y J=>o2 z y J) ⟨eg,cd,cP⟩;have C3:=IC F.ss (h:={H2 with log:=[]}) (.of W2) (Q2.log []);have ae:∀g∈iP w l ns l.length 0 z8,g.length=8:=λg hg=>((vz (by show 0+l.length<=8;omega)).1 hg).2.1;have aw:Av w l ns=(iP w l ns l.length 0 z8).map (oL w l ns):=rfl;rw[aw];have fd:=AK (w:=w) (l:=l) (ns:=ns) (k:=l.length) (i:=0) (f:=z8);have fb:(iP w l ns l.length 0 z8).length<=6561:=by
  have:3 ^ l.length<=3 ^ 8:=rh (by omega) ba;have:(3:Nat) ^ 8=6561:=by decide
  omega
 generalize iP w l ns l.length 0 z8=G at*;refine Y14 ?_;refine FW.al C3 (λv d lg q=>q.log lg) ?_;clear C3;rintro sl r x3 bo;have W3:=x3.wf W2;have cj:=x3.log.trans ar;have Q3:QuH r q m w _ nv _ l os ns:=Q2.ext W2 x3;have n3:=x3.next
 obtain⟨sa,sc,rfl⟩:=(bo.slice (by omega)).form;refine Y4 ?_;refine cT (λk' e ds d=>∃(j:Nat) (v:Value) (B:List Value),j<=G.length/\G.length-j=k'∧e=[(1, .slice a l.length c),(8, .pointer (some ⟨q,0,none⟩)),(10,v),(30, .slice sa G.length sc),(31, .int .i64 (G.length:Nat)),(32, .int .i64 (j:Nat))]/\ds=[]/\WF d∧d.log=[]/\r.next<=d.next/\(∀z,z<r.next->z≠m->d.get z=r.get z)/\(∃mm,d.get m=some (.map (fT mm))/\mc w l ns mm)/\ElS r.next d v B ((G.take j).map (oL w l ns))) ⟨0, .slice none 0 0,[],md _,rfl,rfl,rfl,W3,cj,bl _,λ_ _ _=>rfl,Q3.mem,rfl, .nil,λi u x h=>by simp at h⟩ ?_;rintro k' e ds K ⟨j,v,B,fg,fp,rfl,rfl,Wj,lj,nj,oj,⟨eI,ci,cY⟩,O⟩;by_cases hlt:j<G.length
 ·have e9:an .lss (.int .i64 (j:Nat)) (.int .i64 (G.length:Nat))=some (.bool true):=dY (by omega);obtain⟨f,hf⟩:∃f,G[j]? =some f:=⟨G[j],bx hlt⟩;have I:=ae f (eA hf);have cJ:=Kh ae hf;have Qj:QuH K q m w _ nv _ l os ns:=Q3.keep W3 nj oj ⟨eI,ci,cY⟩;obtain⟨qs,qo,qc,da,f0,_⟩:=(aJ.inv (bo.slice (by omega))).resolve_left (λ⟨_,_,e,_⟩=>by omega);cases da;obtain⟨vs,hY,tt,C,du⟩:=f0.obj;have fj:((G.take j).map (oL w l ns)).length=j:=by rw[po,m6];omega
  obtain⟨U,V,dp⟩:=(O.ow.slice (by omega)).form;subst dp;have gt:cG 8 (cw (qo+j*8) vs)=fL f:=by
   rw[←cJ,←du];simp only[bQ,aW,EQ,Fd,sf];congr 1;omega
  have ge:=iE I;have gg:=fP I;have eJ:qs≠m:=λe=>by
   obtain⟨mm,g,_⟩:=Q3.mem;rw[e,g]at C;cases C
  have dE:=W3.bP C;have f9:=(oj qs dE eJ).trans C;have f8:an .add (.int .i64 (j:Nat)) (.int .i64 1)=some (.int .i64 ((j+1:Nat):Int)):=by
   have:=jM (a:=(j:Nat)) (b:=1) (bO (by omega) (by omega));exact this
  refine Y9 ?_;refine cI (E0:=[(1, .slice a l.length c),(8, .pointer (some ⟨q,0,none⟩)),(10, .slice U ((G.take j).map (oL w l ns)).length V),(12, .pointer (some ⟨K.next,0,none⟩)),(30, .slice (some ⟨qs,qo,none⟩) G.length sc),(31, .int .i64 (G.length:Nat)),(32, .int .i64 (j:Nat))]) (P:=λd=>Ext K d∧d.next=K.next+1/\d.get K.next=some (.cells (fL f) true 1)) ?_ ?_
  ·refine Y4 ?_;refine aG (dg (cs:=fL f) (by exact rfl) (by exact rfl) (z3 _ _) (by rw[dJ,I]) rfl (ot f)) ?_;refine bH ?_;refine y1 ?_;exact⟨rfl,rfl,rfl,((Ext.refl K).push _).wr (bl _) (by omega),rfl,Heap.aI (z3 _ _)⟩
  rintro hA ⟨X,nA,gA⟩;have WA:=X.wf Wj;have lA:=X.log.trans lj;have QA:=Qj.ext Wj X;have EA:ElS r.next hA (.slice U ((G.take j).map (oL w l ns)).length V) B ((G.take j).map (oL w l ns)):=O.keep X.next λz _ y=>X.old z y
  refine Y3 ?_;refine aO rfl rfl rfl (by exact rfl) (by exact rfl) (by exact rfl) (jE (by exact rfl)) ?_;refine aO rfl rfl rfl (by exact rfl) (by exact rfl) (by exact rfl) (B0 (i:=0) (j:=l.length) (by exact rfl) rfl (by exact rfl) (by omega) (by omega) (by omega) (by omega)) ?_;have ht:fL (f.take l.length)=(fL f).take l.length:=by simp[fL,GT]
  have bj:(f.take l.length).length=l.length:=by rw[m6];omega
  have C5:=JQ F (h:={hA with log:=[]}) (.of WA) (b:=K.next) (n:=l.length) (c:=8) (cs:=fL (f.take l.length)) (.mem ⟨by show K.next<hA.next;omega,⟨_,_,_,gA,by rw[bQ,aW,py,rt,ht]⟩,by rw[dJ,bj,rt]⟩ ba) (by omega);refine Y3 ?_;refine FW.alD C5 (λv d lg ⟨b,c,e1,s,Z⟩=>⟨b,c,e1,s,Z.log lg⟩) ?_;clear C5;rintro _ hB L ⟨A,cu,rfl,aE,su⟩;have aE:hA.next<=A:=aE
  have WB:=L.wf WA;have lB:=L.log.trans lA;have QB:=QA.ext WA L;have EB:ElS r.next hB (.slice U ((G.take j).map (oL w l ns)).length V) B ((G.take j).map (oL w l ns)):=EA.keep L.next λz _ y=>L.old z y
  have gB:=(L.old _ (by omega)).trans gA;refine⟨_,by apply ah rfl (af rfl (di (by exact rfl) (by assumption) (by assumption) (by assumption)) (by exact yg _)) rfl;apply ah rfl (af rfl (dD (by exact rfl)) (by exact aV _)) rfl;(repeat apply aC rfl);apply ah rfl (af rfl (dD (by exact rfl)) (by exact eH _ _ _)) rfl;exact aY,?_⟩;have C6:=mI F.od.va be _ (h:={hB with log:=[]}) (.of WB) (QB.log []) (f:=f) I (bl _);skip;refine qC ?_;refine FW.R4 C6 (λv d lg q=>q) ?_;clear C6;rintro _ Q lg Y fw ⟨rfl,eh,cf,cX⟩;have nC:=Y.next
  have WC:=Y.wf WB;have lC:Q.log=[]:=List.eq_nil_iff_forall_not_mem.2 λz y=>(Y.OJ z y).elim (λe=>by rw[lB]at e;cases e) λ⟨e,s⟩=>by
   have e:z=m:=e;omega
  refine⟨_,by(repeat apply aC rfl);apply ah rfl (af rfl (dD (by exact rfl)) (by exact eH _ _ _)) rfl;exact aY,?_⟩;have fX:m<r.next:=by omega
  have EC:ElS r.next Q (.slice U ((G.take j).map (oL w l ns)).length V) B ((G.take j).map (oL w l ns)):=EB.keep nC λz h1 D=>Y.old z D (by show z≠m;omega)
  refine aO rfl rfl rfl (by exact rfl) (by exact rfl) (by exact rfl) (qn (by exact rfl)) ?_;refine BO rfl rfl rfl (by exact rfl) (by exact rfl) (by exact rfl) (iu (by exact rfl) (by exact rfl)) (by refine ff (af rfl (qn (by exact rfl)) (by refine lH ?_;refine bI (ML _ _ _) ?_;refine bI (iI _ _) ?_;exact gI)) ?_;refine ff (af rfl (dD (by exact rfl)) (by exact eH _ _ _)) ?_;exact Bz) ?_;refine WD.Hu ?_;intro S E;have N:Ext Q S:=by rw[E];exact(Ext.refl Q).push _
  have nP:S.next=Q.next+1:=by rw[E];rfl
  have gP:S.get Q.next=some (.cells [.slice (some ⟨A,0,none⟩) l.length cu, .int .i64 (bT w l ns f)] true 2):=by rw[E];exact z3 _ _
  clear E;have EP:ElS r.next S (.slice U ((G.take j).map (oL w l ns)).length V) B ((G.take j).map (oL w l ns)):=EC.keep N.next λz _ D=>N.old z D
  have nB:=L.next
  refine No (c1:=[.slice (some ⟨A,0,none⟩) l.length cu, .int .i64 (bT w l ns f)]) EP.ow (by omega) (by omega) (by omega) (by omega) rfl rfl rfl (by exact rfl) (by exact rfl) (by exact rfl) (vE (jy gP rfl rfl)) rfl rfl ?_;intro H9 hJ eQ n9 l9 w9 o9;refine⟨_,by(repeat apply aC rfl);exact aY,?_⟩;refine Y9 ?_;have dj:(G.take (j+1)).map (oL w l ns)=(G.take j).map (oL w l ns)++[oL w l ns f]:=by
   rw[BT,hf];simp
  have W9:=w9 (N.wf WC);have lP:=N.log;have dC:A<hB.next:=by
   rcases aJ.inv su with⟨_,e,_⟩|⟨b,o,cap,e,s1,_⟩
   ·cases e
   ·cases e;exact s1.lt
  have eK:¬vB (.slice U ((G.take j).map (oL w l ns)).length V) A:=λt=>by
   have:=jO EA.ow t;omega
  have f7:aJ S 1 (.slice (some ⟨A,0,none⟩) l.length cu) (oL w l ns f).found.length (fL (oL w l ns f).found):=by
   show aJ S 1 _ (f.take l.length).length (fL (f.take l.length));rw[bj];exact(aJ.wK su nC (Y.old A dC (by show A≠m;omega))).ext N
  refine⟨G.length-(j+1),by omega,j+1,_,B++[.slice (some ⟨A,0,none⟩) l.length cu],by omega,rfl,rfl,rfl,W9,l9.trans (lP.trans lC),by omega,λz y J=>(o9 z (by omega) λq a c e s=> ?_).trans ((N.old z (by omega)).trans ((Y.old z (by omega) J).trans ((L.old z (by omega)).trans ((X.old z (by omega)).trans (oj z y J))))),⟨eh,(o9 m (by omega) λq a c e s=> ?_).trans ((N.old m (by omega)).trans cf),cX⟩,?_⟩
  ·have:=jO EP.ow ⟨a,c,e⟩;omega
  ·have:=jO EP.ow ⟨a,c,e⟩;omega
  ·rw[dj];exact ElS.snoc (x:=oL w l ns f) EP (by omega) eQ (by omega) (λz _ D t=>o9 z D λq a c e s=>t ⟨a,c,s▸e⟩) f7 ⟨by omega,by omega,eK⟩
 ·obtain rfl:j=G.length:=by omega
  have e9:an .lss (.int .i64 (G.length:Nat)) (.int .i64 (G.length:Nat))=some (.bool false):=eM (by omega);rw[q9]at O;refine Y16 ?_;have:=O.ow.slice (by rw[po];omega);exact dG lj rfl ⟨v,rfl,B,O.len,this,λi u x h1 D=> .inl (O.el i u x h1 D).1⟩
end Go.A.Pk
end
