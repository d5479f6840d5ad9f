/- Walks of functions, plain laws, the table. -/
import Derived.Test.YtkaeljcfdnhacaaGreatDoorLU5
import Derived.Test.YtkaeljcfdnhacaaGreatDoorLD
import Derived.Test.YtkaeljcfdnhacaaGreatDoorLF
set_option linter.all false
set_option maxHeartbeats 16000000
set_option maxRecDepth 100000
section
namespace Go.A.Pk
variable {T:Nat->Option an}
variable{h:Heap}{K:Nat}
theorem LK(a:T 62=some f202):DW T 62 [sb K] none h λp h'=>p=none/\h'=h:=by
 refine .of a ?_;refine tI (kU (R5 (ja (dx (by rfl)) (tJ ⟨rfl,?_⟩))));refine tI (kU (ja (dx (by rfl)) (ja (show aop h h.next _ (.bin (.nil .iface true) (.tmp 5) (.const .nilIface))=some (.val (.bool false) h)from rfl) (tJ ⟨rfl,?_⟩))));exact Fm rfl (Iy ⟨.inl rfl,rfl,rfl⟩)
variable{b:Bool}
theorem I6(e:T 62=some f202)(c:h.get K=some (qt [.bool b]))(d:K<h.next):
 DW T 62 [sb K] (some Ai) h λp h'=>p=none/\(∀z∈h'.log,z∈h.log∨z=K)/\h'.get K=some (qt [.bool false]):=by
 refine .of e ?_;refine tI (kU (R6 (ja (dx (by rfl)) (tJ ⟨rfl,?_⟩))));refine tI (kU (ja (dx (by rfl)) (ja (show aop h h.next _ (.bin (.nil .iface true) (.tmp 5) (.const .nilIface))=some (.val (.bool true) h)from rfl) (tJ ⟨rfl,?_⟩))));refine R4 rfl ?_
 refine tI (tI (kU (ja (dx (by rfl)) (ja (show aop h h.next _ (.kC 114 true (.agg #[]) (.tmp 8))=some (.val (.tuple #[.agg #[], .bool true]) h)from rfl) (ja (dx (by rfl)) (ja (vj (by rfl) (by rfl)) (ja (vj (by rfl) (by rfl)) (ja sG
  (ja (je (b:=h.next) (o:=0) (vs:=[]) (ws:=[]) (by rfl) (by rfl) (z3 _ _) (by rfl) (by rfl)) (ja (dx (by rfl)) (tJ ⟨rfl,?_⟩)))))))))))
 have g:K≠h.next:=by omega
 have a:((h.push (qt [])).wr h.next h.next (qt [])).get K=some (qt [.bool b]):=(z5 g).trans ((z4 d).trans c);have i:((h.push (qt [])).wr h.next h.next (qt [])).log=h.log:=Heap.au (bl _);refine tI (kU (ja (dx (by rfl)) (ja (KW (by rfl)) (tJ ⟨rfl,?_⟩))));refine Fm rfl (Iy ⟨rfl,?_⟩);generalize((h.push (qt [])).wr h.next h.next (qt []))=H at*;refine kU (ja (je (ws:=[.bool false]) (by rfl) (by rfl) a (by rfl) (by rfl)) (tJ ⟨.inl rfl,rfl,?_,?_⟩))
 ·refine vN (S:=λz=>z∈h.log∨z=K) (λz f=> .inl (i▸f)) (.inr rfl)
 ·exact Heap.aP a
structure Hq (T:Nat->Option an):Prop where
 cs:KC T
 od:KJ T
 f27:T 7=some f27
 f97:T 24=some f97
 f98:T 25=some f98
 f202:T 62=some f202
variable{b1 b2 b3 m q:Nat}{w:List Nat×List Nat}{l:List Pb}{os:List (List Nat)}{ns:List (List (List Nat))}{s:List Fk}{cost:Int}
theorem Z6(F:Hq T)(hr:Rdy h){r n o:Value}(g:QuH h q m w r n o l os ns)(k:∀p∈l,1<=p.cost/\p.cost<=1000){sv:Value}(f:FkS h sv s)(c:s.length<1000000)(u:h.get b1=some (qt [sb q]))(x:h.get b2=some (qt [sv]))(y:h.get b3=some (qt [zc cost])):
 Gp T 25 [sb b1, sb b2, sb b3] h (λ_=>False) (λv _=>v= .tuple #[]/\uQ w l ns s cost) (λv _=>v=Ai/\¬uQ w l ns s cost):=by
 refine Gp.of F.cs.vi.op.qu.p F.f98 (λv A B _ E D e=>e) ?_;obtain⟨G,H,rfl⟩:=aK.form f;have C:=Mb F.cs (h:={h with log:=[]}) (.of hr.wf) (g.log []) k (aK.log f []) c cost;refine Y5 ?_;refine FW.gpb C (λz a=>a.elim) hr.log (λv i m q=>q) (λv i m q=>q) ?_ ?_
 ·rintro v j t d ⟨rfl,b⟩;refine bH ?_;refine y1 ?_;exact xY (λz a=>by rw[d]at a;cases a) rfl ⟨rfl,b⟩
 ·rintro v j t d ⟨rfl,b⟩;repeat first|refine ta ?_|refine tc ?_|refine Jo ?_
  exact fT (λz a=>by rw[d]at a;cases a) ⟨rfl,b⟩
variable{O:Value}
theorem T8(F:Hq T)(hr:Rdy h){S P:Value}(B:QuH h q m w S O P l os ns)(I:∀p∈l,1<=p.cost/\p.cost<=1000){sv:Value}(D:FkS h sv s)(n:s.length<1000000)(u:h.get b1=some (qt [sb q]))(x:h.get b2=some (qt [sv]))(y:h.get b3=some (qt [zc cost])):
 Al T 24 [.func (.func 25) #[] #[sb b1, sb b2, sb b3]] h λv _=>∃b,v= .bool b/\(b=true↔uQ w l ns s cost):=by
 refine Al.ofD F.cs.vi.op.qu.p F.f97 hr (λv U V q=>q) ?_;have d:Ext h (h.push (qt [.bool false])):=(Ext.refl h).push _;have A:(h.push (qt [.bool false])).get h.next=some (qt [.bool false]):=z3 _ _
 have X:(h.push (qt [.bool false])).next=h.next+1:=rfl
 refine Y3 ?_;generalize(h.push (qt [.bool false]))=H at*;have W:=d.wf hr.wf;have G:=d.log.trans hr.log;have J:=hr.wf.dS u;have L:=hr.wf.dS x;have M:=hr.wf.dS y;have C:=Z6 F (h:={H with log:=[]}) (.of W) ((B.ext hr.wf d).log []) I (aK.log (aK.ext D d) []) n ((d.old _ J).trans u) ((d.old _ L).trans x) ((d.old _ M).trans y);refine Y2 ?_;refine SI (by rfl) ?_;refine Y4 ?_;refine FW.gpb C (λz r=>r.elim) G (λv f m q=>q) (λv f m q=>q) ?_ ?_
 ·rintro v e g t ⟨rfl,k⟩;have a:=(g.old h.next (by omega) id).trans A;refine Y5 ?_;have E:(e.wr h.next h.next (qt [.bool true])).get h.next=some (qt [.bool true]):=Heap.aP a
  obtain⟨Q,f,c,rfl,rfl⟩:=LK (T:=T) (h:={(e.wr h.next h.next (qt [.bool true]))with log:=[]}) F.f202 (K:=h.next);refine⟨⟨λi=>nofun,62,_,_,_,rfl,none,_,c,rfl,?_,[_],rA (b:=h.next) (o:=0) rfl E rfl CH,true,rfl,⟨λ_=>k,λ_=>rfl⟩⟩⟩;show aH h.next (e.wr h.next h.next (qt [.bool true])).log []=[]
  rw[Heap.au (bl _),t];rfl
 ·rintro v e g t ⟨rfl,k⟩;have a:=(g.old h.next (by omega) id).trans A;have Y:=g.next
  repeat first|refine ta ?_|refine tc ?_|refine Jo ?_
  obtain⟨Q,f,c,rfl,N,j⟩:=I6 (T:=T) (h:={e with log:=[]}) F.f202 a (show h.next<e.next by omega);refine⟨⟨λi=>nofun,62,_,_,_,rfl,none,f,c,rfl,?_,[_],rA (b:=h.next) (o:=0) rfl j rfl CH,false,rfl,⟨λq=>(by cases q),λq=>absurd q k⟩⟩⟩;rw[t,UV];intro z r;rcases tj r with q|⟨q,hb⟩
  ·cases q
  ·rcases N z q with q|q
   ·cases q
   ·omega
def Ak(w:List Nat×List Nat)(l:List Pb)(os:List (List Nat))(s:List Fk)(b:Bool):Bool×Int:=if opE w l os≠0 then(false,opE w l os)else if 256<s.length then(false,2)else(b,0)
theorem Qg(F:Hq T)(hr:Rdy h)(hg:Tab h)(h2:0<h.next)(E:IsW w){Q:Value}(U:PbS h Q l)(hl:l.length<1000000)(S:SsQ h O os)(B:os.length<1000000){sv:Value}(K:FkS h sv s)(D:s.length<1000000)(cost:Int)(hb:b=true↔uQ w l (os.map (dZ w)) s cost):
 Pu T 7 [wV w,Q,O,sv, zc cost] h (.tuple #[.bool (Ak w l os s b).1, zc (Ak w l os s b).2]):=by
 have hp:=F.cs.vi.op.qu.p;refine .of hp F.f27 hr rfl ?_;have G:cellsOf (wV w)=wL w:=by show(wL w).toArray.toList=_;simp
 obtain⟨a,c,rfl⟩:=U.form;obtain⟨Y,c3,rfl⟩:=S.sl.form;obtain⟨sa,sc,rfl⟩:=aK.form K;refine dw (E0:=[(1, .slice a l.length c),(2, .slice Y os.length c3),(5, sb h.next),(8, sb (h.next+1)),(9, sb (h.next+2))]) (P:=λf=>Ext h f∧f.next=h.next+3/\f.get h.next=some (qt (wL w))/\f.get (h.next+1)=some (qt [.slice sa s.length sc])/\f.get (h.next+2)=some (qt [zc cost])) ?_ ?_
 ·refine Y6 ?_;refine bH ?_;refine y1 ?_;rw[G];exact⟨rfl,rfl,rfl,(((Ext.refl h).push _).push _).push _,rfl,YG,YG,YG⟩
 rintro H ⟨g,n0,g0,M,N⟩;have W:=g.wf hr.wf;have hL:=g.log.trans hr.log;have wk:=jR E;have a7:=ic E;have J:=EW F.od (h:={H with log:=[]}) (.of W) (show Tab H from hg.ext g h2) (by show 0<H.next;omega) E ((U.ext g).log []) hl ((S.ext g).log []) B;unfold Ak;refine Y5 ?_;refine FW.al J (λv f m q=> ?_) ?_
 ·rcases q with q|⟨e,q,m',nv,e1,e2,e3,e4,e5⟩
  ·exact .inl q
  ·exact .inr ⟨e,q,m',nv,e1,e2,e3,e4.log m,e5⟩
 clear J;rintro _ o i hq;have L:=i.wf W;have k:=i.log.trans hL;have n1:=i.next
 have u:=(i.old _ (by omega)).trans M;have y:=(i.old _ (by omega)).trans N;clear g0 M N;rcases hq with⟨he,rfl⟩|⟨he,q,m,nv,rfl,hq1,hq2,Q1,gm⟩
 ·simp only[if_pos he];generalize opE w l os=er at*;have mn:zB er 0 true:=jr he;refine Y20 ?_;exact ah ((Heap.au (by omega)).trans k) rfl rfl
 simp only[if_neg (λq:opE w l os≠0=>q he)];have mn:zB 0 0 false:=rfl;refine Y7 ?_;refine WE.BU ?_;intro r d;have j:Ext o r:=by rw[d];exact dX (by omega) _ _
 have t:r.get o.next=some (qt [sb q]):=by rw[d];exact fU _ _
 have n2:r.next=o.next+1:=by rw[d];rfl
 clear d;have X:=j.wf L;have n:=j.log.trans k;have x:=(j.old _ (by omega)).trans u;have z:=(j.old _ (by omega)).trans y;by_cases h256:256<s.length
 ·have mg:zs s.length 256 true:=dY (by omega);rw[if_pos h256];refine Y21 ?_;exact ah n rfl rfl
 ·have mg:zs s.length 256 false:=fu (by omega);rw[if_neg h256];have I:=(g.trans i).trans j;have C:=uP (mw.1 (zk.1 he).1).2.2.2.2;have V:=T8 F (h:={r with log:=[]}) (.of X) ((Q1.ext L j).log []) C (aK.log (aK.ext K I) []) D (cost:=cost) (b1:=o.next) (b2:=h.next+1) (b3:=h.next+2) t x z;refine Y20 ?_;refine FW.al V (λv f m q=>q) ?_;rintro _ H3 x3 ⟨Z,rfl,A⟩;have e:Z=b:=by rw[xp,A,hb]
  subst e;refine Y4 ?_;exact ah (x3.log.trans n) rfl rfl
def p9(n:Nat)(L:List Int):List Nat:=(List.range n).map λ(c:Nat)=>L.count (c:Int)
theorem qh(n:Nat)(L:List Int):(p9 n L).length=n:=by simp[p9]
variable{c n:Nat}
theorem um(L:List Int)(h:c<n):(p9 n L)[c]? =some (L.count (c:Int)):=by simp[p9,h]
theorem LC(n:Nat):p9 n []=List.replicate n 0:=by
 refine xa λi=> ?_;by_cases h:i<n
 ·rw[um [] h,List.getElem?_replicate,if_pos h];rfl
 ·rw[m6 (by rw[qh];omega),m6 (by rw[wl];omega)]
variable{L:List Int}
theorem LF(h:c<n):(p9 n L).set c (L.count (c:Int)+1)=p9 n (L++[(c:Int)]):=by
 refine xa λi=> ?_;rw[P1];by_cases hi:i<n
 ·rw[um _ hi,um _ hi,qh];by_cases e:c=i
  ·subst e;simp[h]
  ·rw[if_neg e,List.count_append,List.count_singleton];have:¬ ((c:Int)==(i:Int))=true:=by simp;omega
   rw[if_neg this];rfl
 ·rw[if_neg (by omega),m6 (by rw[qh];omega),m6 (by rw[qh];omega)]
theorem DT:p9 n (L++[-1])=p9 n L:=by
 unfold p9;refine List.map_congr_left λc _=> ?_;rw[List.count_append,List.count_singleton,if_neg (by simp)];rfl
theorem Ff(s:List Fk):(dR s).length=2*s.length:=by
 induction s with
 |nil=>rfl
 |cons x s ih=>rw[tE,me,me,ih,me];omega
theorem FL{f:List Nat}:l.zip (f.take l.length)=l.zip f:=by
 induction l generalizing f with
 |nil=>simp
 |cons p l ih=>cases f with
  |nil=>simp
  |cons k f=>simp[ih]
theorem JM(w:List Nat×List Nat)(l:List Pb)(ns:List (List (List Nat)))(f:List Nat):eM w l ns (f.take l.length)=eM w l ns f:=by unfold eM;rw[FL]
theorem yd{w:List Nat×List Nat}{l:List Pb}{ns:List (List (List Nat))}{s:List Fk}(b:OX l s):∀{k:Nat} {a:Int} {f:List Nat} {cost:Int},nY w l ns s k a (f.take l.length) cost=nY w l ns s k a f cost
 |0,_,_,_=>rfl
 |k+1,a,f,cost=>by
  unfold nY;rw[JM];by_cases h1:cost<0
  ·rw[if_pos h1,if_pos h1]
  rw[if_neg h1,if_neg h1];by_cases h2:a= -1
  ·rw[if_pos h2,if_pos h2]
  rw[if_neg h2,if_neg h2];cases hx:s[a.toNat]? with
  |none=>rfl
  |some x=>
   dsimp only;have hp:=(b _ x hx).1;have e:(f.take l.length).getD x.probe.toNat 0=f.getD x.probe.toNat 0:=by
    rw[gk,gk,List.getElem?_take,if_pos (by omega)]
   rw[e,←List.take_set,←List.take_set,yd b,yd b]
structure KL (T:Nat->Option an):Prop where
 rf:Hu T
 f28:T 8=some f28
theorem OD(F:KL T)(hr:Rdy h)(J:IsW w){pv:Value}(sp:PbS h pv l)(hl:l.length<1000000){ov:Value}(so:SsQ h ov os)(U:os.length<1000000){sv:Value}(S0:FkS h sv s)(cd:s.length<1000000)(ba: -9223372036854775808<=cost/\cost<9223372036854775808)(hb:b=true↔JY w l (os.map (dZ w)) s cost):
 Pu T 8 [wV w,pv,ov,sv, zc cost] h (.tuple #[.bool (Ak w l os s b).1, zc (Ak w l os s b).2]):=by
 have hp:=F.rf.rj.rc.r8.p;refine .of hp F.f28 hr rfl ?_;have dC:cellsOf (wV w)=wL w:=by show(wL w).toArray.toList=_;simp
 obtain⟨pa,pc,rfl⟩:=sp.form;obtain⟨oa,oc,rfl⟩:=so.sl.form;obtain⟨sa,sc,rfl⟩:=aK.form S0;have x0:Ext h (h.push (qt (cellsOf (wV w)))):=(Ext.refl h).push _;have g0:(h.push (qt (cellsOf (wV w)))).get h.next=some (qt (wL w)):=by rw[dC];exact z3 h _
 have n0:(h.push (qt (cellsOf (wV w)))).next=h.next+1:=rfl
 refine Y5 ?_;generalize(h.push (qt (cellsOf (wV w))))=H at*;have W:=x0.wf hr.wf;have hL:=x0.log.trans hr.log;have wk:=jR J;have f0:=ic J;have C1:=A9 F.rf.rj.rc (h:={H with log:=[]}) (.of W) J ((sp.ext x0).log []) hl ((so.ext x0).log []) U;unfold Ak opE;have X:=HD (w:=w) (l:=l) (os:=os);have A:=mw (w:=w) (l:=l) (os:=os);generalize sB w l os=er at*;by_cases he:er=0;case neg=>
  rw[if_pos (show er≠0 from he),if_pos (show er≠0 from he)];have m1:zz er 0 false:=j9 he;have m2:zB er 0 true:=jr he;refine Y5 ?_;refine FW.pu C1 ?_;refine Y36 ?_;exact ah hL rfl rfl
 subst he;rw[if_neg (show¬ (0:Int)≠0 from λq=>q rfl)];obtain⟨dj,e9,D,bj⟩:=X rfl;have bo:=uP (A.1 rfl).2.2.2.2;clear X A;have C3:=M1 F.rf.rj.rc.n3 (h:={H with log:=[]}) (.of W) J dj;cases hm:pX w with
 |true=>
  rw[hm,if_pos rfl]at C3;rw[if_pos rfl,if_pos (by decide)];refine Y5 ?_;refine FW.pu C1 ?_;refine Y11 ?_;refine FW.pu C3 ?_;refine Y28 ?_;exact ah hL rfl rfl
 |false=>
 rw[hm,if_neg (by simp)]at C3;rw[if_neg (by simp)];by_cases h256:256<s.length
 ·have mg:zs s.length 256 true:=dY (by omega);rw[if_pos h256];refine Y5 ?_;refine FW.pu C1 ?_;refine Y11 ?_;refine FW.pu C3 ?_;refine Y32 ?_;exact ah hL rfl rfl
 have mg:zs s.length 256 false:=fu (by omega);rw[if_neg h256];refine Y5 ?_;refine FW.pu C1 ?_;clear C1;refine Y11 ?_;refine FW.pu C3 ?_;clear C3;refine Y29 ?_;refine aF (rQ (by rfl) (by rfl) (bl _) (by omega) (by omega) rfl) ?_;refine WO.XJ ?_;intro H1 N;have x1:Ext H H1:=by rw[N];exact(Ext.refl H).push _
 have n1:H1.next=H.next+1:=by rw[N];rfl
 have g1:H1.get H.next=some (qt (ints (zI (p9 s.length [])))):=by rw[N,EB,LC];exact z3 _ _
 clear N;refine Y7 ?_
 refine bg (λk' e ds z=>∃i:Nat,i<=s.length/\s.length-i=k'∧e=[(1, .slice pa l.length pc),(2, .slice oa os.length oc),(3, .slice sa s.length sc),(4, zc cost),(5, sb h.next),(13, sh H.next s.length s.length),(14, zc (i:Nat))]/\ds=[]/\Ext H z∧H.next<z.next/\z.get H.next=some (qt (ints (zI (p9 s.length (dR (s.take i))))))/\∀(j:Nat) x,j<i->s[j]? =some x->(0<=x.probe/\x.probe<l.length)/\lS x.yes j s.length/\lS x.no j s.length)
  ⟨0,gK _,rfl,rfl,rfl,x1,by omega,by simpa[dR]using g1,λj x hj=>absurd hj (by omega)⟩ ?_
 clear x1 n1 g1;rintro k' e ds G ⟨i,hi,rfl,rfl,rfl,xG,nG,gN,V⟩;have WG:=xG.wf W;have f:=xG.log.trans hL;have d:=x0.trans xG;by_cases hlt:i<s.length
 ·have a8:zd i s.length true:=cH (by omega);obtain⟨x,hx⟩:∃x,s[i]? =some x:=⟨s[i],a6 hlt⟩;obtain⟨bF,oF,cF,eQ,eg,tF,dv,gF,aE,eJ,cj,cJ,eK⟩:=S0.elem hx;cases dv;have da:=(d.old _ aE).trans gF;have g:b=false∨(0<=x.probe/\x.probe<l.length)/\lS x.yes i s.length/\lS x.no i s.length:=by
   cases b with
   |false=>exact .inl rfl
   |true=>exact .inr ((hb.1 rfl).1 i x hx)
  have CY:=DC F.rf (h:={G with log:=[]}) (.of WG) x.yes (i:Nat) (s.length:Nat);have CN:=DC F.rf (h:={G with log:=[]}) (.of WG) x.no (i:Nat) (s.length:Nat);by_cases p1:x.probe<0
  ·obtain rfl:b=false:=g.resolve_right λq=>by omega
   have m1:zd x.probe 0 true:=cH p1;refine Y40 ?_;refine Y27 ?_;exact ah f rfl rfl
  have m1:zd x.probe 0 false:=cS (by omega);by_cases p2:(l.length:Int)<=x.probe
  ·obtain rfl:b=false:=g.resolve_right λq=>by omega
   have m2:zt x.probe l.length true:=mO p2;refine Y40 ?_;refine Y35 ?_;exact ah f rfl rfl
  have m2:zt x.probe l.length false:=pz (by omega);by_cases p3:lS x.yes i s.length;case neg=>
   obtain rfl:b=false:=g.resolve_right λq=>p3 q.2.1;rw[decide_eq_false p3]at CY;refine Y40 ?_;refine Y17 ?_;refine FW.pu CY ?_;refine Y28 ?_;exact ah f rfl rfl
  rw[decide_eq_true p3]at CY;by_cases p4:lS x.no i s.length;case neg=>
   obtain rfl:b=false:=g.resolve_right λq=>p4 q.2.2;rw[decide_eq_false p4]at CN;refine Y40 ?_;refine Y17 ?_;refine FW.pu CY ?_;refine Y22 ?_;refine FW.pu CN ?_;refine Y16 ?_;exact ah f rfl rfl
  rw[decide_eq_true p4]at CN;refine Y12 ?_;apply De (H:=G)
  ·refine Y40 ?_;refine Y4 ?_;refine FW.pu CY ?_;refine Y22 ?_;refine FW.pu CN ?_;refine Y6 ?_;exact⟨rfl,rfl,rfl,rfl⟩
  clear CY CN g;have a7:=Bc hx;have be:∀L:List Int,L.length<=2*s.length->∀c:Int,((L.count c:Nat):Int)<=2000000:=λL eI c=>by
   have:=List.count_le_length (a:=c) (l:=L);omega
  have dp:(dR (s.take i)).length<=2*s.length:=by rw[Ff,lp];omega
  have dq:(dR (s.take i)++[x.yes]).length<=2*s.length:=by rw[eA,Ff,lp,WC];omega
  have cf:∀L,(ints (zI (p9 s.length L))).length=s.length:=λL=>by rw[jL,qh]
  have am:∀{c:Nat} {L:List Int},c<s.length->(ints (zI (p9 s.length L))).set (0+c*1) (zc ((L.count (c:Int)+1:Nat):Int))=ints (zI (p9 s.length (L++[(c:Int)]))):=λ{c L} Q=>by rw[Dj,LF Q]
  have LD:∀{c:Nat} {L:List Int},c<s.length->bN (ints (zI (p9 s.length L))) (0+c*1)=some (zc ((L.count (c:Int):Nat):Int)):=λ{c L} Q=>by rw[bW,j3,xf];exact FK (um L Q)
  refine VG (E0:=λr=>(1, .slice pa l.length pc)::(2, .slice oa os.length oc)::(3, .slice (some ⟨bF,oF,none⟩) s.length sc)::(4, zc cost)::(5, sb h.next)::(13, sh H.next s.length s.length)::(14, zc (i:Nat))::r) (P:=λz=>Ext H z∧H.next<z.next/\z.get H.next=some (qt (ints (zI (p9 s.length (dR (s.take i)++[x.yes])))))) ?_ ?_
  ·rcases p3 with q|q
   ·rw[q]at cj;have m3:zt (-1) 0 false:=rfl;refine Y10 ?_;exact⟨rfl,⟨_,rfl⟩,rfl,xG,nG,by rw[q,DT];exact gN⟩
   ·obtain⟨c,Q⟩:∃c:Nat,x.yes=(c:Int):=⟨x.yes.toNat,by omega⟩;have B:c<s.length:=by omega
    rw[Q]at cj;have m3:zt c 0 true:=mO (by omega);have db:=be _ dp (c:Int);have u1:=am (c:=c) (L:=dR (s.take i)) B;have d1:=LD (c:=c) (L:=dR (s.take i)) B;have dE:=cf (dR (s.take i));rw[Q];generalize(dR (s.take i)).count (c:Int)=ct at*;have cX:zE ct 1 ((ct+1:Nat):Int):=by
     have:=gI (a:=(ct:Nat)) (b:=1) (aU (by omega) (by omega));exact this
    refine Y26 ?_;refine kW rfl rfl rfl (by rfl) (by rfl) (by rfl) (by assumption) (by rfl) (by rfl) (by omega) (by omega) (by omega) (by(repeat apply aC rfl);exact aQ) ?_;refine Y2 ?_;exact⟨rfl,⟨_,rfl⟩,rfl,xG.wr (bl _) (by omega),nG,by rw[Heap.aP gN,u1]⟩
  rintro r G2 ⟨M,d8,ar⟩;have eh:=M.wf W;have dT:=((x0.trans M).old _ aE).trans gF;clear da gN xG nG WG f d;have f:=M.log.trans hL;have Y:∀(j:Nat) y,j<i+1->s[j]? =some y->(0<=y.probe/\y.probe<l.length)/\lS y.yes j s.length/\lS y.no j s.length:=λj y hj hy=>by
   by_cases e:j=i
   ·subst e;cases Option.some.inj (hx.symm.trans hy);exact⟨⟨by omega,by omega⟩,p3,p4⟩
   ·exact V j y (by omega) hy
  have cY:zE i 1 ((i+1:Nat):Int):=by
   have:=gI (a:=(i:Nat)) (b:=1) (aU (by omega) (by omega));exact this
  clear V;rcases p4 with q|q
  ·rw[q]at cJ;have m3:zt (-1) 0 false:=rfl;refine Y17 ?_;exact⟨s.length-(i+1),by omega,i+1,by omega,rfl,rfl,rfl,M,d8,by rw[a7,q,DT];exact ar,Y⟩
  ·obtain⟨c,Q⟩:∃c:Nat,x.no=(c:Int):=⟨x.no.toNat,by omega⟩;have B:c<s.length:=by omega
   rw[Q]at cJ;have m3:zt c 0 true:=mO (by omega);have db:=be _ dq (c:Int);have u1:=am (c:=c) (L:=dR (s.take i)++[x.yes]) B;have d1:=LD (c:=c) (L:=dR (s.take i)++[x.yes]) B;have dE:=cf (dR (s.take i)++[x.yes]);rw[Q]at a7;generalize(dR (s.take i)++[x.yes]).count (c:Int)=ct at*;have cX:zE ct 1 ((ct+1:Nat):Int):=by
    have:=gI (a:=(ct:Nat)) (b:=1) (aU (by omega) (by omega));exact this
   refine Y26 ?_;refine kW rfl rfl rfl (by rfl) (by rfl) (by rfl) (by assumption) (by rfl) (by rfl) (by omega) (by omega) (by omega) (by(repeat apply aC rfl);exact aQ) ?_;refine Y9 ?_;exact⟨s.length-(i+1),by omega,i+1,by omega,rfl,rfl,rfl,M.wr (bl _) (by omega),d8,by rw[Heap.aP ar,u1,a7],Y⟩
 obtain rfl:i=s.length:=by omega
 rw[hP]at gN;have u:OX l s:=λj x hx=>V j x (List.getElem?_eq_some_iff.1 hx).1 hx;clear V;have a8:zd s.length s.length false:=cS (by omega);refine Y18 ?_
 refine bg (λk' e ds z=>∃i:Nat,i<=s.length/\s.length-i=k'∧e=[(1, .slice pa l.length pc),(2, .slice oa os.length oc),(3, .slice sa s.length sc),(4, zc cost),(5, sb h.next),(13, sh H.next s.length s.length),(15, zc (i:Nat))]/\ds=[]/\G=z∧∀j:Nat,0<j->j<i->(dR s).count (j:Int)=1)
  ⟨0,gK _,rfl,rfl,rfl,rfl,λj h1 h2=>absurd h2 (by omega)⟩ ?_
 rintro k' e ds _ ⟨i,hi,rfl,rfl,rfl,rfl,C⟩;by_cases hlt:i<s.length
 ·have a8:zd i s.length true:=cH (by omega);have cY:zE i 1 ((i+1:Nat):Int):=by
   have:=gI (a:=(i:Nat)) (b:=1) (aU (by omega) (by omega));exact this
  by_cases h0:i=0
  ·have m1:zs i 0 false:=fu (by omega);refine Y32 ?_;exact⟨s.length-(i+1),by omega,i+1,by omega,rfl,rfl,rfl,rfl,λj h1 h2=>absurd h1 (by omega)⟩
  have m1:zs i 0 true:=dY (by omega);have d1:bN (ints (zI (p9 s.length (dR s)))) (0+i*1)=some (zc (((dR s).count (i:Int):Nat):Int)):=by rw[bW,j3,xf];exact FK (um _ hlt)
  by_cases h1:(dR s).count (i:Int)=1
  ·have m2:zB (((dR s).count (i:Int):Nat):Int) 1 false:=qE (by omega);refine Y37 ?_;exact⟨s.length-(i+1),by omega,i+1,by omega,rfl,rfl,rfl,rfl,λj h2 h3=>by
    by_cases e:j=i
    ·rw[e];exact h1
    ·exact C j h2 (by omega)⟩
  ·have m2:zB (((dR s).count (i:Int):Nat):Int) 1 true:=jr (by omega);obtain rfl:b=false:=by
    cases b with
    |false=>rfl
    |true=>exact absurd ((hb.1 rfl).2.1 i (by omega) hlt) h1
   refine Y39 ?_;exact ah f rfl rfl
 obtain rfl:i=s.length:=by omega
 have a8:zd s.length s.length false:=cS (by omega);have t:nY w l (os.map (dZ w)) s 10 (j7 s) (List.replicate l.length 0) cost=b:=by
  have e:List.replicate l.length 0=z8.take l.length:=by
   refine xa λj=> ?_;rw[List.getElem?_replicate,List.getElem?_take];by_cases q:j<l.length
   ·rw[if_pos q,if_pos q,YL (by omega)]
   ·rw[if_neg q,if_neg q]
  rw[e,yd u,xp,hb];exact⟨λq=>⟨u,λj h1 h2=>C j h1 h2,q⟩,λq=>q.2.2⟩
 have CA:=K5 F.rf.rj.rc (h:={G.push (.cells (ints (zI (List.replicate l.length 0))) true (bM [I.O]))with log:=[]}) (.of (WG.push _)) J ((so.ext (d.push _)).log []) U D;have S:lS (j7 s) (-1) s.length:=by
  unfold j7 lS;split<;>omega
 have aw:=(xG.old _ (by omega)).trans g0;clear C gN hb;by_cases hs0:s.length=0
 ·have mz:zs s.length 0 false:=fu (by omega);have hf:j7 s= -1:=by unfold j7;rw[if_pos hs0]
  rw[hf]at t S;refine Y35 ?_;refine rL rfl rfl rfl (by rfl) (by rfl) (by rfl) (rQ (by rfl) (by rfl) (bl _) (by omega) (by omega) rfl) (by refine cm (aq rfl (vk (by rfl)) (by exact dD _ _)) ?_;refine cm (aq rfl (dx (by rfl)) (by exact dG _ _ _)) ?_;refine cm (aq rfl (dx (by rfl)) (by exact dD _ _)) ?_;refine cm (aq rfl (dx (by rfl)) (by exact dG _ _ _)) ?_;refine cm (aq rfl (dx (by rfl)) (by exact dG _ _ _)) ?_;refine cm (aq rfl (bV (by rfl) YG (by assumption) (by assumption)) (by exact Bn _)) ?_;refine cm (aq rfl (dx (by rfl)) (by exact dG _ _ _)) ?_;refine cm (aq rfl (bV (by rfl) YG (by assumption) (by assumption)) (by exact Bn _)) ?_;exact rD) ?_;rw[EB];have x5:Ext G (G.push (.cells (ints (zI (List.replicate l.length 0))) true (bM [I.O]))):=(Ext.refl G).push _;have g5:(G.push (.cells (ints (zI (List.replicate l.length 0))) true (bM [I.O]))).get G.next=some (.cells (ints (zI (List.replicate l.length 0))) true (bM [I.O])):=z3 _ _
  have n5:(G.push (.cells (ints (zI (List.replicate l.length 0))) true (bM [I.O]))).next=G.next+1:=rfl
  generalize(G.push (.cells (ints (zI (List.replicate l.length 0))) true (bM [I.O])))=G5 at*;have Z:=(x5.old _ (by have:=d.next;omega)).trans aw;refine Y2 ?_;refine FW.alD CA (λv z m q=>q.log m) ?_;clear CA;rintro nv G6 K sn;have k:=(d.trans x5).trans K;have W6:=k.wf hr.wf;have g6:=(K.old _ (by omega)).trans g5;have d9:=(K.old _ (by have:=d.next;omega)).trans Z;have du:=K.next
  obtain⟨na,nc,rfl⟩:=sn.form;refine⟨_,by apply aG rfl (aq rfl (dx (by rfl)) (by exact dD _ _)) rfl;apply aG rfl (xb rfl) (by rfl);apply aG rfl (aq rfl (vk (by rfl)) (by exact dD _ _)) rfl;apply aG rfl (aq rfl (dx (by rfl)) (by exact dG _ _ _)) rfl;apply aG rfl (aq rfl (dx (by rfl)) (by exact dD _ _)) rfl;apply aG rfl (aq rfl (dx (by rfl)) (by exact dG _ _ _)) rfl;(repeat apply aC rfl);apply aG rfl (aq rfl (dx (by rfl)) (by exact dG _ _ _)) rfl;apply aG rfl (aq rfl (bV (by rfl) (by assumption) (by assumption) (by assumption)) (by exact Bn _)) rfl;exact aQ,?_⟩;have ae:aK G6 1 (sh G.next l.length l.length) (List.replicate l.length 0).length (ints (zI (List.replicate l.length 0))):=by
   rw[wl];exact .mem ⟨by omega,⟨_,_,_,g6,by rw[aR,tb,bk,dn (by rw[jL,wl];omega)]⟩,by rw[jL,wl];omega⟩ (bl _)
  have C7:=ye F.rf J bj bo (ns:=os.map (dZ w)) (by rw[hS];exact U) (λr hr=>by
   obtain⟨o,ho,rfl⟩:=List.mem_map.1 hr;exact⟨xi (oB w o) (by decide),λn hn=>⟨qS J hn,zb J (so.ok o ho) (D o ho) hn⟩⟩) cd u 10 (h:={G6 with log:=[]}) (.of W6) ((sp.ext k).log []) (sn.log []) (aK.log (aK.ext S0 k) []) (ae.log []) (by rw[wl]) (λy hy=>by rw[List.eq_of_mem_replicate hy];omega) S ba (by have:=yK l.length (List.replicate l.length 0);omega)
  rw[t,hS]at C7;rw[hS];skip;refine qC ?_;refine FW.puD C7 (by(repeat apply aC rfl);exact aQ) ?_;refine Y6 ?_;exact ah ((K.log.trans x5.log).trans f) rfl rfl
 ·have mz:zs s.length 0 true:=dY (by omega);have hf:j7 s=0:=by unfold j7;rw[if_neg hs0]
  rw[hf]at t S;refine Y36 ?_;refine rL rfl rfl rfl (by rfl) (by rfl) (by rfl) (rQ (by rfl) (by rfl) (bl _) (by omega) (by omega) rfl) (by refine cm (aq rfl (vk (by rfl)) (by exact dD _ _)) ?_;refine cm (aq rfl (dx (by rfl)) (by exact dG _ _ _)) ?_;refine cm (aq rfl (dx (by rfl)) (by exact dD _ _)) ?_;refine cm (aq rfl (dx (by rfl)) (by exact dG _ _ _)) ?_;refine cm (aq rfl (dx (by rfl)) (by exact dG _ _ _)) ?_;refine cm (aq rfl (bV (by rfl) YG (by assumption) (by assumption)) (by exact Bn _)) ?_;refine cm (aq rfl (dx (by rfl)) (by exact dG _ _ _)) ?_;refine cm (aq rfl (bV (by rfl) YG (by assumption) (by assumption)) (by exact Bn _)) ?_;exact rD) ?_;rw[EB];have x5:Ext G (G.push (.cells (ints (zI (List.replicate l.length 0))) true (bM [I.O]))):=(Ext.refl G).push _;have g5:(G.push (.cells (ints (zI (List.replicate l.length 0))) true (bM [I.O]))).get G.next=some (.cells (ints (zI (List.replicate l.length 0))) true (bM [I.O])):=z3 _ _
  have n5:(G.push (.cells (ints (zI (List.replicate l.length 0))) true (bM [I.O]))).next=G.next+1:=rfl
  generalize(G.push (.cells (ints (zI (List.replicate l.length 0))) true (bM [I.O])))=G5 at*;have Z:=(x5.old _ (by have:=d.next;omega)).trans aw;refine Y2 ?_;refine FW.alD CA (λv z m q=>q.log m) ?_;clear CA;rintro nv G6 K sn;have k:=(d.trans x5).trans K;have W6:=k.wf hr.wf;have g6:=(K.old _ (by omega)).trans g5;have d9:=(K.old _ (by have:=d.next;omega)).trans Z;have du:=K.next
  obtain⟨na,nc,rfl⟩:=sn.form;refine⟨_,by apply aG rfl (aq rfl (dx (by rfl)) (by exact dD _ _)) rfl;apply aG rfl (xb rfl) (by rfl);apply aG rfl (aq rfl (vk (by rfl)) (by exact dD _ _)) rfl;apply aG rfl (aq rfl (dx (by rfl)) (by exact dG _ _ _)) rfl;apply aG rfl (aq rfl (dx (by rfl)) (by exact dD _ _)) rfl;apply aG rfl (aq rfl (dx (by rfl)) (by exact dG _ _ _)) rfl;(repeat apply aC rfl);apply aG rfl (aq rfl (dx (by rfl)) (by exact dG _ _ _)) rfl;apply aG rfl (aq rfl (bV (by rfl) (by assumption) (by assumption) (by assumption)) (by exact Bn _)) rfl;exact aQ,?_⟩;have ae:aK G6 1 (sh G.next l.length l.length) (List.replicate l.length 0).length (ints (zI (List.replicate l.length 0))):=by
   rw[wl];exact .mem ⟨by omega,⟨_,_,_,g6,by rw[aR,tb,bk,dn (by rw[jL,wl];omega)]⟩,by rw[jL,wl];omega⟩ (bl _)
  have C7:=ye F.rf J bj bo (ns:=os.map (dZ w)) (by rw[hS];exact U) (λr hr=>by
   obtain⟨o,ho,rfl⟩:=List.mem_map.1 hr;exact⟨xi (oB w o) (by decide),λn hn=>⟨qS J hn,zb J (so.ok o ho) (D o ho) hn⟩⟩) cd u 10 (h:={G6 with log:=[]}) (.of W6) ((sp.ext k).log []) (sn.log []) (aK.log (aK.ext S0 k) []) (ae.log []) (by rw[wl]) (λy hy=>by rw[List.eq_of_mem_replicate hy];omega) S ba (by have:=yK l.length (List.replicate l.length 0);omega)
  rw[t,hS]at C7;rw[hS];skip;refine qC ?_;refine FW.puD C7 (by(repeat apply aC rfl);exact aQ) ?_;refine Y6 ?_;exact ah ((K.log.trans x5.log).trans f) rfl rfl
end Go.A.Pk
end
section
namespace Go.A.Pk
theorem HZ:∀{f g:List Nat},f.length=g.length->(∀k∈f,k<=2)->(∀k∈g,k<=2)->fq f=fq g->f=g
 |[],[],_,_,_,_=>rfl
 |[],_::_,h,_,_,_=>by simp at h
 |_::_,[],h,_,_,_=>by simp at h
 |a::f,b::g,hl,hf,hg,h=>by
  have hl':f.length=g.length:=by simpa using hl
  have c:∀k∈f,k<=2:=λk l=>hf k (bu _ l);have d:∀k∈g,k<=2:=λk l=>hg k (bu _ l);have m:=pe c;have n:=pe d;have o:=hf a bx;have p:=hg b bx;rw[og,og,hl']at h;rw[hl']at m;have e:a=b/\fq f=fq g:=by
   generalize 3 ^ g.length=P at*;generalize fq f=x at*;generalize fq g=y at*;have i:a=0∨a=1∨a=2:=by omega
   have j:b=0∨b=1∨b=2:=by omega
   rcases i with rfl|rfl|rfl<;>rcases j with rfl|rfl|rfl<;>omega
  rw[e.1,HZ hl' c d e.2]
theorem Rz{f g:List Nat}(h:f.length=g.length)(e:fm f=fm g):f=g:=by
 unfold fm at e;rw[h]at e;exact List.append_cancel_right e
def owL(o:List Int)(s:List Sta):List Int:=s.foldl (λo x=>o.set (fq x.found) x.cost) o
theorem N0(o:List Int)(s:List Sta)(x:Sta):owL o (s++[x])=(owL o s).set (fq x.found) x.cost:=by unfold owL;rw[D4];rfl
theorem Im:∀(s:List Sta) (o:List Int),(owL o s).length=o.length
 |[],_=>rfl
 |x::s,o=>(Im s _).trans (ul ..)
theorem Gz{j:Nat}:∀{s:List Sta} {o:List Int},(∀x∈s,fq x.found≠j)->(owL o s)[j]? =o[j]?
 |[],_,_=>rfl
 |x::s,o,h=>by
  show(owL (o.set (fq x.found) x.cost) s)[j]? =_;rw[Gz λy hy=>h y (bu _ hy),QQ (h x bx)]
theorem NZ:∀{s:List Sta} {o:List Int},(s.Pairwise λx y=>fq x.found<fq y.found)->∀x∈s,fq x.found<o.length->(owL o s)[fq x.found]? =some x.cost
 |[],_,_,x,hx,_=>by cases hx
 |y::s,o,hp,x,hx,hl=>by
  obtain⟨h1,h2⟩:=List.pairwise_cons.1 hp;show(owL (o.set (fq y.found) y.cost) s)[fq x.found]? =_;rcases List.mem_cons.1 hx with rfl|hx
  ·rw[Gz λz a=>by have:=h1 z a;omega,V2 hl]
  ·exact NZ h2 x hx (by rw[ul];exact hl)
section
variable {l:List Pb} {s:List Sta}
theorem QB(h:∀(i:Nat) x y,s[i]? =some x->s[i+1]? =some y->fq x.found<fq y.found):s.Pairwise λx y=>fq x.found<fq y.found:=by
 induction s with
 |nil=>exact .nil
 |cons x s ih=>
  have c:=ih λi a b f g=>h (i+1) a b (by simpa using f) (by simpa using g);refine .cons (λy d=> ?_) c;cases s with
  |nil=>cases d
  |cons z s=>
   have e:=h 0 x z rfl rfl;rcases List.mem_cons.1 d with rfl|d
   ·exact e
   ·exact Nat.lt_trans e ((List.pairwise_cons.1 c).1 y d)
variable{f:List Nat}
theorem Ir(l:List Pb)(h:f.length=l.length)(a:∀k∈f,k<=2):fq f<3 ^ l.length:=by rw[←h];exact pe a
theorem Io(h:yg l s)(c:f.length=l.length)(d:∀k∈f,k<=2):(owL (List.replicate (3 ^ l.length) 0) s)[fq f]? =some (lkS s (fm f)):=by
 have a:=Ir l c d;have j:=QB h.2;unfold lkS;cases hq:s.find? (λx=>decide (fm x.found=fm f))with
 |some y=>
  have i:=List.mem_of_find?_eq_some hq;have e:y.found=f:=Rz ((h.1 y i).1.trans c.symm) (by simpa using List.find?_some hq);have:=NZ (o:=List.replicate (3 ^ l.length) 0) j y i (by rw[wl,e];exact a);rw[e]at this;exact this
 |none=>
  rw[Gz,List.getElem?_replicate,if_pos a];intro x g e;have b:=h.1 x g;have:=HZ (b.1.trans c.symm) b.2.1 d e;have:=List.find?_eq_none.1 hq x g
  simp_all
theorem Er:∀n:Nat,fq (List.replicate n 0)=0
 |0=>rfl
 |n+1=>by rw[List.replicate_succ,og,Er n];simp
variable{n:Nat}
theorem RA(h:n<=8):fm (List.replicate n 0)=z8:=by
 unfold fm;rw[wl,List.replicate_append_replicate,show n+(8-n)=8 by omega];rfl
theorem JO(h:yg l s)(b:l.length<=8):(owL (List.replicate (3 ^ l.length) 0) s)[0]? =some (lkS s z8):=by
 have:=Io h (f:=List.replicate l.length 0) (by simp) (λk a=>by rw[List.eq_of_mem_replicate a];omega)
 rwa [Er,RA b]at this
variable{p:Nat}
theorem N4{a:Nat}(h:p<f.length):fm (f.set p a)=(fm f).set p a:=by
 unfold fm;rw[ul,List.set_append_left _ _ h]
theorem Dm(a:f.length=l.length):l.zip (fm f)=l.zip f:=by
 rw[←FL];unfold fm;rw[←a,List.take_left'];rfl
theorem Mg(h:p<f.length):(fm f).getD p 0=f.getD p 0:=by
 unfold fm;rw[gk,gk,hG h]
theorem MO(h:f.length=n):gZ n (fm f)=gZ n f:=by
 unfold gZ;refine Hm λp a=> ?_;have:=List.mem_range.1 a;rw[Mg (by omega)]
end
def wG(w:List Nat×List Nat)(l:List Pb)(s:List Sta)(x:Sta)(p a:Nat):Bool:=vl w l (lkS s) (fm x.found) x.cost p a
variable{w:List Nat×List Nat}{x:Sta}
theorem P4{l:List Pb}{s:List Sta}{p a:Nat}(b:x.found.length=l.length)(c:p<l.length):wG w l s x p a=(bsB w (l.zip (x.found.set p a))&&(decide (x.cost-dW l p<=0)||decide (x.cost-dW l p<=lkS s (fm (x.found.set p a))))):=by
 unfold wG vl;rw[←N4 (by omega),Dm (by rw[ul];exact b)];congr 2;exact decide_eq_decide.2 (by omega)
theorem HY{l:List Pb}{s:List Sta}(d:x.found.length=l.length):pU w l (lkS s) (fm x.found) x.cost=true↔ ∀p,p<l.length->x.found.getD p 0=0->(wG w l s x p 1||wG w l s x p 2)=true:=by
 unfold pU;rw[MO d,GE];constructor
 ·intro h p a b;exact h p (om.2 ⟨a,b⟩)
 ·intro h p c;obtain⟨a,b⟩:=om.1 c;exact h p a b
end Go.A.Pk
end
section
namespace Go.A.Pk
variable {T:Nat->Option an}
structure xk (T:Nat->Option an):Prop where
 p:aM T
 f104:T 32=some f104
 f105:T 33=some f105
 f107:T 35=some f107
 f205:T 71=some f205
 f206:T 72=some f206
 f260:T 108=some f260
variable{f:List Nat}{i k:Nat}
theorem LZ(h:f[i]? =some k):(fL f)[i]? =some (.int .u8 (k:Nat)):=by simp[fL,h]
def SlJ(h:Heap)(v:Value)(l:List Nat):Prop:=aK h 1 v l.length (fL l)∨l=[]/\∃b o k,v= .slice (some ⟨b,o,some k⟩) 0 0
theorem SlJ.form{h:Heap}{v:Value}{l:List Nat}(s:SlJ h v l):∃a c,v= .slice a l.length c:=by
 rcases s with s|⟨rfl,b,o,k,rfl⟩
 ·exact aK.form s
 ·exact⟨_,_,rfl⟩
variable{h:Heap}{v:Value}{l:List Nat}
theorem SlJ.src(s:SlJ h v l):cN h 1 v=some (fL l,l.length):=by
 rcases s with s|⟨rfl,b,o,k,rfl⟩
 ·exact CV s
 ·rfl
theorem SlJ.ext{h h':Heap}{v:Value}{l:List Nat}(s:SlJ h v l)(x:Ext h h'):SlJ h' v l:=s.imp (λs=>aK.ext s x) id
theorem SlJ.log{h:Heap}{v:Value}{l:List Nat}(s:SlJ h v l)(m:List Nat):SlJ {h with log:=m} v l:=s.imp (λs=>aK.log s m) id
theorem SlJ.we{h h':Heap}{v:Value}{l:List Nat}(s:SlJ h v l)(b:h.next<=h'.next)(a:∀z,z<h.next->h'.get z=h.get z):SlJ h' v l:=s.imp (λs=>aK.we s b a) id
theorem CR(s:SlJ h v l){x:Value}(hi:(fL l)[i]? =some x):
 ∃b o c vs own t,v= .slice (some ⟨b,o,none⟩) l.length c/\h.get b=some (.cells vs own t)/\b<h.next/\bN vs (o+i*1)=some x:=by
 rcases s with s|⟨rfl,_⟩
 ·exact wE s hi
 ·simp[fL]at hi
theorem TR(F:xk T)(hr:Rdy h)(k:Nat):Pu T 33 [.int .u8 (k:Nat)] h (.bool (decide (2<k))):=by
 refine .of F.p F.f105 hr rfl ?_;have m:af .gtr (.int .u8 (k:Nat)) (.int .u8 2)=some (.bool (decide (2<k))):=by
  rw[MY];congr 2;exact decide_eq_decide.2 (by omega)
 refine Y9 ?_;exact ah hr.log rfl rfl
def yy:List Nat->Nat->Int
 |[],_=> -1
 |k::l,i=>if 2<k then(i:Int)else yy l (i+1)
theorem Jj(hi:l[i]? =some k):yy (l.drop i) i=if 2<k then(i:Int)else yy (l.drop (i+1)) (i+1):=by
 obtain⟨a,rfl⟩:=List.getElem?_eq_some_iff.1 hi;rw[wi a,yy]
theorem Ep:∀(l:List Nat) (i:Nat),decide (0<=yy l i)=l.any λk=>decide (2<k)
 |[],_=>rfl
 |k::l,i=>by
  rw[yy,List.any_cons];by_cases h:2<k
  ·rw[if_pos h,decide_eq_true h,So];exact decide_eq_true (by omega)
  ·rw[if_neg h,Ep l (i+1),decide_eq_false h,If]
theorem My(F:xk T)(hr:Rdy h)(s:SlJ h v l)(B:l.length<1000000):Pu T 71 [v, .func (.func 33) #[] #[]] h (zc (yy l 0)):=by
 refine .of F.p F.f205 hr rfl ?_;obtain⟨a,c,rfl⟩:=s.form;refine Y10 ?_
 refine bg (λm e g n=>∃i:Nat,i<=l.length/\m=l.length-i/\e=[(0, .slice a l.length c),(1, .func (.func 33) #[] #[]),(7, zc (l.length:Nat)),(8, zc (i:Nat))]/\g=[]/\h=n∧yy l 0=yy (l.drop i) i)
  ⟨0,gK _,rfl,rfl,rfl,rfl,rfl⟩ ?_
 rintro m e g _ ⟨i,q,rfl,rfl,rfl,rfl,d⟩;by_cases hlt:i<l.length
 ·obtain⟨k,j⟩:∃r,l[i]? =some r:=⟨l[i],a6 hlt⟩;obtain⟨b,o,x,D,w,t,u,y,A,z⟩:=CR s (LZ j);cases u;have f:zd i l.length true:=cH (by omega);have C:=TR F (h:={h with log:=[]}) (.of hr.wf) k;rw[Jj j]at d;by_cases h3:2<k
  ·rw[decide_eq_true h3]at C;rw[if_pos h3]at d;rw[d];refine Y20 ?_;refine FW.pu C ?_;refine Y12 ?_;exact ah hr.log rfl rfl
  ·rw[decide_eq_false h3]at C;rw[if_neg h3]at d;refine Y20 ?_;refine FW.pu C ?_;refine Y9 ?_;exact⟨l.length-(i+1),by omega,i+1,by omega,rfl,rfl,rfl,rfl,d⟩
 ·obtain rfl:i=l.length:=by omega
  have f:zd l.length l.length false:=cS (by omega);rw[Sp]at d;have d:yy l 0= -1:=d;rw[d];refine Y14 ?_;exact ah hr.log rfl rfl
theorem DU(F:xk T)(hr:Rdy h)(s:SlJ h v l)(b:l.length<1000000):Pu T 32 [v, .func (.func 33) #[] #[]] h (.bool (l.any λk=>decide (2<k))):=by
 refine .of F.p F.f104 hr rfl ?_;obtain⟨a,c,rfl⟩:=s.form;have C:=My F (h:={h with log:=[]}) (.of hr.wf) (SlJ.log s []) b;rw[←Ep l 0];generalize yy l 0=z at C⊢;have d:af .geq (zc z) (zc 0)=some (.bool (decide (0<=z))):=y6;refine Y7 ?_;refine FW.pu C ?_;refine Y4 ?_;exact ah hr.log rfl rfl
def cmN(a b:Nat):Int:=if a<b then -1 else if b<a then 1 else 0
def cmF:List Nat->List Nat->Int
 |[],[]=>0
 |[],_::_=> -1
 |_::_,[]=>1
 |a::f,b::g=>if cmN a b≠0 then cmN a b else cmF f g
theorem BJ:∀(f g:List Nat),cmF f g<0↔B8 f g=true
 |[],[]=>by simp[cmF,B8]
 |[],_::_=>by simp[cmF,B8]
 |_::_,[]=>by simp[cmF,B8]
 |a::f,b::g=>by
  unfold cmF B8 cmN;by_cases h1:a<b
  ·rw[if_pos h1,if_pos (by omega),if_pos h1];simp
  ·rw[if_neg h1,if_neg h1];by_cases h2:b<a
   ·rw[if_pos h2,if_pos (by omega),if_pos h2];simp
   ·rw[if_neg h2,if_neg (by omega),if_neg h2];exact BJ f g
theorem Nu(F:xk T)(hr:Rdy h)(k:Nat):Pu T 108 [.int .u8 (k:Nat)] h (.bool false):=by
 refine .of F.p F.f260 hr rfl ?_;have m:af .neq (.int .u8 (k:Nat)) (.int .u8 (k:Nat))=some (.bool false):=qE rfl;refine Y10 ?_;exact ah hr.log rfl rfl
theorem Qm(F:xk T)(hr:Rdy h)(a b:Nat):Pu T 72 [.int .u8 (a:Nat), .int .u8 (b:Nat)] h (zc (cmN a b)):=by
 refine .of F.p F.f206 hr rfl ?_;have c:=Nu F (h:={h with log:=[]}) (.of hr.wf) a;have d:=Nu F (h:={h with log:=[]}) (.of hr.wf) b;unfold cmN;by_cases h1:a<b
 ·have e:af .lss (.int .u8 (a:Nat)) (.int .u8 (b:Nat))=some (.bool true):=cH (by omega);rw[if_pos h1];refine Y6 ?_;refine FW.pu c ?_;refine Y5 ?_;refine FW.pu d ?_;refine Y28 ?_;exact ah hr.log rfl rfl
 ·have e:af .lss (.int .u8 (a:Nat)) (.int .u8 (b:Nat))=some (.bool false):=cS (by omega);rw[if_neg h1];by_cases h2:b<a
  ·have f:af .gtr (.int .u8 (a:Nat)) (.int .u8 (b:Nat))=some (.bool true):=dY (by omega);rw[if_pos h2];refine Y6 ?_;refine FW.pu c ?_;refine Y5 ?_;refine FW.pu d ?_;refine Y37 ?_;exact ah hr.log rfl rfl
  ·have f:af .gtr (.int .u8 (a:Nat)) (.int .u8 (b:Nat))=some (.bool false):=fu (by omega);rw[if_neg h2];refine Y6 ?_;refine FW.pu c ?_;refine Y5 ?_;refine FW.pu d ?_;refine Y38 ?_;exact ah hr.log rfl rfl
theorem LA{g:List Nat}{a b:Nat}(e:f[i]? =some a)(hb:g[i]? =some b):cmF (f.drop i) (g.drop i)=if cmN a b≠0 then cmN a b else cmF (f.drop (i+1)) (g.drop (i+1)):=by
 obtain⟨c,rfl⟩:=List.getElem?_eq_some_iff.1 e;obtain⟨d,rfl⟩:=List.getElem?_eq_some_iff.1 hb;rw[wi c,wi d,cmF]
theorem Ql(F:xk T)(hr:Rdy h){u:Value}{g:List Nat}(s:SlJ h v f)(E:SlJ h u g)(Y:f.length<1000000)(M:g.length<1000000):Pu T 35 [v,u] h (zc (cmF f g)):=by
 refine .of F.p F.f107 hr rfl ?_;obtain⟨a,c,rfl⟩:=s.form;obtain⟨G,H,rfl⟩:=E.form;refine Y10 ?_
 refine bg (λm e x J=>∃i:Nat,i<=f.length/\i<=g.length/\m=f.length-i/\e=[(0, .slice a f.length c),(1, .slice G g.length H),(9, .slice a f.length c),(10, zc (f.length:Nat)),(11, zc (i:Nat))]/\x=[]/\h=J∧cmF f g=cmF (f.drop i) (g.drop i))
  ⟨0,gK _,gK _,rfl,rfl,rfl,rfl,rfl⟩ ?_
 rintro m e x _ ⟨i,L,z,rfl,rfl,rfl,rfl,d⟩;by_cases hlt:i<f.length
 ·obtain⟨k,A⟩:∃r,f[i]? =some r:=⟨f[i],a6 hlt⟩;obtain⟨b,o,U,vs,P,t,N,V,X,I⟩:=CR s (LZ A);cases N;have w:zd i f.length true:=cH (by omega);by_cases hl2:i<g.length
  ·obtain⟨B,j⟩:∃r,g[i]? =some r:=⟨g[i],a6 hl2⟩;obtain⟨S,Z,c4,Q,D,t2,l,W,K,y⟩:=CR E (LZ j);cases l;have n:zt i g.length false:=pz (by omega);have C:=Qm F (h:={h with log:=[]}) (.of hr.wf) k B;rw[LA A j]at d;generalize cmN k B=cc at*;by_cases h0:cc=0
   ·have O:zB cc 0 false:=qE h0;rw[if_neg (by simpa using h0)]at d;refine Y37 ?_;refine FW.pu C ?_;refine Y14 ?_;exact⟨f.length-(i+1),by omega,i+1,by omega,by omega,rfl,rfl,rfl,rfl,d⟩
   ·have O:zB cc 0 true:=jr h0;rw[if_pos h0]at d;rw[d];refine Y37 ?_;refine FW.pu C ?_;refine Y17 ?_;exact ah hr.log rfl rfl
  ·obtain rfl:i=g.length:=by omega
   have n:zt g.length g.length true:=mO (by omega);rw[Sp,wi hlt,cmF]at d;rw[d];refine Y34 ?_;exact ah hr.log rfl rfl
 ·obtain rfl:i=f.length:=by omega
  have w:zd f.length f.length false:=cS (by omega);rw[Sp]at d;rcases Id f.length g.length with hl2|hl2
  ·have q:zd f.length g.length true:=cH (by omega);rw[wi hl2,cmF]at d;rw[d];refine Y24 ?_;exact ah hr.log rfl rfl
  ·have q:zd f.length g.length false:=cS (by omega);rw[wc hl2,cmF]at d;rw[d];refine Y25 ?_;exact ah hr.log rfl rfl
def stL(fs:List Value)(s:List Sta):List Value:=(fs.zip s).flatMap λp=>[p.1, zc p.2.cost]
theorem G0:∀{fs:List Value} {s:List Sta} {i:Nat} {u:Value} {x:Sta},fs[i]? =some u->s[i]? =some x->((stL fs s).drop (i*2)).take 2=[u, zc x.cost]
 |[],_,i,u,x,h,_=>by simp at h
 |_::_,[],i,u,x,_,h=>by simp at h
 |a::fs,b::s,0,u,x,h1,h2=>by
  simp at h1 h2;subst h1;subst h2;rfl
 |a::fs,b::s,i+1,u,x,h1,h2=>by
  have e:(stL (a::fs) (b::s)).drop 2=stL fs s:=rfl;rw[show(i+1)*2=2+i*2 by omega,←List.drop_drop,e];exact G0 (by simpa using h1) (by simpa using h2)
structure oL (h:Heap) (v:Value) (s:List Sta):Prop where
 ex:∃fs:List Value,fs.length=s.length/\aK h 2 v s.length (stL fs s)/\∀(i:Nat) u x,fs[i]? =some u->s[i]? =some x->SlJ h u x.found
theorem oL.form{h:Heap}{v:Value}{s:List Sta}(S:oL h v s):∃a c,v= .slice a s.length c:=by
 obtain⟨d,_,b,_⟩:=S.ex;exact b.form
theorem oL.ext{h h':Heap}{v:Value}{s:List Sta}(S:oL h v s)(x:Ext h h'):oL h' v s:=by
 obtain⟨a,e,d,f⟩:=S.ex;exact⟨a,e,d.ext x,λi u y b c=>(f i u y b c).ext x⟩
theorem oL.log{h:Heap}{v:Value}{s:List Sta}(S:oL h v s)(m:List Nat):oL {h with log:=m} v s:=by
 obtain⟨a,e,d,f⟩:=S.ex;exact⟨a,e,d.log m,λi u y b c=>(f i u y b c).log m⟩
theorem oL.we{h h':Heap}{v:Value}{s:List Sta}(S:oL h v s)(b:h.next<=h'.next)(a:∀z,z<h.next->h'.get z=h.get z):oL h' v s:=by
 obtain⟨c,e,g,j⟩:=S.ex;exact⟨c,e,aK.we g b a,λi u y d f=>SlJ.we (j i u y d f) b a⟩
theorem oL.elem{s:List Sta}(S:oL h v s){x:Sta}(hi:s[i]? =some x):
 ∃b o c d a t u,v= .slice (some ⟨b,o,none⟩) s.length c/\h.get b=some (.cells d a t)/\b<h.next/\bO 2 (bK (o+i*2) d)=[u, zc x.cost]/\bN d (o+i*2+0)=some u/\SlJ h u x.found:=by
 obtain⟨f,e,n,p⟩:=S.ex;have m:=(List.getElem?_eq_some_iff.1 hi).1;obtain⟨u,j⟩:∃u,f[i]? =some u:=⟨f[i]'(by omega),a6 _⟩;rcases aK.inv n with⟨_,_,h0,_⟩|⟨b,o,cap,hv,s3,hc⟩
 ·omega
 ·obtain⟨d,a,t,k,l⟩:=s3.obj;have g:(d.drop (o+i*2)).take 2=[u, zc x.cost]:=by
   rw[←G0 j hi,←l];simp only[bk,aR,WP,Xs,x8];congr 1;omega
  refine⟨b,o,cap,d,a,t,u,hv,k,s3.lt,by rw[bk,aR];exact g,?_,p i u x j hi⟩;rw[bW];have:((d.drop (o+i*2)).take 2)[0]? =some u:=by rw[g];rfl
  rw[gS (by omega),kK]at this;exact this
end Go.A.Pk
end
section
namespace Go.A.Pk
variable {T:Nat->Option an}
def jD(mm:List (List Nat×Int))(f:List Nat):Int:=match pW f 0 mm with|some (_,v)=>v|none=>0
theorem Bz{base:Nat}{h:Heap}{e:Env}{m k:Operand}{r:Nat}{mm:List (List Nat×Int)}{f:List Nat}(d:ev h e m=some (.map (some r)))(c:ev h e k=some (fV f))(hr:uF (h.get r)=some (jN mm))(a:f.length=8)(b:∀x∈mm,x.1.length=8):
 aop h base e (.lookup true (aI 8 (.i .u8)) (zc 0) false m k)=some (.val (zc (jD mm f)) h):=by
 unfold jD;simp only[aop,d,c,hr,MF a,cond_true,findF a b];cases pW f 0 mm<;>rfl
section
open I
def DE:aT:=(I.R [M 9 19] [4,5,6,7,8,9])
def DK:aT:=(.block 1 (I.Q (I.R [g 10 (.mov (.const (.bool false)))] [4,5,6,7,8,9,10])
 (I.Q (.seq (I.R [g 20 (.build [(.int .u8 0),(.int .u8 0)] [(0,1,(.const (.int .u8 1))),(1,1,(.const (.int .u8 2)))]),K 21 0] [4,5,6,7,8,9,10,20,21])
 (.block 2 (.loop (I.Q (I.R [C 22 .lss 21 2] [4,5,6,7,8,9,10,20,21,22])
 (I.Q (.cond (t 22) .skip (.exit 2))
 (I.Q (.block 3 (I.Q (I.R [g 23 (.uz 2 1 none (t 20) (t 21)),M 12 23] [4,5,6,7,8,9,10,12,20,21])
 (I.Q (I.R [N 24 8 6,M 25 9,M 26 12,g 27 (.call (.func 65) [(t 24),(t 25),(t 26)]),g 13 (.new (aI 8 (.int .u8 0))),S 8 13 27] [4,5,6,7,8,9,10,13,20,21])
 (I.Q (I.R [L 29 4,N 30 8 13,g 31 (.call (.func 36) [(t 29),(t 30)]),M 28 31,E 32 28 0,E 33 28 1,M 14 32,M 15 33] [4,5,6,7,8,9,10,13,14,20,21])
 (I.Q (.draw [M 34 14,M 35 34,⟨some 36, .load none (t 7),(some (35,true))⟩,⟨some 37, .load none (t 4),(some (35,true))⟩,⟨some 38, .cM (t 37),(some (35,true))⟩,⟨some 39, .dg 16 (t 38),(some (35,true))⟩,⟨some 40, .load none (t 39),(some (35,true))⟩,W 41 9 35 true,⟨some 42, .aD 9 (t 40) (t 41),(some (35,true))⟩,⟨some 43, .dg 8 (t 42),(some (35,true))⟩,⟨some 44, .load none (t 43),(some (35,true))⟩,⟨some 45, .bin (.num .leq) (t 36) (t 44),(some (35,true))⟩,W 46 45 35 true,⟨some 47, .load none (t 5),(some (46,false))⟩,⟨some 48, .load (some 8) (t 13),(some (46,false))⟩,⟨some 49, .lookup true (aI 8 (.i .u8)) O false (t 47) (t 48),(some (46,false))⟩,⟨some 50, .load none (t 7),(some (46,false))⟩,⟨some 51, .load none (t 4),(some (46,false))⟩,⟨some 52, .cM (t 51),(some (46,false))⟩,⟨some 53, .dg 16 (t 52),(some (46,false))⟩,⟨some 54, .load none (t 53),(some (46,false))⟩,W 55 9 46 false,⟨some 56, .aD 9 (t 54) (t 55),(some (46,false))⟩,⟨some 57, .dg 8 (t 56),(some (46,false))⟩,⟨some 58, .load none (t 57),(some (46,false))⟩,⟨some 59, .bin (.num .sub) (t 50) (t 58),(some (46,false))⟩,⟨some 60, .bin (.num .geq) (t 49) (t 59),(some (46,false))⟩,⟨some 61, .pick (t 46) (.const (.bool true)) (t 60),(some (35,true))⟩,g 62 (.pick (t 35) (t 61) (.const (.bool false)))] [0,1,2,3,4,5,6,7,8,9,10,11,12,13,14,15,16,17,18,19,20,21,22,23,24,25,26,27,28] [0,1,3,3,11,27,59,3,251,507,1019,2047,4095,8191,8191,32767,8191,8191,139263,401407,925695,8191,4071423,8265727,16654335,33497087,67108863,134217727,268435455] [4,5,6,7,8,9,10,20,21,62])
 (.cond (t 62) (I.R [g 10 (.mov (.const (.bool true)))] [4,5,6,7,8,9,10,20,21]) .skip))))))
 (I.R [C 63 .add 21 1,M 21 63] [4,5,6,7,8,9,10,20,21])))))))
 (I.Q (I.R [M 64 10,g 65 (.un .not (t 64))] [8,65])
 (.cond (t 65) (I.Q (I.R [⟨none, .store 1 (t 8) (.const (.bool false)),none⟩] [])
 .ret) .skip)))))
end
structure KE (T:Nat->Option an):Prop where
 op:xm T
 f109:T 37=some f109
def hoE(b:Nat)(fn:Value):Env:=[(4, sb b),(5, sb (b+1)),(6, sb (b+2)),(7, sb (b+3)),(8, sb (b+4)),(18,fn)]
def okP(w:List Nat×List Nat)(l:List Pb)(lk:List Nat->Int)(f:List Nat)(c:Int)(p:Nat):Bool:=vl w l lk f c p 1||vl w l lk f c p 2
structure HoB (H:Heap) (b q r:Nat) (f:List Nat) (c:Int) (mm:List (List Nat×Int)):Prop where
 g4:H.get b=some (qt [sb q])
 g5:H.get (b+1)=some (qt [.map (some r)])
 g6:H.get (b+2)=some (qt (fL f))
 g7:H.get (b+3)=some (qt [zc c])
 g8:H.get (b+4)=some (qt [.bool false])
 gm:uF (H.get r)=some (jN mm)
variable{f:List Nat}{mm:List (List Nat×Int)}
theorem HoB.old{H a:Heap}{b q r:Nat}{c:Int}(B:HoB H b q r f c mm)(hb:b+4<H.next)(hr:r<H.next)(ho:∀z,z<H.next->a.get z=H.get z):HoB a b q r f c mm:=
 ⟨(ho _ (by omega)).trans B.g4,(ho _ (by omega)).trans B.g5,(ho _ (by omega)).trans B.g6,(ho _ (by omega)).trans B.g7,(ho _ (by omega)).trans B.g8,by rw[ho r hr];exact B.gm⟩
variable{w:List Nat×List Nat}{nv ov pv:Value}{os:List (List Nat)}{ns:List (List (List Nat))}
theorem F9(F:KE T){H:Heap}(hr:Rdy H){q m:Nat}{l:List Pb}(hc:∀p∈l,1<=p.cost/\p.cost<=1000)(A:QuH H q m w pv nv ov l os ns)(hf:f.length=8)
 {y b r p:Nat}{fn:Value}{c:Int}(db:1<=c/\c<=100000)(h8:∀x∈mm,x.1.length=8)(gl:H.get y=some (.loop (hoE b fn) [19] DE DK 0 .normal))(B:HoB H b q r f c mm)(be:p<l.length)(dq:r<y)(da:b+4<y):
 FW T (.yield y) [zc (p:Nat)] H λr' D=>(∀z∈D.log,z=b+4∨z=y)/\(r'= .ret (.bool true)/\(okP w l (jD mm) f c p=true/\(∀z,z<H.next->D.get z=H.get z)/\H.next<=D.next)∨r'= .ret (.bool false)/\y∈D.log/\(okP w l (jD mm) f c p=false/\(∀z,z<H.next->z≠b+4->z≠y->D.get z=H.get z)/\D.get (b+4)=some (qt [.bool false])/\D.get y=some (.loop (hoE b fn) [19] DE DK 2 .ret))):=by
 have kl:=hr.wf.dS gl;have kq:=hr.wf.dS A.gq;have cJ:q≠y:=λe=>by have:=A.gq;rw[e,gl]at this;cases this
 refine FW.VY F.op.qu.p (.inl rfl) (W:=λz=>z=b+4∨z=y) (R:=λD=>okP w l (jD mm) f c p=true/\(∀z,z<H.next->D.get z=H.get z)/\H.next<=D.next) (S:=λD=>okP w l (jD mm) f c p=false/\(∀z,z<H.next->z≠b+4->z≠y->D.get z=H.get z)/\D.get (b+4)=some (qt [.bool false])/\D.get y=some (.loop (hoE b fn) [19] DE DK 2 .ret)) gl rfl kl (.inr rfl) ?_;unfold DE hoE;refine Y2 ?_;refine bH ?_;refine y1 ?_;refine⟨rfl,gl,?_⟩;unfold DK;refine mW ?_;refine WE.BU ?_;intro M E;have K:∀z,z<H.next->z≠y->H.get z=M.get z:=λz J Q=>by rw[E];exact(z5 Q).symm
 have A2:M.get y=some (.loop (hoE b fn) [19] DE DK 1 .normal):=by rw[E];exact Heap.aP gl
 have A5:M.next=H.next:=by rw[E];rfl
 have A6:M.log=[]:=by rw[E,Heap.au (by omega)];exact hr.log
 have A7:WF M:=by rw[E];exact hr.wf.as (AS.wr _ _ _ _)
 clear E;have Q:∀(b:Nat) vs N sz,H.get b=some (.cells vs N sz)->b≠y:=λb vs N sz g e=>by rw[e,gl]at g;cases g
 have u:∀{sz n:Nat} {v:Value} {cs:List Value},aK H sz v n cs->aK M sz v n cs:=λ{sz n v cs} s=>by
  cases s with
  |nil=>exact .nil
  |mem s hc=>
   obtain⟨vs,N,t,u1,u2⟩:=s.obj;exact .mem ⟨by rw[A5];exact s.lt,⟨vs,N,t,(K _ s.lt (Q _ _ _ _ u1)).symm.trans u1,u2⟩,s.len⟩ hc
 obtain⟨cj,L,a8⟩:=A.mem;have ae:m≠y:=λe=>by rw[e,gl]at L;cases L
 have km:=hr.wf.dS L;have QA:QuH M q m w pv nv ov l os ns:=by
  obtain⟨am,s1,s2⟩:=A.sn.ex;exact⟨A.hw,(K q kq cJ).symm.trans A.gq,⟨u A.sp.sl,A.sp.ok⟩,A.hl,⟨u A.so.sl,A.so.ok⟩,A.hol,⟨am,u s1,λi r hi=>by
   obtain⟨v,hv,sv⟩:=s2 i r hi;exact⟨v,hv,⟨u sv.sl,sv.ok⟩⟩⟩,A.hns,A.hrn,⟨cj,(K m km ae).symm.trans L,a8⟩⟩
 have BA:HoB M b q r f c mm:=⟨(K _ (by omega) (by omega)).symm.trans B.g4,(K _ (by omega) (by omega)).symm.trans B.g5,(K _ (by omega) (by omega)).symm.trans B.g6,(K _ (by omega) (by omega)).symm.trans B.g7,(K _ (by omega) (by omega)).symm.trans B.g8,by rw[←K r (by omega) (by omega)];exact B.gm⟩;clear u Q L km ae;obtain⟨x,hx⟩:∃x,l[p]? =some x:=⟨l[p],a6 be⟩;have dp:=A.hl;have ba:p<8:=by omega
 obtain⟨bb,o,cp,vs,N,tt,bj,gb,a7,ar⟩:=QA.sp.elem hx;subst bj;have X:=AL hx;have dj:=hc x (bz hx);have kc:=ar.cost;have hw:=A.hw;have kp:=E8 hw (.slice (some ⟨bb,o,none⟩) l.length cp) nv ov (.map (some m));have du:=mJ hf;have dv:=j5 hf;have Z:b+4<M.next:=by omega
 refine Y9 ?_
 refine bg (λk e ds h'=>∃j:Nat,j<=2/\k=2-j/\e=[(4, sb b),(5, sb (b+1)),(6, sb (b+2)),(7, sb (b+3)),(8, sb (b+4)),(9, zc (p:Nat)),(10, .bool (([1,2].take j).any λa=>vl w l (jD mm) f c p a)),(20, .agg #[.int .u8 1, .int .u8 2]),(21, zc (j:Nat))]/\ds=[]/\Ext M h')
  ⟨0,by omega,rfl,rfl,rfl, .refl M⟩ ?_
 rintro k e ds G ⟨j,hj,rfl,rfl,rfl,O⟩;have WG:=O.wf A7;have V:=O.log.trans A6;have nG:=O.next
 by_cases hj2:j<2
 ·obtain⟨a,ha,d9,bo⟩:∃a:Nat,(a=1∨a=2)/\bN (#[Value.int .u8 1, .int .u8 2]:Array Value).toList (j*1)=some (.int .u8 ((a:Nat):Int))/\[1,2].take (j+1)=[1,2].take j++[a]:=by
   have:j=0∨j=1:=by omega
   rcases this with rfl|rfl
   ·exact⟨1, .inl rfl,rfl,rfl⟩
   ·exact⟨2, .inr rfl,rfl,rfl⟩
  have d:([1,2].take (j+1)).any (λa=>vl w l (jD mm) f c p a)=(([1,2].take j).any (λa=>vl w l (jD mm) f c p a)||vl w l (jD mm) f c p a):=by rw[bo,HG];simp
  generalize([1,2].take j).any (λa=>vl w l (jD mm) f c p a)=acc at*;have cf:zd j 2 true:=cH (by omega);have BG:=BA.old Z (by omega) O.old;have QG:=QA.ext A7 O;have h6:=BG.g6;have C1:=Di F.op (h:={G with log:=[]}) (.of WG) hf ba (a:=a);have I:(f.set p a).length=8:=by rw[ul];exact hf
  have U:vl w l (jD mm) f c p a=(bsB w (l.zip (f.set p a))&&(decide (c<=dW l p)||decide (c-dW l p<=jD mm (f.set p a)))):=rfl;rw[U]at d;clear U;generalize hfs:f.set p a=g at*;have dC:=mJ I;have dE:=j5 I;have dT:(fL g).length=8:=by rw[fO];exact I
  have e9:=ur g;have x3:=dX (h:=G) (base:=H.next) (by omega) (qt (aI 8 (.int .u8 0))) (qt (fL g));have cY:=fU (h:=G) (base:=H.next) (aI 8 (.int .u8 0)) (fL g);refine Y10 ?_;refine aF (FP (by rfl) (by rfl) (by omega) (by assumption)) ?_;refine Y7 ?_;refine FW.pu C1 ?_;clear C1;refine aF (sG) ?_;refine aF (bB (by rfl) (by rfl) YG (by assumption) (by rfl) (by assumption)) ?_;refine y3 ?_;generalize((G.push (qt (aI 8 (.int .u8 0)))).wr H.next G.next (qt (fL g)))=G2 at*;have C:=O.trans x3;have W2:=x3.wf WG;have d8:=x3.log.trans V;have B2:=BA.old Z (by omega) C.old;have Q2:=QA.ext A7 C;have e4:=B2.g4;have e5:=B2.g5;have e7:=B2.g7;have eq:=Q2.gq;have eb:=(C.old bb a7).trans gb;have C2:=Ci F.op (h:={G2 with log:=[]}) (.of W2) (Q2.log []) I;generalize eM w l ns g=opn at*;clear h6;cases hcan:bsB w (l.zip g)with
  |false=>
   rw[hcan]at C2 d;rw[A1,Bool.or_false]at d;refine Y4 ?_;refine FW.pu C2 ?_;refine Y40 ?_;refine Y8 ?_;exact⟨2-(j+1),by omega,j+1,by omega,rfl,by rw[d],rfl,C⟩
  |true=>
   rw[hcan]at C2 d;rw[wd,X]at d;by_cases hle:c<=x.cost
   ·rw[decide_eq_true hle,So,Bool.or_true]at d;have cd:zp c x.cost true:=eE hle;refine Y4 ?_;refine FW.pu C2 ?_;refine Y40 ?_;refine Y3 ?_;refine bH ?_;refine Y7 ?_;exact⟨2-(j+1),by omega,j+1,by omega,rfl,by rw[d],rfl,C⟩
   ·rw[decide_eq_false hle,If]at d;have cd:zp c x.cost false:=ew (by omega);have cX:vd c x.cost (c-x.cost):=kg (aU (by omega) (by omega));have eg:af .geq (zc (jD mm g)) (zc (c-x.cost))=some (.bool (decide (c-x.cost<=jD mm g))):=y6;generalize decide (c-x.cost<=jD mm g)=bge at*;cases bge with
    |true=>
     rw[Bool.or_true]at d;refine Y4 ?_;refine FW.pu C2 ?_;refine Y23 ?_;refine qZ9 (b:=Bz (mm:=mm) (f:=g) (by rfl) (by rfl) B2.gm I h8) (H:=?_);refine Y19 ?_;refine bH ?_;refine Y7 ?_;exact⟨2-(j+1),by omega,j+1,by omega,rfl,by rw[d],rfl,C⟩
    |false=>
     rw[Bool.or_false]at d;refine Y4 ?_;refine FW.pu C2 ?_;refine Y23 ?_;refine qZ9 (b:=Bz (mm:=mm) (f:=g) (by rfl) (by rfl) B2.gm I h8) (H:=?_);refine Y24 ?_;exact⟨2-(j+1),by omega,j+1,by omega,rfl,by rw[d],rfl,C⟩
 ·obtain rfl:j=2:=by omega
  have cf:zd (2:Nat) 2 false:=rfl;have aE:([1,2].take 2).any (λa=>vl w l (jD mm) f c p a)=okP w l (jD mm) f c p:=by
   unfold okP;simp
  rw[aE];have e8:=(BA.old Z (by omega) O.old).g8;have eL:=(O.old y (by omega)).trans A2;cases hk:okP w l (jD mm) f c p with
  |true=>
   refine Y17 ?_;exact⟨⟨_,eL,rfl⟩,λz J=>(by rw[V]at J;cases J), .inl ⟨rfl,λh5 aw P Y=>⟨rfl,λz J=>by
    by_cases hzl:z=y
    ·subst hzl;rw[Y,gl];rfl
    ·exact(P z J hzl).trans ((O.old z (by omega)).trans (K z J hzl).symm),by omega⟩⟩⟩
  |false=>
   refine Y20 ?_;refine⟨⟨_,(z5 (by omega)).trans eL,rfl⟩,λz J=> ?_, .inr ⟨rfl,λh5 aw P Y=>⟨rfl,λz J h1 h2=>(P z h2).trans ((z5 h1).trans ((O.old z (by omega)).trans (K z J h2).symm)),(P _ (by omega)).trans (Heap.aP e8),Y⟩⟩⟩;rcases fk J with rfl|J
   ·exact .inl rfl
   ·rw[V]at J;cases J
structure PHo (N b:Nat) (H0:Heap) (L:bR) (ok:Nat->Bool) (done:List Nat) (H:Heap):Prop where
 old:∀z,z<N->H.get z=H0.get z
 loop:H.get N=some L
 nx:N<H.next
 all:∀p∈done,ok p=true
structure SHo (N b:Nat) (H0:Heap) (L:bR) (ok:Nat->Bool) (all:List Nat) (H:Heap):Prop where
 ex:∃p∈all,ok p=false
 old:∀z,z<N->z≠b->H.get z=H0.get z
 b8:H.get b=some (qt [.bool false])
 loop:H.get N=some L
variable{h:Heap}
theorem Ml(F:KE T)(hr:Rdy h){q m:Nat}{l:List Pb}(hc:∀p∈l,1<=p.cost/\p.cost<=1000)(O:QuH h q m w pv nv ov l os ns)(V:f.length=8){c:Int}(ae:1<=c/\c<=100000){r:Nat}(h8:∀x∈mm,x.1.length=8)(bj:r<h.next)(gm:uF (h.get r)=some (jN mm)):
 Pu T 37 [sb q, .map (some r),fV f, zc c] h (.bool (pU w l (jD mm) f c)):=by
 have hp:=F.op.qu.p;refine .of hp F.f109 hr rfl ?_;have am:=jB f;refine dw (E0:=[(4, sb h.next),(5, sb (h.next+1)),(6, sb (h.next+2)),(7, sb (h.next+3)),(8, sb (h.next+4))]) (P:=λU=>Ext h U∧U.next=h.next+5/\HoB U h.next q r f c mm) ?_ ?_
 ·refine Y6 ?_;refine bH ?_;refine y1 ?_;rw[am];refine⟨rfl,rfl,rfl,(((((Ext.refl h).push _).push _).push _).push _).push _,rfl,⟨YG,YG,YG,YG,YG,?_⟩⟩;rw[z4 (by simp only[z1];omega),z4 (by simp only[z1];omega),z4 (by simp only[z1];omega),z4 (by simp only[z1];omega),z4 bj];exact gm
 rintro k ⟨X,n1,B1⟩;have W1:=X.wf hr.wf;have a8:=X.log.trans hr.log;have Q1:=O.ext hr.wf X;have C:=QL F.op (h:={k with log:=[]}) (.of W1) (sb q) f rfl;have H:=B1.g4;have e6:=B1.g6;have cf:=mJ V;have cj:=j5 V;refine Y5 ?_;refine FW.al C (λv U m q=>q) ?_;clear C H e6;rintro _ a Z ⟨rfl,n5,t,u⟩;have n5:a.next=k.next+2:=n5
 have t:a.get k.next=some (qt [sb q]):=t
 have u:a.get (k.next+1)=some (qt (fL f)):=u;have W5:=Z.wf W1;have A:=Z.log.trans a8;have M:=X.trans Z;have B5:=B1.old (by omega) (by omega) Z.old;generalize hfn:(.func (.func 110) #[] #[sb k.next, sb (k.next+1)]:Value)=fn;generalize hL0:(.loop (hoE h.next fn) [19] DE DK 0 .normal:bR)=L0;generalize hL2:(.loop (hoE h.next fn) [19] DE DK 2 .ret:bR)=L2;have D:∀done Ha N,PHo a.next (h.next+4) a L0 (okP w l (jD mm) f c) done Ha->a.next+1<=N.next->(∀x,x<a.next+1->N.get x=Ha.get x)->PHo a.next (h.next+4) a L0 (okP w l (jD mm) f c) done N:=λdone Ha N p n e=>
  ⟨λz g=>(e z (by omega)).trans (p.old z g),(e _ (by omega)).trans p.loop,by omega,p.all⟩
 have Y:PZ .ret T (λz=>z=h.next+4∨z=a.next) (a.next+1) a.next (λp=>[zc ((p:Nat):Int)]) (gZ l.length f) (PHo a.next (h.next+4) a L0 (okP w l (jD mm) f c)) (SHo a.next (h.next+4) a L2 (okP w l (jD mm) f c) (gZ l.length f)):=by
  refine⟨λdone p s hx be hN i=> ?_,D,λs m p=>⟨p.ex,p.old,p.b8,p.loop⟩,λs p=> ?_,λz g=>by omega⟩
  ·obtain⟨aE,cd⟩:=om.1 hx;have o5:∀z,z<a.next->s.get z=a.get z:=i.old
   have xh:∀z,z<h.next->s.get z=h.get z:=λz g=>(o5 z (by omega)).trans (M.old z g)
   obtain⟨bo,I,L⟩:=O.mem;have a7:QuH s q m w pv nv ov l os ns:=O.keep hr.wf (by omega) (λz g _=>xh z g) ⟨bo,(xh m (hr.wf.dS I)).trans I,L⟩;have K:=i.loop;rw[←hL0]at K;refine FW.mono' (F9 F be hc a7 V ae h8 K (B5.old (by omega) (by omega) o5) aE (by omega) (by omega)) ?_;rintro r' H' ⟨r1,r2⟩;refine⟨r1,r2.imp (λ⟨e1,G,Q,H⟩=>⟨e1,⟨λz g=>(Q z (by have:=i.nx;omega)).trans (i.old z g),(Q _ i.nx).trans i.loop,kz i.nx H,λy E=> ?_⟩⟩) λ⟨e1,G,Q,H,e5,e6⟩=>⟨e1,G,⟨⟨p,hx,Q⟩,λz g ar=>(H z (by have:=i.nx;omega) ar (by omega)).trans (i.old z g),e5,by rw[←hL2];exact e6⟩⟩⟩;rcases List.mem_append.1 E with E|E
   ·exact i.all y E
   ·rw[VC]at E;subst E;exact G
  ·have:=p.loop;rw[←hL2]at this;exact⟨_,_,_,_,this⟩
 rw[←hfn];refine Y2 ?_;refine Ks (px:= .ret) (W:=λz=>z=h.next+4∨z=a.next) (P:=PHo a.next (h.next+4) a L0 (okP w l (jD mm) f c) (gZ l.length f)) (S:=SHo a.next (h.next+4) a L2 (okP w l (jD mm) f c) (gZ l.length f)) rfl (by rfl) (by rw[F.op.f228];rfl) (by omega) W5 ?_ (λs p=>by
  have:=p.loop;rw[←hL0]at this;exact⟨_,_,_,_,this⟩) (λs p=>by
  have:=p.loop;rw[←hL2]at this;exact⟨_,_,_,_,this⟩) ?_ ?_
 ·have j:=hL0;rw[←hfn]at j;unfold hoE DE DK at j;rw[j];have x6:Ext a {a.push L0 with log:=[]}:=⟨Hc _,by rw[A],λz g=>z4 g,λwf=>(wf.push L0).log _⟩;refine QN F.op (h:={a.push L0 with log:=[]}) (.of (W5.push L0)) ((O.ext hr.wf M).ext W5 x6) V (b1:=k.next) (b2:=k.next+1) ((x6.old _ (by omega)).trans t) Y (bl _) (ec _) (λd s p=>(p.old _ (by omega)).trans u) ⟨λz g=>x6.old z g,z3 _ _,ec _,λp hp=>by cases hp⟩
 ·intro h4 h5 k1 k2 k3 k4 k5 k6 i;have J:pU w l (jD mm) f c=true:=List.all_eq_true.2 i.all;rw[J];have D8:=(k5 (h.next+4) (by omega)).trans ((i.old _ (by omega)).trans B5.g8);have B:h5.log=[]:=List.eq_nil_iff_forall_not_mem.2 λz g=>by
   rcases k1 z g with e|⟨e,G⟩
   ·rw[A]at e;cases e
   ·omega
  refine Y6 ?_;exact ah ((Heap.au (by omega)).trans B) (rA (b:=h.next+4) (o:=0) rfl (Heap.aP D8) rfl rfl) rfl
 ·intro h4 h5 k1 k2 k3 k4 k5 k6 i;have aw:pU w l (jD mm) f c=false:=by
   obtain⟨p,ba,e⟩:=i.ex;unfold pU;rw[P2];exact⟨p,ba,by unfold okP at e;rw[e];simp⟩
  rw[aw];have D8:=(k5 (h.next+4) (by omega)).trans i.b8;have B:h5.log=[]:=List.eq_nil_iff_forall_not_mem.2 λz g=>by
   rcases k1 z g with e|⟨e,G⟩
   ·rw[A]at e;cases e
   ·omega
  refine Y2 ?_;exact ah B (rA (b:=h.next+4) (o:=0) rfl D8 rfl rfl) rfl
def stE(x:Sta):List Nat×Int:=(fm x.found,x.cost)
def AB(n:Nat)(s:List Sta)(i:Nat)(x:Sta):Prop:=x.found.length≠n∨(x.found.any λk=>decide (2<k))=true∨inR x.cost 1 100000=false∨∃y,0<i/\s[i-1]? =some y/\0<=cmF y.found x.found
structure FmI (l:List Pb) (s:List Sta) (i:Nat):Prop where
 ok:∀x∈s.take i,x.found.length=l.length/\(∀k∈x.found,k<=2)/\1<=x.cost/\x.cost<=100000
 up:∀(j:Nat) x y,j+1<i->s[j]? =some x->s[j+1]? =some y->fq x.found<fq y.found
theorem FmI.zero(l:List Pb)(s:List Sta):FmI l s 0:=⟨λx a=>by simp at a,λj x y h=>by omega⟩
variable{s:List Sta}{x:Sta}
theorem FmI.succ{l:List Pb}{i:Nat}(F:FmI l s i)(n:s[i]? =some x)(hb:¬AB l.length s i x):FmI l s (i+1):=by
 unfold AB at hb;have h:x.found.length=l.length:=Classical.byContradiction λq=>hb (.inl q);have m:∀k∈x.found,k<=2:=λk v=>by
  rcases Id 2 k with q|q
  ·exact absurd (.inr (.inl (List.any_eq_true.2 ⟨k,v,decide_eq_true q⟩))) hb
  ·exact q
 have r:inR x.cost 1 100000=true:=by
  cases q:inR x.cost 1 100000 with
  |true=>rfl
  |false=>exact absurd (.inr (.inr (.inl q))) hb
 have t:1<=x.cost/\x.cost<=100000:=of_decide_eq_true r;refine⟨λy d=> ?_,λj a b w f c=> ?_⟩
 ·rw[eD n]at d;rcases List.mem_append.1 d with d|d
  ·exact F.ok y d
  ·rw[VC]at d;subst d;exact⟨h,m,t⟩
 ·by_cases hji:j+1<i
  ·exact F.up j a b hji f c
  ·obtain rfl:i=j+1:=by omega
   rw[n]at c;cases c;have u:¬0<=cmF a.found x.found:=λq=>hb (.inr (.inr (.inr ⟨a,by omega,by rw[Nat.add_sub_cancel];exact f,q⟩)));have g:a∈s.take (j+1):=bz (i:=j) (by rw[gS (by omega)];exact f);obtain⟨o,p,_⟩:=F.ok a g;have e:cmF a.found x.found<0:=by omega
   exact(B9 (by rw[o,h]) p m).1 ((BJ _ _).1 e)
theorem Mc{l:List Pb}{i:Nat}(d:s[i]? =some x)(hb:AB l.length s i x):¬yg l s:=by
 intro ⟨c,g⟩;obtain⟨a,b,m,n⟩:=c x (bz d);rcases hb with q|q|q|⟨y,hi,hy,hc⟩
 ·exact q a
 ·obtain⟨k,j,h⟩:=List.any_eq_true.1 q;have:=b k j;have:=of_decide_eq_true h;omega
 ·have:=of_decide_eq_false q;omega
 ·obtain⟨e,f,_⟩:=c y (bz hy);have:=g (i-1) y x hy (by rw[show i-1+1=i by omega];exact d);have:=(BJ _ _).2 ((B9 (by rw[a,e]) f b).2 this);omega
theorem FmI.form{l:List Pb}(F:FmI l s s.length):yg l s:=by
 refine⟨λx a=>F.ok x (by rw[hP];exact a),λi x y a b=>F.up i x y ?_ a b⟩;exact(List.getElem?_eq_some_iff.1 b).1
theorem FmI.lt{l:List Pb}{s:List Sta}{i:Nat}(F:FmI l s i):∀(d j:Nat) x y,j+d+1<i->s[j]? =some x->s[j+d+1]? =some y->fq x.found<fq y.found
 |0,j,x,y,h,hx,hy=>F.up j x y h hx hy
 |d+1,j,x,y,h,hx,hy=>by
  obtain⟨z,hz⟩:∃z,s[j+d+1]? =some z:=by
   have:=(List.getElem?_eq_some_iff.1 hy).1;exact⟨s[j+d+1]'(by omega),a6 _⟩
  have a:=F.lt d j x z (by omega) hx hz;have b:=F.up (j+d+1) z y (by omega) hz (by rw[show j+d+1+1=j+(d+1)+1 by omega];exact hy);omega
theorem y5{f:List Nat}:∀{mm:List (List Nat×Int)} {i:Nat},(∀x∈mm,x.1≠f)->pW f i mm=none
 |[],_,_=>rfl
 |x::mm,i,h=>by
  unfold pW;rw[if_neg λe=>h x bx e.symm];exact y5 λy hy=>h y (bu _ hy)
theorem N2{a b:List Nat}(h1:a.length=b.length)(h:fm a=fm b):a=b:=by
 unfold fm at h;exact(List.append_inj h h1).1
theorem ED{l:List Pb}{i:Nat}(F:FmI l s (i+1))(c:s[i]? =some x):QW ((s.take i).map stE) (fm x.found) x.cost=(s.take (i+1)).map stE:=by
 have h:pW (fm x.found) 0 ((s.take i).map stE)=none:=y5 λy k e=>by
  obtain⟨z,m,rfl⟩:=List.mem_map.1 k;obtain⟨j,a⟩:=List.mem_iff_getElem?.1 m;have b:=(List.getElem?_eq_some_iff.1 a).1;rw[lp]at b;rw[gS (by omega)]at a;have f:z∈s.take (i+1):=bz (i:=j) (by rw[gS (show j<i+1 by omega)];exact a);have d:x∈s.take (i+1):=bz (i:=i) (by rw[gS (show i<i+1 by omega)];exact c);have g:z.found=x.found:=N2 (by rw[(F.ok z f).1,(F.ok x d).1]) e;have:=F.lt (i-j-1) j z x (by omega) a (by rw[show j+(i-j-1)+1=i by omega];exact c);rw[g]at this;omega
 unfold QW;rw[h,eD c,wx];rfl
theorem QX(s:List Sta)(g:List Nat):jD (s.map stE) g=lkS s g:=by
 unfold jD lkS;have a:∀(s:List Sta) (i:Nat),(match pW g i (s.map stE)with|some (_,v)=>v|none=>0)=(match s.find? (λx=>decide (fm x.found=g))with|some x=>x.cost|none=>0):=by
  intro s;induction s with
  |nil=>intro i;rfl
  |cons x s ih=>
   intro i;rw[wp,pW];by_cases e:fm x.found=g
   ·rw[if_pos (show g=(stE x).1 from e.symm),List.find?_cons_of_pos (by simpa using e)];rfl
   ·rw[if_neg (λq=>e q.symm),List.find?_cons_of_neg (by simpa using e)];exact ih (i+1)
 exact a s 0
theorem L5:∀{f g:List Nat},fL f=fL g->f=g
 |[],[],_=>rfl
 |[],_::_,h=>by cases h
 |_::_,[],h=>by cases h
 |a::f,b::g,h=>by
  have h1:(Value.int .u8 ((a:Nat):Int))= .int .u8 ((b:Nat):Int):=(List.cons.inj h).1;have c:=L5 (f:=f) (g:=g) (List.cons.inj h).2;have:((a:Nat):Int)=b:=by injection h1
  rw[c];congr 1;omega
theorem T7{g:List Nat}(h:fV f=fV g):f=g:=by
 have:=congrArg cellsOf h;rw[jB,jB]at this;exact L5 this
def kvE(x:Sta):Value×Value:=(fV (fm x.found), zc x.cost)
theorem EH(s:List Sta):jN (s.map stE)=s.map kvE:=by unfold jN;rw[List.map_map];rfl
theorem QF{y:Sta}(h:kvE x=kvE y):fm x.found=fm y.found/\x.cost=y.cost:=by
 have a:=congrArg Prod.fst h;have b:(Value.int .i64 x.cost)= zc y.cost:=congrArg Prod.snd h;exact⟨T7 a,by injection b⟩
variable{es:List (Value×Value)}
theorem RZ{m z:Nat}(b:z<h.next)(a:z≠m):((roM h m es).push .dead).get z=h.get z:=by
 rw[z4 (show z<(roM h m es).next from b)];exact z5 (h:=h) (base:=0) (o:= .sC es) a
theorem OI{m:Nat}{o:bR}(b:h.get m=some o)(a:m<h.next):((roM h m es).push .dead).get m=some (.sC es):=by
 rw[z4 (show m<(roM h m es).next from a)];exact Heap.aP (h:=h) (base:=0) (o:= .sC es) b
theorem Va{m:Nat}(w:WF h):WF ((roM h m es).push .dead):=((w.as (AS.wr 0 h m (.sC es))).log []).push .dead
structure KA (T:Nat->Option an):Prop where
 by':xk T
 ho:KE T
 od:KJ T
 f29:T 9=some f29
 f106:T 34=some f106
def caR(w:List Nat×List Nat)(l:List Pb)(os:List (List Nat))(s:List Sta)(b:Bool):Bool×Int:=if opE w l os≠0 then(false,opE w l os)else if 6561<s.length then(false,2)else(b,0)
def caT:aT:=tlC (tlC (tlC (tlC (tlC (tlC (cdF f29))))))
theorem DB{l:List Pb}:(∀b∈jN (s.map stE),∀x∈s,b=kvE x->eM w l ns (fm x.found)=true/\pU w l (lkS s) (fm x.found) x.cost=true)↔ ∀x∈s,eM w l ns (fm x.found)=true/\pU w l (lkS s) (fm x.found) x.cost=true:=by
 rw[EH];exact⟨λh x a=>h _ (List.mem_map.2 ⟨x,a,rfl⟩) x a rfl,λh b _ x a _=>h x a⟩
theorem QuH.XU{h':Heap}{q m r:Nat}{o k n:Value}{l:List Pb}(Q:QuH h q m w o k n l os ns)(c:WF h)(b:h.get r=some (.map es))(g:r≠m)(f:h.next<=h'.next)(a:∀z,z<h.next->z≠r->h'.get z=h.get z):QuH h' q m w o k n l os ns:=by
 obtain⟨u,j,p⟩:=Q.mem;obtain⟨d,x,y⟩:=Q.sn.ex;refine⟨Q.hw,(a q (c.dS Q.gq) λe=> ?_).trans Q.gq,⟨aK.wg Q.sp.sl b f a,Q.sp.ok⟩,Q.hl,⟨aK.wg Q.so.sl b f a,Q.so.ok⟩,Q.hol,⟨d,aK.wg x b f a,λi r s=> ?_⟩,Q.hns,Q.hrn,u,(a m (c.dS j) (λe=>g e.symm)).trans j,p⟩
 ·have:=Q.gq;rw[e,b]at this;cases this
 ·obtain⟨v,t,sv⟩:=y i r s;exact⟨v,t,⟨aK.wg sv.sl b f a,sv.ok⟩⟩
variable{base:Nat}{rnd:Option Nat}
theorem SB{Q:XQ}{e b:Env}{keep:List Nat}{a:Dfs}{c:aT}(d:bU e keep=b)(H:WE T base rnd c Q b a h):WE T base rnd c Q (bU e keep) a h:=by rw[d];exact H
theorem P9(F:KA T){H:Heap}{q m r:Nat}{l:List Pb}(hc:∀p∈l,1<=p.cost/\p.cost<=1000)(W:WF H)(U:QuH H q m w pv nv ov l os ns)(a:yg l s)(u:H.get r=some (.map (jN (s.map stE))))(O:r≠m)(cost:Int){b:Bool}(n:b=true↔FU w l ns s cost){e:Env}
 (h4:geT e 4=some (zc cost))(G:geT e 12=some (sb q))(v:geT e 14=some (.map (some r))){Q:XQ}(E:∀(e':Env) (_:Unit),geT e' 10=some (.bool b)->geT e' 11=some (zc 0)->Q .ret e' [] H):
 WE T base none caT Q e [] H:=by
 have N:=W.dS u;have K:=U.hl;have Y:∀x∈s.map stE,x.1.length=8:=λx D=>by
  obtain⟨y,hy,rfl⟩:=List.mem_map.1 D;exact uL (by rw[(a.1 y hy).1];exact K)
 have Z:bU ((86, .map (some r))::e) [4,12,14]=[(4, zc cost),(12, sb q),(14, .map (some r))]:=by
  simp only[bU,geT,Nat.beq,cond_false,h4,G,v]
 have B:jD (s.map stE)=lkS s:=funext λg=>QX s g;unfold caT tlC cdF f29;dsimp only;refine rM ?_;refine FH (m:=r) (e0:=(86, .map (some r))::e) (E2:=[(10, .bool false),(11, zc 0)]) (es:=jN (s.map stE)) (EvO.mov v) rfl u rfl rfl (λkv=>∀x∈s,kv=kvE x->eM w l ns (fm x.found)=true/\pU w l (lkS s) (fm x.found) x.cost=true) ?_ ?_ ?_
 ·intro kv J;have j:=J;rw[EH]at j;obtain⟨x,D,rfl⟩:=List.mem_map.1 j;obtain⟨f1,f2,f3,f4⟩:=a.1 x D;have i:(fm x.found).length=8:=uL (by omega);refine⟨eM w l ns (fm x.found)&&pU w l (lkS s) (fm x.found) x.cost,⟨λh y hy e=> ?_,λh=> ?_⟩,?_⟩
  ·obtain⟨e1,e2⟩:=QF e;rw[dk]at h;rw[←e1,←e2];exact h
  ·have:=h x D rfl;rw[this.1,this.2];rfl
  rw[Z];have X:=Va (m:=r) (es:=jN (s.map stE)) W;have oM:=λz hz L=>RZ (h:=H) (m:=r) (z:=z) (es:=jN (s.map stE)) hz L;have sM:=OI (es:=jN (s.map stE)) u N;have nM:((roM H r (jN (s.map stE))).push .dead).next=H.next+1:=rfl
  have lM:((roM H r (jN (s.map stE))).push .dead).log=[]:=rfl;have QM:QuH ((roM H r (jN (s.map stE))).push .dead) q m w pv nv ov l os ns:=U.XU W u O (by omega) oM;generalize(roM H r (jN (s.map stE))).push .dead=HM at*;unfold itE kvE;dsimp only;generalize hfp:fm x.found=f at*;have a8:=mJ i;have ae:=j5 i;have am:(fL f).length=8:=by rw[fO];exact i
  have ar:=ur f;have C:=dX (h:=HM) (base:=H.next+1) (by omega) (qt (aI 8 (.int .u8 0))) (qt (fL f));have a7:=fU (h:=HM) (base:=H.next+1) (aI 8 (.int .u8 0)) (fL f);refine Y3 ?_;refine aF (bB (by rfl) (by rfl) YG (by assumption) (by rfl) (by assumption)) ?_;refine yM ?_;refine bH ?_;refine⟨rfl,rfl,?_⟩;refine SB (by simp only[bU,cC,geT,ej,cond_true,cond_false,Nat.beq];exact rfl) ?_;generalize((HM.push (qt (aI 8 (.int .u8 0)))).wr (H.next+1) HM.next (qt (fL f)))=H2 at*;have V:=C.wf X;have k:=C.log.trans lM;have S:=QM.ext X C;have o:=Ci F.ho.op (h:={H2 with log:=[]}) (.of V) (S.log []) i;have t:=Ml F.ho (h:={H2 with log:=[]}) (.of V) hc (S.log []) i (c:=x.cost) ⟨f3,f4⟩ (r:=r) (mm:=s.map stE) Y (by show r<H2.next;have:=C.next;omega) (by show uF (H2.get r)=_;rw[C.old r (by omega),sM];rfl);rw[B]at t;generalize bsB w (l.zip f)=can at*;cases ho:eM w l ns f with
  |false=>
   rw[ho]at o;refine Y4 ?_;refine FW.pu o ?_;refine Y24 ?_;exact⟨rfl,k, .inr ⟨rfl,rfl,rfl⟩⟩
  |true=>
   rw[ho]at o;cases hh:pU w l (lkS s) f x.cost with
   |false=>
    rw[hh]at t;refine Y4 ?_;refine FW.pu o ?_;refine Y20 ?_;refine FW.pu t ?_;refine Y10 ?_;exact⟨rfl,k, .inr ⟨rfl,rfl,rfl⟩⟩
   |true=>
    rw[hh]at t;refine Y4 ?_;refine FW.pu o ?_;refine Y20 ?_;refine FW.pu t ?_;refine Y6 ?_;exact⟨rfl,k, .inl ⟨rfl,rfl,by simp only[itE,FD,geT,Nat.beq,cond_true,cond_false,di,dD,Vo]⟩⟩
 ·intro A;rw[Z];refine uA ?_;have d:=DB.1 A;by_cases hc0:cost<=0
  ·have P:zp cost 0 true:=eE hc0;have I:b=true:=n.2 ⟨a,d, .inl hc0⟩;subst I;refine Y14 ?_;exact E _ () rfl rfl
  ·have P:zp cost 0 false:=ew (by omega);have aw:af .geq (.int .i64 (jD (s.map stE) z8)) (.int .i64 cost)=some (.bool b):=by
    rw[y6,B];congr 2;rw[xp,decide_eq_true_eq,n];exact⟨λq=>⟨a,d, .inr q⟩,λq=>q.2.2.resolve_left hc0⟩
   refine Y9 ?_;refine aF (Bz (mm:=s.map stE) (f:=z8) (by rfl) (by rfl) (by rw[u];rfl) rfl Y) ?_;refine Y9 ?_;exact E _ () rfl rfl
 ·intro M;have I:b=false:=by
   cases q:b with
   |false=>rfl
   |true=>exact absurd (DB.2 (n.1 q).2.1) M
  subst I;refine XS ?_;exact E _ () rfl rfl
theorem N3(h:f.length<=8):dy (fL z8) 0 (bO (f.length*1) (fL f))=fL (fm f):=by
 have e:bO (f.length*1) (fL f)=fL f:=by rw[xf,bk,dn (by rw[fO];exact bl _)]
 have a:fL z8=List.replicate 8 (.int .u8 0):=rfl;rw[e,fQ (by rw[fO,fO];exact(by show 0+f.length<=8;omega)),Ok,HO,fO,j3,a,List.drop_replicate];unfold fm fL;rw[wx,List.map_replicate];rfl
theorem WO.BU{Q:XQ}{ops:List aZ}{e:Env}{a:Dfs}(b:∀hA,hA=h->WO T base rnd Q ops e a hA):WO T base rnd Q ops e a h:=b h rfl
theorem Qi(F:KA T)(hr:Rdy h)(hg:Tab h)(h2:0<h.next)(hw:IsW w){l:List Pb}(sp:PbS h pv l)(hl:l.length<1000000)(so:SsQ h ov os)(dj:os.length<1000000){tv:Value}(S0:oL h tv s)(fb:s.length<1000000)(aE:∀x∈s,x.found.length<1000000)(cost:Int){b:Bool}(aw:b=true↔FU w l (os.map (dZ w)) s cost):
 Pu T 9 [wV w,pv,ov,tv, zc cost] h (.tuple #[.bool (caR w l os s b).1, zc (caR w l os s b).2]):=by
 have hp:=F.ho.op.qu.p;refine .of hp F.f29 hr rfl ?_;have du:cellsOf (wV w)=wL w:=by show(wL w).toArray.toList=_;simp
 obtain⟨a,c,rfl⟩:=sp.form;obtain⟨a3,c3,rfl⟩:=so.sl.form;obtain⟨sa,sc,rfl⟩:=S0.form;have x0:Ext h (h.push (qt (cellsOf (wV w)))):=(Ext.refl h).push _;have g0:(h.push (qt (cellsOf (wV w)))).get h.next=some (qt (wL w)):=by rw[du];exact z3 h _
 have n0:(h.push (qt (cellsOf (wV w)))).next=h.next+1:=rfl
 refine Y5 ?_;generalize(h.push (qt (cellsOf (wV w))))=H at*;have W:=x0.wf hr.wf;have hL:=x0.log.trans hr.log;have wk:=jR hw;have ge:=ic hw;have C1:=EW F.od (h:={H with log:=[]}) (.of W) (show Tab H from hg.ext x0 h2) (by show 0<H.next;omega) hw ((sp.ext x0).log []) hl ((so.ext x0).log []) dj;unfold caR;refine Y5 ?_;refine FW.al C1 (λv r m q=> ?_) ?_
 ·rcases q with q|⟨e,q,m',nv,e1,e2,e3,e4,e5⟩
  ·exact .inl q
  ·exact .inr ⟨e,q,m',nv,e1,e2,e3,e4.log m,e5⟩
 clear C1;rintro _ B x1 hq;have W1:=x1.wf W;have V:=x1.log.trans hL;have n1:=x1.next
 clear g0;rcases hq with⟨he,rfl⟩|⟨he,q,m,nv,rfl,hq1,hq2,Q1,gm⟩
 ·simp only[if_pos he];generalize opE w l os=er at*;have mn:zB er 0 true:=jr he;refine Y19 ?_;exact ah V rfl rfl
 simp only[if_neg (λq:opE w l os≠0=>q he)];have mn:zB 0 0 false:=rfl;by_cases h65:6561<s.length
 ·have mg:zs s.length 6561 true:=dY (by omega);simp only[if_pos h65];refine Y27 ?_;exact ah V rfl rfl
 have mg:zs s.length 6561 false:=fu (by omega);simp only[if_neg h65];have bo:=x0.trans x1;have dp:=uP (mw.1 (zk.1 he).1).2.2.2.2;have da:=Q1.hl;refine Y24 ?_;refine aF wK ?_;refine WO.BU ?_;intro H2 L;have x2:Ext B H2:=by rw[L];exact(Ext.refl B).push _
 have am:H2.get B.next=some (.map (jN [])):=by rw[L];exact z3 B _
 have n2:H2.next=B.next+1:=by rw[L];rfl
 clear L;have W2:=x2.wf W1;have d9:=x2.log.trans V;have gg:=bo.trans x2;have Q2:=Q1.ext W1 x2;obtain⟨e9,ae,ba⟩:=Q1.mem;have db:=W1.dS ae;refine Y9 ?_
 refine bg (λk e ds r=>∃i:Nat,i<=s.length/\k=s.length-i/\e=[(1, .slice a l.length c),(3, .slice sa s.length sc),(4, zc cost),(12, sb q),(14, .map (some B.next)),(36, .slice sa s.length sc),(37, zc (s.length:Nat)),(38, zc (i:Nat))]/\ds=[]/\r.log=[]/\WF r∧H2.next<=r.next/\(∀z,z<B.next->r.get z=B.get z)/\r.get B.next=some (.map (jN ((s.take i).map stE)))/\FmI l s i)
  ⟨0,gK _,rfl,rfl,rfl,d9,W2,bl _,x2.old,am, .zero l s⟩ ?_
 clear am;rintro k e ds G ⟨i,hi,rfl,rfl,rfl,ar,WG,nG,oG,U,FI⟩;have cd:∀z,z<h.next->G.get z=h.get z:=λz K=>(oG z (by omega)).trans (bo.old z K)
 have eh:h.next<=G.next:=by omega
 by_cases hlt:i<s.length
 ·obtain⟨x,Y⟩:∃x,s[i]? =some x:=⟨s[i],a6 hlt⟩;have dT:zd i s.length true:=cH (by omega);obtain⟨b0,o0,c0,vs,fX,tt,u,dq,gb,f9,kx,fj,su⟩:=(S0.we eh cd).elem Y;cases dq;obtain⟨ua,uc,rfl⟩:=su.form;have bj:=aE x (bz Y);refine Y9 ?_;refine dw (E0:=[(1, .slice a l.length c),(3, .slice (some ⟨b0,o0,none⟩) s.length sc),(4, zc cost),(12, sb q),(14, .map (some B.next)),(15, zc (i:Nat)),(16, sb G.next),(36, .slice (some ⟨b0,o0,none⟩) s.length sc),(37, zc (s.length:Nat)),(38, zc (i:Nat))]) (P:=λr=>Ext G r∧r.next=G.next+1/\r.get G.next=some (qt [.slice ua x.found.length uc, zc x.cost])) ?_ ?_
  ·refine Y3 ?_;refine aF (bV (by rfl) (by assumption) (by assumption) (by rfl)) ?_;refine Y3 ?_;refine bH ?_;refine y1 ?_;exact⟨rfl,rfl,rfl,dX (by omega) _ _,rfl,fU _ _⟩
  rintro G1 ⟨eJ,m1,cj⟩;refine dw (E0:=[(1, .slice a l.length c),(3, .slice (some ⟨b0,o0,none⟩) s.length sc),(4, zc cost),(12, sb q),(14, .map (some B.next)),(15, zc (i:Nat)),(16, sb G.next),(17, sb G1.next),(36, .slice (some ⟨b0,o0,none⟩) s.length sc),(37, zc (s.length:Nat)),(38, zc (i:Nat))]) (P:=λr=>Ext G1 r∧r.next=G1.next+1/\r.get G1.next=some (qt (fL z8))) ?_ ?_
  ·refine Y4 ?_;refine bH ?_;refine y1 ?_;exact⟨rfl,rfl,rfl,dX (by omega) _ _,rfl,fU _ _⟩
  rintro G2 ⟨cf,m2,a8⟩;have t:=eJ.trans cf;have D:=t.wf WG;have g:=t.log.trans ar;have eK:=(cf.old _ (by omega)).trans cj;have Q:=su.ext t;have d:AB l.length s i x->b=false:=λM=>by
   cases q:b with
   |false=>rfl
   |true=>exact absurd (aw.1 q).1 (Mc Y M)
  have S:=DU F.by' (h:={G2 with log:=[]}) (.of D) (SlJ.log Q []) bj
  have Z:=Mt hp F.f106 (h:={G2 with log:=[]}) (.of D) x.cost 1 100000;by_cases hc1:x.found.length=l.length;case neg=>
   have eg:zB x.found.length l.length true:=jr (by omega);have M:=d (.inl hc1);subst M;refine Y40 ?_;refine Y11 ?_;exact ah g rfl rfl
  have eg:zB x.found.length l.length false:=qE (by omega);cases hc2:x.found.any (λk=>decide (2<k))with
  |true=>
   rw[hc2]at S;have M:=d (.inr (.inl hc2));subst M;refine Y13 ?_;refine FW.puD S (by(repeat apply aC rfl);exact aQ) ?_;refine Y38 ?_;exact ah g rfl rfl
  |false=>
  rw[hc2]at S;cases hc3:inR x.cost 1 100000 with
  |false=>
   rw[hc3]at Z;have M:=d (.inr (.inr (.inl hc3)));subst M;refine Y13 ?_;refine FW.puD S (by(repeat apply aC rfl);exact aQ) ?_;refine Y5 ?_;refine FW.puD Z (by(repeat apply aC rfl);exact aQ) ?_;refine Y33 ?_;exact ah g rfl rfl
  |true=>
  rw[hc3]at Z;have N:x.found.length<=8:=by omega
  have O:(fm x.found).length=8:=uL N;have fd:=mJ O;have fg:=j5 O;have E:=N3 N;have I:eG (bO (x.found.length*1) (fL x.found))=true:=by rw[xf,bk,dn (by rw[fO];exact bl _)];exact ur _
  have A:=(t.old _ (by omega)).trans U;have h8:∀y∈(s.take i).map stE,y.1.length=8:=λy hy=>by
   obtain⟨z,K,rfl⟩:=List.mem_map.1 hy;exact uL (by rw[(FI.ok z K).1];exact da)
  rcases Nat.eq_zero_or_pos i with rfl|hpos
  ·have X:¬AB l.length s 0 x:=λq=>by
    rcases q with q|q|q|⟨y,q,_⟩
    ·exact q hc1
    ·rw[hc2]at q;cases q
    ·rw[hc3]at q;cases q
    ·omega
   have C:=FI.succ Y X;have J:=ED C Y;have dE:zs ((0:Nat):Int) 0 false:=rfl;refine Y13 ?_;refine FW.puD S (by(repeat apply aC rfl);exact aQ) ?_;refine Y5 ?_;refine FW.puD Z (by(repeat apply aC rfl);exact aQ) ?_;refine Y26 ?_;refine qZ9 (b:=kJ (i:=0) (j:=8) (by rfl) rfl rfl (by omega) (by omega) (by omega) (by omega)) (H:=?_);refine Y2 ?_;refine IM (b:=G1.next) (o:=0) (n:=8) (c:=8) (m:=x.found.length) (sz:=1) (k:=x.found.length) (vs:=fL z8) (l:=fL x.found) (ws:=fL (fm x.found)) rfl rfl rfl (by rfl) (by rfl) (by rfl) (xe Q.src) a8 (xr N) (by rw[fO];show 0+x.found.length*1<=8;omega) I E (by omega) (by omega) (by(repeat apply aC rfl);exact aQ) ?_;refine Y5 ?_;refine aF (bV (by rfl) YG (by assumption) (by assumption)) ?_;refine Y2 ?_;refine aF (Dw (mm:=(s.take 0).map stE) (f:=fm x.found) (n:=x.cost) (by rfl) (by rfl) (by rfl) ((z5 (by omega)).trans A) O h8) ?_;refine bH ?_;refine Y7 ?_;refine⟨s.length-(0+1),by omega,0+1,by omega,rfl,rfl,rfl,?_,(D.as (AS.wr h.next _ _ _)).as (AS.wr h.next _ _ _),(by show H2.next<=G2.next;omega),λz K=>(z5 (by omega)).trans ((z5 (by omega)).trans ((t.old z (by omega)).trans (oG z K))),?_,C⟩
   ·rw[Heap.au (by omega),Heap.au (by omega)];exact g
   ·rw[←J];exact Heap.aP ((z5 (by omega)).trans A)
  ·obtain⟨y,hy⟩:∃y,s[i-1]? =some y:=⟨s[i-1]'(by omega),a6 _⟩;obtain⟨b5,o5,c5,fY,f7,t5,u5,be,f8,eQ,ky,fw,eI⟩:=(S0.we (h':=G2) (by omega) (λz K=>(t.old z (by omega)).trans (cd z K))).elem hy;cases be;have dE:zs i 0 true:=dY (by omega);have f0:vd i 1 ((i-1:Nat):Int):=by
    rw[show(((i-1:Nat)):Int)=(i:Int)-1 by omega];exact kg (aU (by omega) (by omega))
   have dv:=aE y (bz hy);have C7:=Ql F.by' (h:={G2 with log:=[]}) (.of D) (SlJ.log eI []) (SlJ.log Q []) dv bj
   by_cases hc4:0<=cmF y.found x.found
   ·have dC:zt (cmF y.found x.found) 0 true:=mO hc4;have M:=d (.inr (.inr (.inr ⟨y,hpos,hy,hc4⟩)));subst M;refine Y13 ?_;refine FW.puD S (by(repeat apply aC rfl);exact aQ) ?_;refine Y5 ?_;refine FW.puD Z (by(repeat apply aC rfl);exact aQ) ?_;refine Y15 ?_;refine FW.puD C7 (by(repeat apply aC rfl);exact aQ) ?_;refine Y18 ?_;exact ah g rfl rfl
   ·have dC:zt (cmF y.found x.found) 0 false:=pz (by omega);have X:¬AB l.length s i x:=λq=>by
     rcases q with q|q|q|⟨z,_,q,q2⟩
     ·exact q hc1
     ·rw[hc2]at q;cases q
     ·rw[hc3]at q;cases q
     ·rw[hy]at q;cases q;exact hc4 q2
    have C:=FI.succ Y X;have J:=ED C Y;refine Y13 ?_;refine FW.puD S (by(repeat apply aC rfl);exact aQ) ?_;refine Y5 ?_;refine FW.puD Z (by(repeat apply aC rfl);exact aQ) ?_;refine Y15 ?_;refine FW.puD C7 (by(repeat apply aC rfl);exact aQ) ?_;refine Y11 ?_;refine qZ9 (b:=kJ (i:=0) (j:=8) (by rfl) rfl rfl (by omega) (by omega) (by omega) (by omega)) (H:=?_);refine Y2 ?_;refine IM (b:=G1.next) (o:=0) (n:=8) (c:=8) (m:=x.found.length) (sz:=1) (k:=x.found.length) (vs:=fL z8) (l:=fL x.found) (ws:=fL (fm x.found)) rfl rfl rfl (by rfl) (by rfl) (by rfl) (xe Q.src) a8 (xr N) (by rw[fO];show 0+x.found.length*1<=8;omega) I E (by omega) (by omega) (by(repeat apply aC rfl);exact aQ) ?_;refine Y5 ?_;refine aF (bV (by rfl) YG (by assumption) (by assumption)) ?_;refine Y2 ?_;refine aF (Dw (mm:=(s.take i).map stE) (f:=fm x.found) (n:=x.cost) (by rfl) (by rfl) (by rfl) ((z5 (by omega)).trans A) O h8) ?_;refine bH ?_;refine Y7 ?_;refine⟨s.length-(i+1),by omega,i+1,by omega,rfl,rfl,rfl,?_,(D.as (AS.wr h.next _ _ _)).as (AS.wr h.next _ _ _),(by show H2.next<=G2.next;omega),λz K=>(z5 (by omega)).trans ((z5 (by omega)).trans ((t.old z (by omega)).trans (oG z K))),?_,C⟩
    ·rw[Heap.au (by omega),Heap.au (by omega)];exact g
    ·rw[←J];exact Heap.aP ((z5 (by omega)).trans A)
 ·obtain rfl:i=s.length:=by omega
  have dT:zd s.length s.length false:=cS (by omega);rw[hP]at U;have QG:QuH G q m w (.slice a l.length c) nv (.slice a3 os.length c3) l os (os.map (dZ w)):=Q1.keep W1 (by omega) (λz K _=>oG z K) ⟨e9,(oG m db).trans ae,ba⟩;have a7:∀{e:Env},geT e 4=some (zc cost)->geT e 12=some (sb q)->geT e 14=some (.map (some B.next))->WE T h.next none caT _ e [] G:=λh4 cY d8=>P9 F (base:=h.next) dp WG QG FI.form U (by omega) cost aw h4 cY d8 (λe' _ cJ cX=>ah ar (rB cJ (rB cX CH)) rfl)
  refine Y10 ?_;exact a7 rfl rfl rfl
structure KI (T:Nat->Option an):Prop where
 rp:KQ T
 f111:T 39=some f111
 f114:T 42=some f114
theorem SY{i k:Nat}(h:f[i]? =some k):ints (zI (f.take (i+1)))=ints (zI (f.take i))++[zc ((k:Nat):Int)]:=by
 obtain⟨a,rfl⟩:=List.getElem?_eq_some_iff.1 h;rw[vy a];unfold ints zI;rw[wx,wx];rfl
variable{v:Value}
theorem zg(F:KI T)(hr:Rdy h)(S:SlJ h v f)(N:f.length<1000000)(hb:∀k∈f,k<256):
 Al T 39 [v] h λu g=>Own h.next g 1 u f.length (ints (zI f)):=by
 refine .of F.rp.p F.f111 hr (λv L s q=>Own.Ee s q) ?_;obtain⟨a,c,rfl⟩:=S.form;refine Y11 ?_
 refine bg (λm e y g=>∃(i:Nat) (u:Value),i<=f.length/\f.length-i=m/\e=[(0, .slice a f.length c),(3,u),(4, zc (i:Nat))]/\y=[]/\Ext h g∧Own h.next g 1 u i (ints (zI (f.take i))))
  ⟨0,_,gK _,rfl,rfl,rfl, .refl h, .nil⟩ ?_
 rintro m e y G ⟨i,u,O,rfl,rfl,rfl,d,x⟩;have j:=d.log.trans hr.log;by_cases hlt:i<f.length
 ·obtain⟨k,n⟩:∃k,f[i]? =some k:=⟨f[i],a6 hlt⟩;obtain⟨b,o,I,Q,D,t,s,A,l,J⟩:=CR S (Tu n);cases s;have K:=(d.old _ l).trans A;have B:=hb k (bz n);have w:zd i f.length true:=cH (by omega);have P:fZ .i64 ((k:Nat):Int)=((k:Nat):Int):=aU (by omega) (by omega);have z:zE i 1 ((i+1:Nat):Int):=by
   have:=gI (a:=(i:Nat)) (b:=1) (aU (by omega) (by omega));exact this
  have r:=SY n;refine Y18 ?_;refine aF (xy (by rfl) (by assumption)) ?_;refine aF (mG (by rfl) (by rfl)) ?_;refine uZ (lo:=h.next) (c1:=[zc (k:Nat)]) (x.ext ((Ext.refl G).push _)) (by omega) (by omega) (by omega) (by have:=d.next;show h.next<=G.next+1;omega) (by omega) (by rfl) (by rfl) (gw (cs:=[zc (k:Nat)]) (z3 G _) rfl rfl) rfl rfl ?_;intro E M C H;refine yM ?_;refine bH ?_;refine Y8 ?_;refine⟨f.length-(i+1),by omega,i+1,E,by omega,rfl,rfl,rfl,((d.lx (bl _)).trans ((((Ext.refl G).push _).lx (by have:=d.next;omega)).trans H)).ext,?_⟩;rw[r];exact C
 ·obtain rfl:i=f.length:=by omega
  have w:zd f.length f.length false:=cS (by omega);rw[hP]at x;refine Y18 ?_;exact dN j rfl x
theorem Ms{i k:Nat}(h:f[i]? =some k):fq (f.take (i+1))=3*fq (f.take i)+k:=by
 obtain⟨a,rfl⟩:=List.getElem?_eq_some_iff.1 h;rw[vy a];unfold fq;rw[D4];rfl
theorem Ud(a:∀k∈f,k<=2)(c:f.length<=8)(i:Nat):fq (f.take i)<6561:=by
 have h:=pe (f:=f.take i) λk b=>a k (wy b);have:=wY (n:=(f.take i).length) (by rw[lp];omega);omega
theorem Es(F:KI T)(hr:Rdy h)(S:aK h 1 v f.length (ints (zI f)))(u:f.length<=8)(q:∀k∈f,k<=2):
 Pu T 42 [v] h (zc ((fq f:Nat):Int)):=by
 refine .of F.rp.p F.f114 hr rfl ?_;obtain⟨a,c,rfl⟩:=S.form;have w:=hr.log;refine Y11 ?_
 refine bg (λm e l s=>∃i:Nat,i<=f.length/\f.length-i=m/\e=[(0, .slice a f.length c),(3, zc ((fq (f.take i):Nat):Int)),(4, zc (i:Nat))]/\l=[]/\h=s)
  ⟨0,gK _,rfl,rfl,rfl,rfl⟩ ?_
 rintro m e l _ ⟨i,G,rfl,rfl,rfl,rfl⟩;by_cases hlt:i<f.length
 ·obtain⟨k,d⟩:∃k,f[i]? =some k:=⟨f[i],a6 hlt⟩;obtain⟨b,o,C,J,B,t,A,D,x,E⟩:=wE S (FK d);cases A;have j:zd i f.length true:=cH (by omega);have z:=q k (bz d);have y:=Ud q u i;have g:=Ms d;generalize fq (f.take i)=n at*;have I:vx 3 n ((3*n:Nat):Int):=by
   have:=AV (a:=3) (b:=((n:Nat):Int)) (by omega) (by omega);exact this
  have H:zE ((3*n:Nat):Int) k ((3*n+k:Nat):Int):=by
   have:=gI (a:=((3*n:Nat):Int)) (b:=(k:Nat)) (aU (by omega) (by omega));exact this
  have r:zE i 1 ((i+1:Nat):Int):=by
   have:=gI (a:=(i:Nat)) (b:=1) (aU (by omega) (by omega));exact this
  refine Y21 ?_;refine bH ?_;refine Y8 ?_;exact⟨f.length-(i+1),by omega,i+1,by omega,rfl,by rw[g],rfl,rfl⟩
 ·obtain rfl:i=f.length:=by omega
  have j:zd f.length f.length false:=cS (by omega);rw[hP];refine Y18 ?_;exact ah w rfl rfl
end Go.A.Pk
end
section
namespace Go.A.Pk
variable {T:Nat->Option an}
def DG(s:List Sta):Nat->Int
 |0=> -1
 |i+1=>match s[i]? with
  |some x=>((fq x.found:Nat):Int)
  |none=> -1
variable{i:Nat}
theorem ue{s:List Sta}{x:Sta}(h:s[i]? =some x):DG s (i+1)=((fq x.found:Nat):Int):=by
 show(match s[i]? with|some x=>((fq x.found:Nat):Int)|none=> -1)=_;rw[h]
theorem DH{s:List Sta}(h:s[i]? =none):DG s (i+1)= -1:=by
 show(match s[i]? with|some x=>((fq x.found:Nat):Int)|none=> -1)=_;rw[h]
structure xq (w:List Nat×List Nat) (l:List Pb) (ns:List (List (List Nat))) (s:List Sta) (i:Nat) (x:Sta):Prop where
 len:x.found.length=l.length
 le2:∀k∈x.found,k<=2
 c1:1<=x.cost
 c2:x.cost<=100000
 bef:DG s i<((fq x.found:Nat):Int)
 can:bsB w (l.zip x.found)=true
 opn:eM w l ns x.found=true
section
variable {w:List Nat×List Nat} {l:List Pb} {ns:List (List (List Nat))} {s:List Sta} {cost:Int}
variable{i:Nat}{x:Sta}
theorem IX(h:FU w l ns s cost)(d:s[i]? =some x):xq w l ns s i x:=by
 have c:=bz d;obtain⟨b,f,g,j⟩:=h.1.1 x c;have a:=(h.2.1 x c).1;have e:eM w l ns (fm x.found)=eM w l ns x.found:=by unfold eM;rw[Dm b]
 rw[e]at a;refine⟨b,f,g,j,?_,ES a,a⟩;cases i with
 |zero=>show(-1:Int)<_;omega
 |succ i=>
  cases hy:s[i]? with
  |none=>rw[DH hy];omega
  |some y=>
   have:=h.1.2 i y x hy d;rw[ue hy];omega
theorem yq(h:∀(i:Nat) x,s[i]? =some x->xq w l ns s i x):yg l s:=by
 refine⟨λx a=> ?_,λi x y a c=> ?_⟩
 ·obtain⟨i,b⟩:=List.mem_iff_getElem?.1 a;have:=h i x b;exact⟨this.len,this.le2,this.c1,this.c2⟩
 ·have:=(h (i+1) y c).bef;rw[ue a]at this;omega
theorem P3(h:∀(i:Nat) x,s[i]? =some x->xq w l ns s i x):FU w l ns s cost↔(∀(i:Nat) x,s[i]? =some x->∀p,p<l.length->x.found.getD p 0=0->(wG w l s x p 1||wG w l s x p 2)=true)/\(cost<=0∨cost<=lkS s z8):=by
 constructor
 ·rintro⟨f,b,c⟩;exact⟨λi x a=>(HY (h i x a).len).1 (b x (bz a)).2,c⟩
 ·rintro⟨b,c⟩;refine⟨yq h,λx a=> ?_,c⟩;obtain⟨i,d⟩:=List.mem_iff_getElem?.1 a;have g:=h i x d;refine⟨?_,(HY g.len).2 (b i x d)⟩;have e:eM w l ns (fm x.found)=eM w l ns x.found:=by unfold eM;rw[Dm g.len]
  rw[e];exact g.opn
theorem Lp(a:s[i]? =some x):DG s (i+1)=((fq x.found:Nat):Int):=ue a
theorem TQ(a:l.length<=8)(h:∀(j:Nat) x,j<i->s[j]? =some x->xq w l ns s j x): -1<=DG s i/\DG s i<6561:=by
 cases i with
 |zero=>exact⟨by show(-1:Int)<= -1;omega,by show(-1:Int)<_;omega⟩
 |succ i=>
  cases hy:s[i]? with
  |none=>rw[DH hy];omega
  |some y=>
   rw[ue hy];have g:=h i y (by omega) hy;have:=pe g.le2;have b:=wY (n:=y.found.length) (by rw[g.len];exact a);omega
end
theorem Ro{f:List Nat}(h:qX (zI f)=true):∀k∈f,k<=2:=λk a=>by
 unfold qX at h;have:=List.all_eq_true.1 h (Int.ofNat k) (List.mem_map.2 ⟨k,a,rfl⟩);unfold inR at this;have:=(of_decide_eq_true this).2;have e:Int.ofNat k=(k:Int):=rfl;omega
variable{m:Nat}
theorem FA{vs:List Value}{u:Value}{c:Int}(h:bO 2 (bK m vs)=[u, zc c]):bN vs (m+1)=some (zc c):=by
 rw[bk,aR]at h;have:=congrArg (λq:List Value=>q[1]?) h;simpa[bW,List.getElem?_take,kK]using this
def hdA(A:Nat->Bool):Nat->Bool
 |0=>false
 |1=>false
 |2=>A 1
 |_=>A 1||A 2
theorem QD(A:Nat->Bool){a:Nat}(h1:1<=a)(b:a<=2):hdA A (a+1)=(hdA A a||A a):=by
 have:a=1∨a=2:=by omega
 rcases this with rfl|rfl
 ·show A 1=(false||A 1);simp
 ·rfl
structure KM (T:Nat->Option an):Prop where
 rf:Hu T
 nu:KI T
 f30:T 10=some f30
variable{h:Heap}{ov pv tv:Value}{os:List (List Nat)}
theorem OE(F:KM T)(hr:Rdy h){w:List Nat×List Nat}(hw:IsW w){l:List Pb}(sp:PbS h pv l)(hl:l.length<1000000)(so:SsQ h ov os)(dT:os.length<1000000){s:List Sta}(S0:oL h tv s)(te:s.length<1000000)(fY:∀x∈s,x.found.length<1000000/\∀k∈x.found,k<256)(cost:Int){b:Bool}(hb:b=true↔FU w l (os.map (dZ w)) s cost):
 Pu T 10 [wV w,pv,ov,tv, zc cost] h (.tuple #[.bool (caR w l os s b).1, zc (caR w l os s b).2]):=by
 have hp:=F.rf.rj.rc.r8.p;refine .of hp F.f30 hr rfl ?_;have lA:cellsOf (wV w)=wL w:=by show(wL w).toArray.toList=_;simp
 obtain⟨pa,pc,rfl⟩:=sp.form;obtain⟨oa,oc,rfl⟩:=so.sl.form;obtain⟨sa,sc,rfl⟩:=S0.form;have x0:Ext h (h.push (qt (cellsOf (wV w)))):=(Ext.refl h).push _;have g0:(h.push (qt (cellsOf (wV w)))).get h.next=some (qt (wL w)):=by rw[lA];exact z3 h _
 have n0:(h.push (qt (cellsOf (wV w)))).next=h.next+1:=rfl
 refine Y5 ?_;generalize(h.push (qt (cellsOf (wV w))))=H at*;have W:=x0.wf hr.wf;have hL:=x0.log.trans hr.log;have wk:=jR hw;have ub:=ic hw;have C1:=A9 F.rf.rj.rc (h:={H with log:=[]}) (.of W) hw ((sp.ext x0).log []) hl ((so.ext x0).log []) dT;unfold caR opE;have d8:=HD (w:=w) (l:=l) (os:=os);have ae:=mw (w:=w) (l:=l) (os:=os);generalize sB w l os=er at*;by_cases he:er=0;case neg=>
  rw[if_pos (show er≠0 from he),if_pos (show er≠0 from he)];have m1:zz er 0 false:=j9 he;have m2:zB er 0 true:=jr he;refine Y5 ?_;refine FW.pu C1 ?_;refine Y36 ?_;exact ah hL rfl rfl
 subst he;rw[if_neg (show¬ (0:Int)≠0 from λq=>q rfl)];obtain⟨lh,pi,db,cJ⟩:=d8 rfl;have lw:=uP (ae.1 rfl).2.2.2.2;clear d8 ae;have C3:=M1 F.rf.rj.rc.n3 (h:={H with log:=[]}) (.of W) hw lh;cases hm:pX w with
 |true=>
  rw[hm,if_pos rfl]at C3;rw[if_pos rfl,if_pos (by decide)];refine Y5 ?_;refine FW.pu C1 ?_;refine Y11 ?_;refine FW.pu C3 ?_;refine Y28 ?_;exact ah hL rfl rfl
 |false=>
 rw[hm,if_neg (by simp)]at C3;rw[if_neg (by simp)];by_cases h256:6561<s.length
 ·have mg:zs s.length 6561 true:=dY (by omega);rw[if_pos h256];refine Y5 ?_;refine FW.pu C1 ?_;refine Y11 ?_;refine FW.pu C3 ?_;refine Y32 ?_;exact ah hL rfl rfl
 have mg:zs s.length 6561 false:=fu (by omega);rw[if_neg h256];have CA:=K5 F.rf.rj.rc (h:={H with log:=[]}) (.of W) hw ((so.ext x0).log []) dT db;refine Y5 ?_;refine FW.pu C1 ?_;clear C1;refine Y11 ?_;refine FW.pu C3 ?_;clear C3;refine Y30 ?_;refine FW.al CA (λv D m q=>q.log m) ?_;clear CA;rintro nv d x1 sn;obtain⟨na,nc,rfl⟩:=sn.form;rw[hS];have dj:=x0.trans x1;have W1:=dj.wf hr.wf;have fg:=x1.log.trans hL;have n1:=x1.next
 have CP:=Oa F.rf.rp (h:={d with log:=[]}) (.of W1) cJ;have jp:=wY cJ;obtain⟨N,hN⟩:∃N,N=3 ^ l.length:=⟨_,rfl⟩;rw[←hN]at CP jp;refine Y6 ?_;refine FW.pu CP ?_;clear CP;skip;refine aF (rQ (by rfl) (by rfl) (bl _) (by omega) (by omega) rfl) ?_;refine WO.XJ ?_;intro H2 cf;have x2:Ext d H2:=by rw[cf];exact(Ext.refl d).push _
 have n2:H2.next=d.next+1:=by rw[cf];rfl
 have g2:H2.get d.next=some (qt (ints (owL (List.replicate N 0) []))):=by
  rw[cf,EB];have e:zI (List.replicate N 0)=owL (List.replicate N 0) []:=by show(List.replicate N 0).map Int.ofNat=List.replicate N 0;rw[List.map_replicate];rfl
  rw[e];exact z3 _ _
 clear cf;have ba:∀t,(ints (owL (List.replicate N 0) t)).length=N:=λt=>by rw[vZ,Im,wl]
 have gt:∀r∈os.map (dZ w),r.length<1000000/\∀n∈r,IsS n/\Sub n w.2:=λr hr=>by
  obtain⟨o,ho,rfl⟩:=List.mem_map.1 hr;exact⟨xi (oB w o) (by decide),λn hn=>⟨qS hw hn,zb hw (so.ok o ho) (db o ho) hn⟩⟩
 have lr:(os.map (dZ w)).length<1000000:=by rw[hS];exact dT
 have da:(os.map (dZ w)).length=os.length:=hS ..;have i6:=sn;generalize os.map (dZ w)=ns at*;refine Y10 ?_
 refine bg (λk' e ds D=>∃i:Nat,i<=s.length/\s.length-i=k'∧e=[(1, .slice pa l.length pc),(3, .slice sa s.length sc),(4, zc cost),(5, sb h.next),(13, .slice na os.length nc),(14, sh d.next N N),(15, zc (DG s i)),(16, zc (i:Nat))]/\ds=[]/\Ext d D∧d.next<D.next/\D.get d.next=some (qt (ints (owL (List.replicate N 0) (s.take i))))/\∀(j:Nat) x,j<i->s[j]? =some x->xq w l ns s j x)
  ⟨0,gK _,rfl,rfl,rfl,x2,by omega,by simpa using g2,λj x hj=>absurd hj (by omega)⟩ ?_
 clear x2 n2 g2;rintro k' e ds G ⟨i,hi,rfl,rfl,rfl,xG,nG,gO,E⟩;have WG:=xG.wf W1;have Q:=xG.log.trans fg;have C:=dj.trans xG;by_cases hlt:i<s.length
 ·have eI:zd i s.length true:=cH (by omega);obtain⟨x,B⟩:∃x,s[i]? =some x:=⟨s[i],a6 hlt⟩;obtain⟨bF,oF,cF,nf,i0,tF,u,J,gF,am,eh,m8,SJ⟩:=S0.elem B;cases J;have m9:=FA eh;have ii:=(C.old _ am).trans gF;have ar:b=true->xq w l ns s i x:=λq=>IX (hb.1 q) B;have U:=fY x (bz B);have C2:=zg F.nu (h:={G with log:=[]}) (.of WG) ((SJ.ext C).log []) U.1 U.2;have sT:=TQ cJ E;refine Y19 ?_;refine FW.al C2 (λv D m q=>q.log m) ?_;clear C2;rintro v3 Y x3 o3;have o3:Own G.next Y 1 v3 x.found.length (ints (zI x.found)):=o3
  have s3:=o3.slice (by omega);obtain⟨a3,c3,rfl⟩:=s3.form;have cd:=C.trans x3;have W3:=cd.wf hr.wf;have cj:=x3.log.trans Q;have n3:=x3.next
  have ie:=(cd.old _ am).trans gF;have fb:=(x3.old _ (by omega)).trans gO;have f7:=((x1.trans (xG.trans x3)).old _ (by omega)).trans g0;have i4:aK Y 1 (.slice a3 x.found.length c3) (zI x.found).length (ints (zI x.found)):=by rw[kX];exact s3
  have C4:=JZ F.rf.rj.rc.r8 (h:={Y with log:=[]}) (.of W3) ((sp.ext cd).log []) (i4.log []) (by rw[kX];exact U.1);clear ii;cases hf:(Qy (zI x.found) l.length).2 with
  |false=>
   obtain rfl:b=false:=by
    cases b with
    |false=>rfl
    |true=>
     have g:=ar rfl;rw[T9,PS g.le2,kX,decide_eq_true g.len]at hf;cases hf
   rw[hf,if_neg (by simp)]at C4;refine Y7 ?_;refine FW.pu C4 ?_;refine Y29 ?_;exact ah cj rfl rfl
  |true=>
  rw[hf,if_pos rfl]at C4;rw[T9,dk,decide_eq_true_eq,kX]at hf;have c:=Ro hf.2;have C5:=Mv hp F.rf.rj.rc.r8.f113 (h:={Y with log:=[]}) (.of W3) x.cost 1 100000;have C6:=Es F.nu (h:={Y with log:=[]}) (.of W3) (s3.log []) (by omega) c;have lj:=pe c;rw[hf.1,←hN]at lj;refine Y7 ?_;refine FW.pu C4 ?_;clear C4;cases hco:inR x.cost 1 100000 with
  |false=>
   obtain rfl:b=false:=by
    cases b with
    |false=>rfl
    |true=>
     have g:=ar rfl;have:=of_decide_eq_false hco;exact absurd ⟨g.c1,g.c2⟩ this
   rw[hco]at C5;refine Y14 ?_;refine FW.pu C5 ?_;refine Y22 ?_;exact ah cj rfl rfl
  |true=>
  have d9:=of_decide_eq_true hco;rw[hco]at C5;refine Y14 ?_;refine FW.pu C5 ?_;clear C5;generalize hid:fq x.found=ix at*;generalize hbe:DG s i=bf at*;by_cases hle:(ix:Int)<=bf
  ·obtain rfl:b=false:=by
    cases b with
    |false=>rfl
    |true=>
     have:=(ar rfl).bef;omega
   have ml:zp ix bf true:=eE hle;refine Y8 ?_;refine FW.pu C6 ?_;refine Y18 ?_;exact ah cj rfl rfl
  have ml:zp ix bf false:=ew (by omega);refine Y8 ?_;refine FW.pu C6 ?_;refine Y12 ?_;refine FW.pu C6 ?_;clear C6;have hY:(ints (owL (List.replicate N 0) (s.take i))).set (0+ix*1) (zc x.cost)=ints (owL (List.replicate N 0) (s.take (i+1))):=by
   obtain⟨gg,lL⟩:=List.getElem?_eq_some_iff.1 B;rw[vy gg,lL,N0,hid,j3,xf];unfold ints;rw[Ys]
  have pj:=ba (s.take i);refine Y11 ?_;refine aF (nU (by rfl) (by rfl) (by assumption) (by rfl) (by rfl) (by omega)) ?_;refine y3 ?_;have x4:Ext d (Y.wr h.next d.next (qt ((ints (owL (List.replicate N 0) (s.take i))).set (0+ix*1) (zc x.cost)))):=(xG.trans x3).wr (bl _) (by omega);have fd:(Y.wr h.next d.next (qt ((ints (owL (List.replicate N 0) (s.take i))).set (0+ix*1) (zc x.cost)))).get d.next=some (qt (ints (owL (List.replicate N 0) (s.take (i+1))))):=by rw[Heap.aP fb,hY]
  have n4:(Y.wr h.next d.next (qt ((ints (owL (List.replicate N 0) (s.take i))).set (0+ix*1) (zc x.cost)))).next=Y.next:=rfl
  have w4:∀z,z≠d.next->(Y.wr h.next d.next (qt ((ints (owL (List.replicate N 0) (s.take i))).set (0+ix*1) (zc x.cost)))).get z=Y.get z:=λz hz=>z5 hz
  generalize(Y.wr h.next d.next (qt ((ints (owL (List.replicate N 0) (s.take i))).set (0+ix*1) (zc x.cost))))=H4 at*;have dp:=dj.trans x4;have W4:=dp.wf hr.wf;have ju:=x4.log.trans fg;have f8:=(w4 _ (by omega)).trans f7;have s4:aK H4 1 (.slice a3 x.found.length c3) x.found.length (ints (zI x.found)):=(o3.keep (by omega) λz h1 h2=>w4 z (by omega)).slice (by omega);have eJ:aK H4 1 (.slice a3 x.found.length c3) (zI x.found).length (ints (zI x.found)):=by rw[kX];exact s4
  have C7:=rS F.rf.rj.rc.r8 (h:={H4 with log:=[]}) (.of W4) hw ((sp.ext dp).log []) (by omega) (eJ.log []) (by rw[kX];exact hf.1) hf.2;rw[tR]at C7;have dE:IsS (bsS w.1 (l.zip x.found)):=nF hw.a (vP sp.ok);have lO:=dE.len;have V:=dX (h:=H4) (base:=h.next) (by omega) (qt (aI 8 (.int .u64 0))) (qt (us (bsS w.1 (l.zip x.found))));have n5:((H4.push (qt (aI 8 (.int .u64 0)))).wr h.next H4.next (qt (us (bsS w.1 (l.zip x.found))))).next=H4.next+1:=rfl
  clear fb f7 s3 i4 x3 W3 cj ie cd o3;refine Y5 ?_;refine FW.pu C7 ?_;clear C7;have aE:=Ew (w:=w) (l:=l) (ns:=ns) (g:=x.found);refine Y4 ?_;refine aF (bB (by rfl) (by rfl) YG (by(simp only[aB];assumption)) (by rfl) (by exact bX _)) ?_;refine Y2 ?_;generalize((H4.push (qt (aI 8 (.int .u64 0)))).wr h.next H4.next (qt (us (bsS w.1 (l.zip x.found)))))=H5 at*;have eQ:=dp.trans V;have W5:=eQ.wf hr.wf;have fj:=V.log.trans ju;have rb:=(V.old _ (by omega)).trans f8;have il:=(V.old _ (by omega)).trans fd;have s5:=eJ.ext V;clear f8 fd s4 eJ;cases hcan:bsB w (l.zip x.found)with
  |false=>
   obtain rfl:b=false:=by
    cases b with
    |false=>rfl
    |true=>exact absurd (ar rfl).can (by rw[hcan];simp)
   refine Y17 ?_;exact ah fj rfl rfl
  |true=>
  have aE:=aE hcan;have C8:=zP F.rf.rj (h:={H5 with log:=[]}) (.of W5) hw ((sp.ext eQ).log []) (by omega) (s5.log []) (by rw[kX];exact hf.1) hf.2 ((i6.ext (x4.trans V)).log []) lr (by rw[tR];exact hcan) gt;rw[tR,da]at C8;refine Y14 ?_;refine FW.al C8 (λv D m q=>q.log m) ?_;clear C8;rintro v6 H6 x6 o6;have o6:Own H5.next H6 1 v6 os.length (fL (ns.map (jX (l.zip x.found) (bsS w.1 (l.zip x.found))))):=o6
  generalize hjl:ns.map (jX (l.zip x.found) (bsS w.1 (l.zip x.found)))=jl at*;have ll:jl.length=os.length:=by rw[←hjl,hS,da]
  have W6:=x6.wf W5;have fw:=x6.log.trans fj;have s6:=o6.slice (by omega);rw[←ll]at s6;have C9:=ru F.rf.rj (h:={H6 with log:=[]}) (.of W6) (s6.log []) (by omega);rw[aE]at C9;obtain⟨b6,d6,rfl⟩:=s6.form;clear hjl o6 s6;cases hop:eM w l ns x.found with
  |false=>
   obtain rfl:b=false:=by
    cases b with
    |false=>rfl
    |true=>exact absurd (ar rfl).opn (by rw[hop];simp)
   rw[hop]at C9;refine Y5 ?_;refine FW.pu C9 ?_;refine Y12 ?_;exact ah fw rfl rfl
  |true=>
   rw[hop]at C9;have hZ:zE i 1 ((i+1:Nat):Int):=by
    have:=gI (a:=(i:Nat)) (b:=1) (aU (by omega) (by omega));exact this
   have n6:=x6.next
   have io:=(x6.old _ (by omega)).trans il;refine Y5 ?_;refine FW.pu C9 ?_;refine Y10 ?_;refine⟨s.length-(i+1),by omega,i+1,by omega,rfl,?_,rfl,(x4.trans V).trans x6,by omega,io,λj y hj hy=> ?_⟩
   ·rw[Lp B,hid]
   ·by_cases e:j=i
    ·subst e;cases Option.some.inj (B.symm.trans hy);exact⟨hf.1,c,d9.1,d9.2,by rw[hbe,hid];omega,hcan,hop⟩
    ·exact E j y (by omega) hy
 obtain rfl:i=s.length:=by omega
 rw[hP]at gO;have E:∀(j:Nat) x,s[j]? =some x->xq w l ns s j x:=λj x B=>E j x (List.getElem?_eq_some_iff.1 B).1 B;have hb:=hb.trans (P3 E);have aw:=yq E;have eI:zd s.length s.length false:=cS (by omega);have oj:=ba s;have i8:∀{f:List Nat},f.length=l.length->(∀k∈f,k<=2)->bN (ints (owL (List.replicate N 0) s)) (0+fq f*1)=some (zc (lkS s (fm f))):=λ{f} q1 q2=>by
  have:=Io aw q1 q2;rw[←hN]at this;rw[bW,j3,xf];simp[ints,this]
 have pB:bN (ints (owL (List.replicate N 0) s)) (0+0*1)=some (zc (lkS s z8)):=by
  have:=JO aw cJ;rw[←hN]at this;rw[bW];simp[ints,this]
 have s8:0<N:=by rw[hN];exact A3 (by simp)
 have kd:∀{f:List Nat},f.length=l.length->(∀k∈f,k<=2)->fq f<N:=λq1 q2=>by rw[hN];exact Ir l q1 q2
 have ib:=((x1.trans xG).old _ (by omega)).trans g0;clear g0 sn i6 ba;refine Y18 ?_
 refine bg (λk' e ds D=>∃i:Nat,i<=s.length/\s.length-i=k'∧e=[(1, .slice pa l.length pc),(3, .slice sa s.length sc),(4, zc cost),(5, sb h.next),(14, sh d.next N N),(21, zc (i:Nat))]/\ds=[]/\Ext G D∧∀(j:Nat) x,j<i->s[j]? =some x->∀p,p<l.length->x.found.getD p 0=0->(wG w l s x p 1||wG w l s x p 2)=true)
  ⟨0,gK _,rfl,rfl,rfl, .refl G,λj x hj=>absurd hj (by omega)⟩ ?_
 rintro k' e ds K ⟨i,hi,rfl,rfl,rfl,xK,cY⟩;have WK:=xK.wf WG;have dv:=xK.log.trans Q;have nK:=xK.next
 have du:=C.trans xK;have ip:=(xK.old _ (by omega)).trans gO;by_cases hlt:i<s.length;case neg=>
  obtain rfl:i=s.length:=by omega
  have eI:zd s.length s.length false:=cS (by omega);have dC:b=true↔(cost<=0∨cost<=lkS s z8):=hb.trans ⟨λq=>q.2,λq=>⟨λi x B=>cY i x (List.getElem?_eq_some_iff.1 B).1 B,q⟩⟩;by_cases hc0:cost<=0
  ·obtain rfl:b=true:=dC.2 (.inl hc0);have mc:zp cost 0 true:=eE hc0;refine Y27 ?_;exact ah dv rfl rfl
  have mc:zp cost 0 false:=ew (by omega);by_cases hc1:cost<=lkS s z8
  ·obtain rfl:b=true:=dC.2 (.inr hc1);have mf:zt (lkS s z8) cost true:=mO hc1;refine Y32 ?_;exact ah dv rfl rfl
  ·obtain rfl:b=false:=by
    cases b with
    |false=>rfl
    |true=>rcases dC.1 rfl with q|q<;>omega
   have mf:zt (lkS s z8) cost false:=pz (by omega);refine Y32 ?_;exact ah dv rfl rfl
 have po:zd i s.length true:=cH (by omega);have hZ:zE i 1 ((i+1:Nat):Int):=by
  have:=gI (a:=(i:Nat)) (b:=1) (aU (by omega) (by omega));exact this
 obtain⟨x,B⟩:∃x,s[i]? =some x:=⟨s[i],a6 hlt⟩;obtain⟨bF,oF,cF,nf,i0,tF,u,J,gF,am,eh,m8,SJ⟩:=S0.elem B;cases J;have m9:=FA eh;have ik:=(du.old _ am).trans gF;have U:=fY x (bz B);have Z:=E i x B;have pf:=Z.len;have C2:=zg F.nu (h:={K with log:=[]}) (.of WK) ((SJ.ext du).log []) U.1 U.2;refine Y19 ?_;refine FW.al C2 (λv D m q=>q.log m) ?_;clear C2;rintro v3 K3 x3 o3;have o3:Own K.next K3 1 v3 x.found.length (ints (zI x.found)):=o3
 have s3:=o3.slice (by omega);obtain⟨a3,c3,rfl⟩:=s3.form;have nn:=du.trans x3;have nl:=xK.trans x3;have n3:=x3.next
 have hA:∀p,p<l.length->∀a,wG w l s x p a=(bsB w (l.zip (x.found.set p a))&&(decide (x.cost-dW l p<=0)||decide (x.cost-dW l p<=lkS s (fm (x.found.set p a))))):=λp hp a=>P4 Z.len hp;clear ik ip o3;refine Y6 ?_
 refine bg (λk' e ds D=>∃p:Nat,p<=l.length/\l.length-p=k'∧e=[(1, .slice pa l.length pc),(3, .slice (some ⟨bF,oF,none⟩) s.length sc),(4, zc cost),(5, sb h.next),(14, sh d.next N N),(21, zc (i:Nat)),(22, .slice a3 x.found.length c3),(23, zc (p:Nat))]/\ds=[]/\Ext K3 D∧∀q,q<p->x.found.getD q 0=0->(wG w l s x q 1||wG w l s x q 2)=true)
  ⟨0,gK _,rfl,rfl,rfl, .refl K3,λq hq=>absurd hq (by omega)⟩ ?_
 rintro k' e ds L ⟨p,t8,rfl,rfl,rfl,xL,a8⟩;have X:=nl.trans xL;have WL:=X.wf WG;have rt:=X.log.trans Q;have nL:=X.next
 have pD:=C.trans X;by_cases hpl:p<l.length;case neg=>
  obtain rfl:p=l.length:=by omega
  have eI:zd l.length l.length false:=cS (by omega);refine Y19 ?_;exact⟨s.length-(i+1),by omega,i+1,by omega,rfl,rfl,rfl,X,λj y hj hy=>by
   by_cases e:j=i
   ·subst e;cases Option.some.inj (B.symm.trans hy);exact a8
   ·exact cY j y (by omega) hy⟩
 have tk:zd p l.length true:=cH (by omega);have pm:zE p 1 ((p+1:Nat):Int):=by
  have:=gI (a:=(p:Nat)) (b:=1) (aU (by omega) (by omega));exact this
 obtain⟨pb,e9⟩:∃r,l[p]? =some r:=⟨l[p],a6 hpl⟩;obtain⟨fp,ge⟩:∃r,x.found[p]? =some r:=⟨x.found[p]'(by have:=Z.len;omega),a6 (by have:=Z.len;omega)⟩;have fX:x.found.getD p 0=fp:=by rw[gk,ge];rfl
 have ld:dW l p=pb.cost:=by unfold dW;rw[gk,e9];rfl
 have t6:=lw pb (bz e9);have sL:=s3.ext xL;obtain⟨bG,oG,cG,tx,py,tG,J,gG,sm,kG⟩:=wE sL (FK ge);cases J;by_cases hz:fp=0;case neg=>
  have m3:zB ((fp:Nat):Int) 0 true:=jr (by omega);refine Y30 ?_;exact⟨l.length-(p+1),by omega,p+1,by omega,rfl,rfl,rfl,xL,λq hq be=>by
   by_cases e:q=p
   ·subst e;rw[fX]at be;exact absurd be hz
   ·exact a8 q (by omega) be⟩
 subst hz;have m3:zB ((0:Nat):Int) 0 false:=rfl;refine Y31 ?_;have hA:=hA p hpl;rw[ld]at hA;generalize hAn:wG w l s x p=A at*
 refine bg (λk' e ds D=>∃a:Nat,1<=a/\a<=3/\3-a=k'∧e=[(1, .slice pa l.length pc),(3, .slice (some ⟨bF,oF,none⟩) s.length sc),(4, zc cost),(5, sb h.next),(14, sh d.next N N),(21, zc (i:Nat)),(22, .slice (some ⟨bG,oG,none⟩) x.found.length c3),(23, zc (p:Nat)),(24, .bool (hdA A a)),(25, zc (a:Nat))]/\ds=[]/\Ext L D)
  ⟨1,bl _,by omega,rfl,rfl,rfl, .refl L⟩ ?_
 clear gG;rintro k' e ds M ⟨a,ke,s9,rfl,rfl,rfl,xM⟩;have bo:=X.trans xM;have WM:=bo.wf WG;have jz:=bo.log.trans Q;have nM:=bo.next
 have qr:=C.trans bo;by_cases ha2:a<=2;case neg=>
  obtain rfl:a=3:=by omega
  have ma:zp ((3:Nat):Int) 2 false:=rfl;have e3:hdA A 3=(A 1||A 2):=rfl;rw[e3];cases hh:(A 1||A 2)with
  |false=>
   obtain rfl:b=false:=by
    cases b with
    |false=>rfl
    |true=>
     have:=(hb.1 rfl).1 i x B p hpl (by rw[fX]);rw[hAn,hh]at this;exact absurd this (by simp)
   refine Y30 ?_;exact ah jz rfl rfl
  |true=>
   refine Y24 ?_;exact⟨l.length-(p+1),by omega,p+1,by omega,rfl,rfl,rfl,xL.trans xM,λq hq be=>by
    by_cases e:q=p
    ·subst e;rw[hAn];exact hh
    ·exact a8 q (by omega) be⟩
 have ma:zp ((a:Nat):Int) 2 true:=eE (by omega);have pk:zE a 1 ((a+1:Nat):Int):=by
  have:=gI (a:=(a:Nat)) (b:=1) (aU (by omega) (by omega));exact this
 have S:=QD A ke ha2;rw[hA a]at S;have lf:x.found.length≠0:=by have:=Z.len;omega
 have t7:=Z.len;have p0:=jL x.found;have eg:(ints (zI x.found)).set (0+p*1) (zc (a:Nat))=ints (zI (x.found.set p a)):=Dj x.found p a;have P:(x.found.set p a).length=l.length:=by rw[ul];exact Z.len
 have c:∀y∈x.found.set p a,y<=2:=λy hy=>by
  rcases Fd hy with q|q
  ·exact Z.le2 y q
  ·omega
 have oY:(ints (zI (x.found.set p a))).length=l.length:=by rw[jL];exact P
 have pC:=i8 P c;have ph:=kd P c;obtain⟨bP,oP,cP,tz,pA,tP,J,gP,lc,kP⟩:=sp.elem e9;cases J;have ti:=kP.cost;refine Y13 ?_;have x4:Ext M (M.push (.cells (eS 0 [I.O]) true (bM [I.O]))):=(Ext.refl M).push _;have f9:(M.push (.cells (eS 0 [I.O]) true (bM [I.O]))).get M.next=some (qt []):=z3 _ _
 have hJ:cN (M.push (.cells (eS 0 [I.O]) true (bM [I.O]))) 1 (.slice (some ⟨bG,oG,none⟩) x.found.length c3)=some (ints (zI x.found),x.found.length):=CV (sL.ext (xM.trans x4));have tp:(M.push (.cells (eS 0 [I.O]) true (bM [I.O]))).next=M.next+1:=rfl
 refine vL (lo:=M.next) (b:=M.next) f9 (ec _) (bl _) (by omega) (by omega) (by rfl) (by rfl) hJ (by rw[jL];omega) ?_;intro v4 M4 o4 i7;have V:Ext M M4:=x4.trans i7;obtain⟨b4,rfl,ol,oX,g4⟩:=o4.V9 lf;clear o4 hJ f9 i7 x4;have n4:=V.next
 refine Y7 ?_;refine aF (nU (by rfl) (by rfl) (by assumption) (by rfl) (by rfl) (by omega)) ?_;refine y3 ?_;have x6:Ext M (M4.wr h.next b4 (qt ((ints (zI x.found)).set (0+p*1) (zc (a:Nat))))):=⟨n4,(Heap.au (by omega)).trans V.log,λz hz=>(z5 (by omega)).trans (V.old z hz),λw=>(V.wf w).as (AS.wr _ _ _ _)⟩;have g6:(M4.wr h.next b4 (qt ((ints (zI x.found)).set (0+p*1) (zc (a:Nat))))).get b4=some (qt (ints (zI (x.found.set p a)))):=by rw[eg,z6,g4];rfl
 have n6:(M4.wr h.next b4 (qt ((ints (zI x.found)).set (0+p*1) (zc (a:Nat))))).next=M4.next:=rfl
 generalize(M4.wr h.next b4 (qt ((ints (zI x.found)).set (0+p*1) (zc (a:Nat)))))=M6 at*;clear g4 V;have cX:=bo.trans x6;have f0:=C.trans cX;have W6:=f0.wf hr.wf;have fw:=cX.log.trans Q;have i9:=(cX.old _ (by omega)).trans ib;have s6:aK M6 1 (sh b4 x.found.length UNK) (x.found.set p a).length (ints (zI (x.found.set p a))):=by
  rw[ul];exact .mem ⟨by omega,⟨_,_,_,g6,by rw[aR,tb,bk,dn (by omega)]⟩,by omega⟩ (by unfold UNK;omega)
 have i5:aK M6 1 (sh b4 x.found.length UNK) (zI (x.found.set p a)).length (ints (zI (x.found.set p a))):=by rw[kX];exact s6
 have C7:=rS F.rf.rj.rc.r8 (h:={M6 with log:=[]}) (.of W6) hw ((sp.ext f0).log []) (by omega) (i5.log []) (by rw[kX];exact P) (PS c);rw[tR]at C7;have dE:IsS (bsS w.1 (l.zip (x.found.set p a))):=nF hw.a (vP sp.ok);have lO:=dE.len;have x7:=dX (h:=M6) (base:=h.next) (by omega) (qt (aI 8 (.int .u64 0))) (qt (us (bsS w.1 (l.zip (x.found.set p a)))));have n7:((M6.push (qt (aI 8 (.int .u64 0)))).wr h.next M6.next (qt (us (bsS w.1 (l.zip (x.found.set p a)))))).next=M6.next+1:=rfl
 generalize bsS w.1 (l.zip (x.found.set p a))=s1 at*;generalize bsB w (l.zip (x.found.set p a))=can at*;refine Y5 ?_;refine FW.pu C7 ?_;clear C7;refine Y4 ?_;refine aF (bB (by rfl) (by rfl) YG (by(simp only[aB];assumption)) (by rfl) (by exact bX _)) ?_;refine Y2 ?_;generalize((M6.push (qt (aI 8 (.int .u64 0)))).wr h.next M6.next (qt (us s1)))=M7 at*;have bj:=x6.trans x7;have eK:=cX.trans x7;have dq:=C.trans eK;have W7:=dq.wf hr.wf;have rr:=eK.log.trans Q;have re:=(dq.old _ am).trans gF;have rh:=(dq.old _ lc).trans gP;have rg:=(eK.old _ (by omega)).trans gO;have C8:=Es F.nu (h:={M7 with log:=[]}) (.of W7) ((s6.ext x7).log []) (by omega) c;have pp:vd x.cost pb.cost (x.cost-pb.cost):=kg (aU (by have:=Z.c1;have:=Z.c2;omega) (by have:=Z.c1;have:=Z.c2;omega));clear i9 s6 i5 g6;generalize lkS s (fm (x.found.set p a))=ow at*;generalize fq (x.found.set p a)=ix at*;generalize x.cost-pb.cost=rest at*;generalize hh1:hdA A a=hd at*;generalize hh2:hdA A (a+1)=hd2 at*;have a7:∀{D:Heap},Ext M D→∃k'',k''<3-a/\∃a':Nat,1<=a'∧a'≤3/\3-a'=k''∧[(1,Value.slice (some ⟨bP,oP,none⟩) l.length pc),(3, .slice (some ⟨bF,oF,none⟩) s.length sc),(4, zc cost),(5, sb h.next),(14, sh d.next N N),(21, zc (i:Nat)),(22, .slice (some ⟨bG,oG,none⟩) x.found.length c3),(23, zc (p:Nat)),(24, .bool hd2),(25, zc ((a+1:Nat):Int))]=[(1,Value.slice (some ⟨bP,oP,none⟩) l.length pc),(3, .slice (some ⟨bF,oF,none⟩) s.length sc),(4, zc cost),(5, sb h.next),(14, sh d.next N N),(21, zc (i:Nat)),(22, .slice (some ⟨bG,oG,none⟩) x.found.length c3),(23, zc (p:Nat)),(24, .bool (hdA A a')),(25, zc (a':Nat))]/\([]:Dfs)=[]/\Ext L D:=λq=>⟨3-(a+1),by omega,a+1,by omega,by omega,rfl,by rw[hh2],rfl,xM.trans q⟩;refine Y20 ?_;cases hd with
 |true=>
  obtain rfl:hd2=true:=by simpa using S
  refine Y16 ?_;refine bH ?_;refine Y8 ?_;exact a7 bj
 |false=>
 cases can with
 |false=>
  obtain rfl:hd2=false:=by simpa using S
  refine Y19 ?_;refine bH ?_;refine Y8 ?_;exact a7 bj
 |true=>
 by_cases hr0:rest<=0
 ·have mr:zp rest 0 true:=eE hr0;obtain rfl:hd2=true:=by rw[S,decide_eq_true hr0];rfl
  refine Y23 ?_;refine bH ?_;refine Y8 ?_;exact a7 bj
 have mr:zp rest 0 false:=ew (by omega);by_cases hr1:rest<=ow
 ·have mo:zt ow rest true:=mO hr1;obtain rfl:hd2=true:=by rw[S,decide_eq_false hr0,decide_eq_true hr1];rfl
  refine Y16 ?_;refine FW.pu C8 ?_;refine Y14 ?_;refine bH ?_;refine Y8 ?_;exact a7 bj
 ·have mo:zt ow rest false:=pz (by omega);obtain rfl:hd2=false:=by rw[S,decide_eq_false hr0,decide_eq_false hr1];rfl
  refine Y16 ?_;refine FW.pu C8 ?_;refine Y14 ?_;refine bH ?_;refine Y8 ?_;exact a7 bj
def slB(n:Nat)(d:List Sta):Bool:=(d.take 100).all (λx=>decide (x.found.length<=12))&&(decide (n<=40)||(decide (256<n)&&decide (n<=260)))&&decide (d.length<=90)
variable{n:Nat}{d:List Sta}
theorem Vl(h:slB n d=true):n<=260/\d.length<=90/\∀x∈d,x.found.length<=12:=by
 unfold slB at h;simp only[dk,q9,decide_eq_true_eq,GE]at h;obtain⟨⟨a,e⟩,b⟩:=h;refine⟨by omega,b,λx c=>a x ?_⟩;rw[dn (by omega)];exact c
def sgT:aT:=tlC (tlC (cdF f26))
structure Tm (T:Nat->Option an):Prop where
 p:aM T
 f26:T 5=some f26
variable{a:Option Addr}{c:Nat}
theorem OP(d:h.log=[]){i:Option Addr}{j:Nat}{r:Env}{ok:Bool}(b:ok=((decide (n<=40)||(decide (256<n)&&decide (n<=260)))&&decide (m<=90))):
 WE T h.next none sgT (T2 [(4,none)] (.bool ok)) ((0, .slice a n c)::(1, .slice i m j)::r) [] h:=by
 unfold sgT tlC cdF f26;dsimp only;have k:af .leq (zc (m:Nat)) (zc 90)=some (.bool (decide (m<=90))):=by
  by_cases hm:m<=90
  ·rw[decide_eq_true hm];exact eE (by omega)
  ·rw[decide_eq_false hm];exact ew (by omega)
 by_cases h1:n<=40
 ·have e:zp n 40 true:=eE (by omega);rw[b,decide_eq_true h1,So,wd];refine Y25 ?_;exact ah d rfl rfl
 have e:zp n 40 false:=ew (by omega);by_cases h2:256<n
 ·have f:zs n 256 true:=dY (by omega);by_cases h3:n<=260
  ·have g:zp n 260 true:=eE (by omega);rw[b,decide_eq_false h1,decide_eq_true h2,decide_eq_true h3,If,wd,wd];refine Y33 ?_;exact ah d rfl rfl
  ·have g:zp n 260 false:=ew (by omega);rw[b,decide_eq_false h1,decide_eq_true h2,decide_eq_false h3,If,wd,A1];refine Y30 ?_;exact ah d rfl rfl
 ·have f:zs n 256 false:=fu (by omega);rw[b,decide_eq_false h1,decide_eq_false h2,If,A1,A1];refine Y27 ?_;exact ah d rfl rfl
theorem OT(F:Tm T)(hr:Rdy h){z:Value}(m:oL h z d)(S:d.length<4611686018427387904):
 Pu T 5 [.slice a n c,z] h (.bool (slB n d)):=by
 refine .of F.p F.f26 hr rfl ?_;obtain⟨K,L,rfl⟩:=m.form;refine Y8 ?_;refine bg (λs e q A=>∃j:Nat,j<=d.length/\j<=100/\100-j=s∧e=[(0, .slice a n c),(1, .slice K d.length L),(5, zc (j:Nat))]/\q=[]/\A=h/\∀x∈d.take j,x.found.length<=12) ⟨0,gK _,by omega,rfl,rfl,rfl,rfl,λx g=>by simp at g⟩ ?_;rintro s e q U ⟨j,B,l,C,rfl,rfl,rfl,f⟩;by_cases hlt:j<d.length/\j<100
 ·obtain⟨r,P⟩:=hlt;have v:zd j d.length true:=cH (by omega);have G:zd j 100 true:=cH (by omega);obtain⟨x,g⟩:∃x,d[j]? =some x:=⟨d[j],a6 r⟩;obtain⟨b,o,N,vs,I,t,u,E,O,Q,W,V,M⟩:=m.elem g;cases E;obtain⟨Y,Z,rfl⟩:=M.form;have w:zE j 1 ((j+1:Nat):Int):=by
   have:=gI (a:=(j:Nat)) (b:=1) (aU (by omega) (by omega));exact this
  by_cases hx12:x.found.length<=12
  ·have H:zs x.found.length 12 false:=fu (by omega);refine Y36 ?_;refine⟨100-(j+1),by omega,j+1,by omega,by omega,rfl,rfl,rfl,rfl,?_⟩;rw[Qh,g];intro y k;rcases List.mem_append.1 k with k|k
   ·exact f y k
   ·simp at k;subst k;exact hx12
  ·have H:zs x.found.length 12 true:=dY (by omega);have e:slB n d=false:=by
    have D:x∈d.take 100:=by
     rw[List.mem_take_iff_getElem];obtain⟨X,J⟩:=List.getElem?_eq_some_iff.1 g;exact⟨j,by omega,J⟩
    unfold slB;rw[Bool.and_assoc,wn];exact .inl (by rw[P2];exact⟨x,D,by simpa using hx12⟩)
   rw[e];refine Y37 ?_;exact ah hr.log rfl rfl
 ·have i:(d.take 100).all (λx=>decide (x.found.length<=12))=true:=by
   rw[GE];intro x g;refine decide_eq_true (f x ?_);by_cases e:j=100
   ·rw[e];exact g
   ·have e:j=d.length:=by omega
    rw[e,hP];exact wy g
  have e:slB n d=((decide (n<=40)||(decide (256<n)&&decide (n<=260)))&&decide (d.length<=90)):=by
   unfold slB;rw[i,wd]
  by_cases r:j<d.length
  ·have v:zd j d.length true:=cH (by omega);have G:zd j 100 false:=cS (by omega);refine Y19 ?_;exact OP hr.log e
  ·have v:zd j d.length false:=cS (by omega);refine Y17 ?_;exact OP hr.log e
def L6(w:List Nat×List Nat)(n m:Nat):Bool:=decide (gX w.2<=40)&&(decide (n<=5)||decide (8<n/\n<=10))&&(decide (m<=3)||decide (6<m/\m<=8))
theorem Qt{w:List Nat×List Nat}(h:L6 w n m=true):n<=10/\m<=8:=by
 unfold L6 at h;simp only[dk,q9,decide_eq_true_eq]at h;omega
structure Ta (T:Nat->Option an):Prop where
 p:aM T
 cr:Hs T
 f25:T 4=some f25
 f84:T 11=some f84
theorem XD(F:Ta T)(hr:Rdy h){w:List Nat×List Nat}(r:IsW w){a2:Option Addr}{c2:Nat}(A:n<4611686018427387904)(z:m<4611686018427387904):Pu T 4 [wV w, .slice a n c, .slice a2 m c2] h (.bool (L6 w n m)):=by
 refine .of F.p F.f25 hr rfl ?_;have s:cellsOf (wV w)=wL w:=by show(wL w).toArray.toList=_;simp
 have u:Ext h (h.push (qt (cellsOf (wV w)))):=(Ext.refl h).push _;have y:(h.push (qt (cellsOf (wV w)))).get h.next=some (qt (wL w)):=by rw[s];exact z3 h _
 refine Y4 ?_;generalize(h.push (qt (cellsOf (wV w))))=H at*;have W:=u.wf hr.wf;have e:=u.log.trans hr.log;have B:bO 8 (bK (0+8) (wL w))=us w.2:=Dh r;have v:=aL r.b.len;have C:=HK F.cr F.f84 (h:={H with log:=[]}) (.of W) r.b;unfold L6;generalize gX w.2=k at*;by_cases c40:k<=40;case neg=>
  have d:(decide (k<=40)&&(decide (n<=5)||decide (8<n/\n<=10))&&(decide (m<=3)||decide (6<m/\m<=8)))=false:=by(try simp only[wn,wt,dk,q9,decide_eq_true_eq,decide_eq_false_iff_not]);omega
  rw[d];clear d;have x:zp k 40 false:=ew (by omega);refine Y4 ?_;refine FW.pu C ?_;refine Y34 ?_;exact ah e rfl rfl
 have x:zp k 40 true:=eE (by omega);have i:n<=5∨(5<n/\n<=8)∨(8<n/\n<=10)∨10<n:=by omega
 have f:m<=3∨(3<m/\m<=6)∨(6<m/\m<=8)∨8<m:=by omega
 rcases i with hq|hq|hq|hq
 ·rcases f with hq2|hq2|hq2|hq2
  ·have d:(decide (k<=40)&&(decide (n<=5)||decide (8<n/\n<=10))&&(decide (m<=3)||decide (6<m/\m<=8)))=true:=by(try simp only[wn,wt,dk,q9,decide_eq_true_eq,decide_eq_false_iff_not]);omega
   rw[d];clear d;have g:zp n 5 true:=eE (by omega);have j:zp m 3 true:=eE (by omega);refine Y4 ?_;refine FW.pu C ?_;refine Y40 ?_;refine Y4 ?_;exact ah e rfl rfl
  ·have d:(decide (k<=40)&&(decide (n<=5)||decide (8<n/\n<=10))&&(decide (m<=3)||decide (6<m/\m<=8)))=false:=by(try simp only[wn,wt,dk,q9,decide_eq_true_eq,decide_eq_false_iff_not]);omega
   rw[d];clear d;have g:zp n 5 true:=eE (by omega);have j:zp m 3 false:=ew (by omega);have o:zs m 6 false:=fu (by omega);refine Y4 ?_;refine FW.pu C ?_;refine Y40 ?_;refine Y9 ?_;exact ah e rfl rfl
  ·have d:(decide (k<=40)&&(decide (n<=5)||decide (8<n/\n<=10))&&(decide (m<=3)||decide (6<m/\m<=8)))=true:=by(try simp only[wn,wt,dk,q9,decide_eq_true_eq,decide_eq_false_iff_not]);omega
   rw[d];clear d;have g:zp n 5 true:=eE (by omega);have j:zp m 3 false:=ew (by omega);have o:zs m 6 true:=dY (by omega);have t:zp m 8 true:=eE (by omega);refine Y4 ?_;refine FW.pu C ?_;refine Y40 ?_;refine Y12 ?_;exact ah e rfl rfl
  ·have d:(decide (k<=40)&&(decide (n<=5)||decide (8<n/\n<=10))&&(decide (m<=3)||decide (6<m/\m<=8)))=false:=by(try simp only[wn,wt,dk,q9,decide_eq_true_eq,decide_eq_false_iff_not]);omega
   rw[d];clear d;have g:zp n 5 true:=eE (by omega);have j:zp m 3 false:=ew (by omega);have o:zs m 6 true:=dY (by omega);have t:zp m 8 false:=ew (by omega);refine Y4 ?_;refine FW.pu C ?_;refine Y40 ?_;refine Y12 ?_;exact ah e rfl rfl
 ·have d:(decide (k<=40)&&(decide (n<=5)||decide (8<n/\n<=10))&&(decide (m<=3)||decide (6<m/\m<=8)))=false:=by(try simp only[wn,wt,dk,q9,decide_eq_true_eq,decide_eq_false_iff_not]);omega
  rw[d];clear d;have g:zp n 5 false:=ew (by omega);have l:zs n 8 false:=fu (by omega);refine Y4 ?_;refine FW.pu C ?_;refine Y40 ?_;refine Y4 ?_;exact ah e rfl rfl
 ·rcases f with hq2|hq2|hq2|hq2
  ·have d:(decide (k<=40)&&(decide (n<=5)||decide (8<n/\n<=10))&&(decide (m<=3)||decide (6<m/\m<=8)))=true:=by(try simp only[wn,wt,dk,q9,decide_eq_true_eq,decide_eq_false_iff_not]);omega
   rw[d];clear d;have g:zp n 5 false:=ew (by omega);have l:zs n 8 true:=dY (by omega);have q:zp n 10 true:=eE (by omega);have j:zp m 3 true:=eE (by omega);refine Y4 ?_;refine FW.pu C ?_;refine Y40 ?_;refine Y12 ?_;exact ah e rfl rfl
  ·have d:(decide (k<=40)&&(decide (n<=5)||decide (8<n/\n<=10))&&(decide (m<=3)||decide (6<m/\m<=8)))=false:=by(try simp only[wn,wt,dk,q9,decide_eq_true_eq,decide_eq_false_iff_not]);omega
   rw[d];clear d;have g:zp n 5 false:=ew (by omega);have l:zs n 8 true:=dY (by omega);have q:zp n 10 true:=eE (by omega);have j:zp m 3 false:=ew (by omega);have o:zs m 6 false:=fu (by omega);refine Y4 ?_;refine FW.pu C ?_;refine Y40 ?_;refine Y17 ?_;exact ah e rfl rfl
  ·have d:(decide (k<=40)&&(decide (n<=5)||decide (8<n/\n<=10))&&(decide (m<=3)||decide (6<m/\m<=8)))=true:=by(try simp only[wn,wt,dk,q9,decide_eq_true_eq,decide_eq_false_iff_not]);omega
   rw[d];clear d;have g:zp n 5 false:=ew (by omega);have l:zs n 8 true:=dY (by omega);have q:zp n 10 true:=eE (by omega);have j:zp m 3 false:=ew (by omega);have o:zs m 6 true:=dY (by omega);have t:zp m 8 true:=eE (by omega);refine Y4 ?_;refine FW.pu C ?_;refine Y40 ?_;refine Y20 ?_;exact ah e rfl rfl
  ·have d:(decide (k<=40)&&(decide (n<=5)||decide (8<n/\n<=10))&&(decide (m<=3)||decide (6<m/\m<=8)))=false:=by(try simp only[wn,wt,dk,q9,decide_eq_true_eq,decide_eq_false_iff_not]);omega
   rw[d];clear d;have g:zp n 5 false:=ew (by omega);have l:zs n 8 true:=dY (by omega);have q:zp n 10 true:=eE (by omega);have j:zp m 3 false:=ew (by omega);have o:zs m 6 true:=dY (by omega);have t:zp m 8 false:=ew (by omega);refine Y4 ?_;refine FW.pu C ?_;refine Y40 ?_;refine Y20 ?_;exact ah e rfl rfl
 ·have d:(decide (k<=40)&&(decide (n<=5)||decide (8<n/\n<=10))&&(decide (m<=3)||decide (6<m/\m<=8)))=false:=by(try simp only[wn,wt,dk,q9,decide_eq_true_eq,decide_eq_false_iff_not]);omega
  rw[d];clear d;have g:zp n 5 false:=ew (by omega);have l:zs n 8 true:=dY (by omega);have q:zp n 10 false:=ew (by omega);refine Y4 ?_;refine FW.pu C ?_;refine Y40 ?_;refine Y7 ?_;exact ah e rfl rfl
structure Te (T:Nat->Option an):Prop where
 fe:Ta T
 sg:Tm T
 ck:Hq T
 ca:KA T
 r28:KL T
 r30:KM T
 f4:T 3=some f4
 f21:T 6=some (.mb pSd)
theorem aaj(F:Te T)(hr:Rdy h)(hg:Tab h)(h2:0<h.next){w:List Nat×List Nat}(t:IsW w){l:List Pb}(sp:PbS h pv l)(Y:l.length<4611686018427387904)(so:SsQ h ov os)(Z:os.length<4611686018427387904)
 {sv:Value}{s:List Fk}(S0:FkS h sv s)(D0:oL h tv d)(X:d.length<4611686018427387904)(U:∀x∈d,∀k∈x.found,k<256){cost:Int}(V: -9223372036854775808<=cost/\cost<9223372036854775808):
 Pu T 3 [wV w,pv,ov,sv,tv, zc cost] h (.bool true):=by
 have hp:=F.fe.p;refine .of hp F.f4 hr rfl ?_;have a8:cellsOf (wV w)=wL w:=by show(wL w).toArray.toList=_;simp
 obtain⟨a,c,rfl⟩:=sp.form;obtain⟨L,N,rfl⟩:=so.sl.form;obtain⟨M,O,rfl⟩:=aK.form S0;obtain⟨a4,c4,rfl⟩:=D0.form;refine dw (E0:=[(1, .slice a l.length c),(2, .slice L os.length N),(3, .slice M s.length O),(4, .slice a4 d.length c4),(5, zc cost),(6, sb h.next)]) (P:=λQ=>Ext h Q∧Q.next=h.next+1/\Q.get h.next=some (qt (wL w))) ?_ ?_
 ·refine Y3 ?_;refine bH ?_;refine y1 ?_;rw[a8];exact⟨rfl,rfl,rfl,(Ext.refl h).push _,rfl,z3 _ _⟩
 rintro H ⟨u,n0,g7⟩;have W:=u.wf hr.wf;have z:=u.log.trans hr.log;have wk:=jR t;have aw:=ic t;have r:Tab H:=hg.ext u h2;have g:=sp.ext u;have f:=so.ext u;have S1:FkS H (.slice M s.length O) s:=aK.ext S0 u;have K:=D0.ext u;have v:=XD F.fe (h:={H with log:=[]}) (.of W) t (a:=a) (n:=l.length) (c:=c) (a2:=L) (m:=os.length) (c2:=N) Y Z;have A:=OT F.sg (h:={H with log:=[]}) (.of W) (a:=M) (n:=s.length) (c:=O) (K.log []) X;have y:Pu T 6 [] {H with log:=[]} (.bool true):=aap F.f21 (show Tab H from r);cases hfb:L6 w l.length os.length with
 |false=>
  rw[hfb]at v;refine Y6 ?_;refine FW.pu v ?_;refine Y11 ?_;refine FW.pu y ?_;refine Y4 ?_;exact ah z rfl rfl
 |true=>
 have ae:=Qt hfb;rw[hfb]at v;cases hsb:slB s.length d with
 |false=>
  rw[hsb]at A;refine Y6 ?_;refine FW.pu v ?_;refine Y8 ?_;refine FW.pu A ?_;refine Y7 ?_;refine FW.pu y ?_;refine Y4 ?_;exact ah z rfl rfl
 |true=>
 obtain⟨ar,am,C⟩:=Vl hsb;rw[hsb]at A;obtain⟨b,S⟩:∃b:Bool,b=true↔uQ w l (os.map (dZ w)) s cost:=by
  by_cases q:uQ w l (os.map (dZ w)) s cost
  ·exact⟨true,by simp[q]⟩
  ·exact⟨false,by simp[q]⟩
 obtain⟨b1,j⟩:∃b:Bool,b=true↔JY w l (os.map (dZ w)) s cost:=by
  by_cases q:JY w l (os.map (dZ w)) s cost
  ·exact⟨true,by simp[q]⟩
  ·exact⟨false,by simp[q]⟩
 obtain⟨b2,o⟩:∃b:Bool,b=true↔FU w l (os.map (dZ w)) d cost:=by
  by_cases q:FU w l (os.map (dZ w)) d cost
  ·exact⟨true,by simp[q]⟩
  ·exact⟨false,by simp[q]⟩
 have i:∀x∈d,x.found.length<1000000:=λx E=>by have:=C x E;omega
 have G:=Qg F.ck (h:={H with log:=[]}) (.of W) (show Tab H from r) (by show 0<H.next;omega) t (g.log []) (by omega) (f.log []) (by omega) (aK.log S1 []) (by omega) cost S;have D:=OD F.r28 (h:={H with log:=[]}) (.of W) t (g.log []) (by omega) (f.log []) (by omega) (aK.log S1 []) (by omega) V j;have I:=Qi F.ca (h:={H with log:=[]}) (.of W) (show Tab H from r) (by show 0<H.next;omega) t (g.log []) (by omega) (f.log []) (by omega) (K.log []) (by omega) i cost o;have J:=OE F.r30 (h:={H with log:=[]}) (.of W) t (g.log []) (by omega) (f.log []) (by omega) (K.log []) (by omega) (λx E=>⟨i x E,U x E⟩) cost o;have B:Ak w l os s b1=Ak w l os s b:=by
  unfold Ak;by_cases h0:opE w l os=0
  ·have a7:=uP (mw.1 (zk.1 h0).1).2.2.2.2;have e:b1=b:=by rw[xp,j,S];exact(RE λp hp=>by have:=(a7 p hp).1;omega).symm
   rw[e]
  ·rw[if_pos h0,if_pos h0]
 rw[B]at D;generalize Ak w l os s b=r1 at*;generalize caR w l os d b2=r2 at*;obtain⟨q1,e1⟩:=r1;obtain⟨q2,e2⟩:=r2;dsimp only at G D I J;clear S j o B;refine Y6 ?_;refine FW.pu v ?_;clear v;refine Y8 ?_;refine FW.pu A ?_;clear A;refine Y14 ?_;refine FW.pu G ?_;clear G;refine Y13 ?_;refine FW.pu D ?_;clear D;refine Y13 ?_;refine FW.pu I ?_;clear I;refine Y13 ?_;refine FW.pu J ?_;clear J;have m1:zz e1 e1 true:=qD rfl;have m2:zz e2 e2 true:=qD rfl;cases q1<;>cases q2
 ·refine Y8 ?_;refine FW.pu y ?_;refine Y35 ?_;exact ah z rfl rfl
 ·refine Y8 ?_;refine FW.pu y ?_;refine Y35 ?_;exact ah z rfl rfl
 ·refine Y8 ?_;refine FW.pu y ?_;refine Y35 ?_;exact ah z rfl rfl
 ·refine Y8 ?_;refine FW.pu y ?_;refine Y35 ?_;exact ah z rfl rfl
end Go.A.Pk
end
