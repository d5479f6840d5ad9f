/- Walks of functions, plain laws, the table. -/
import Derived.Test.YteafdpbjocdbbaaGreatDoorHU4
import Derived.Test.YteafdpbjocdbbaaGreatDoorHU2
import Derived.Test.YteafdpbjocdbbaaGreatDoorHF
import Derived.Test.YteafdpbjocdbbaaGreatDoorHU3
import Derived.Test.YteafdpbjocdbbaaGreatDoorHU0
import Derived.Test.YteafdpbjocdbbaaGreatDoorHD
import Derived.Carry
import Derived.Lib.SmallJoins
import Derived.Deep.Slices
import Derived.Deep.Fields
import Derived.Test.YteafdpbjocdbbaaGreatDoorProg
import Derived.SizedLaws
import Derived.KernelRfl
import Derived.Test.YteafdpbjocdbbaaGreatDoorHH
import Derived.Test.YteafdpbjocdbbaaGreatDoorHT
set_option linter.all false
section
set_option maxRecDepth 100000
namespace Go.A.Pk
variable {T:Nat→Option ah}
theorem AN:z12=List.replicate 12 0:=rfl
theorem F1{us:List Int}(h:us.length≤12):List.zipWith (· + ·) us z12=us:=by
 rw[AN]
 apply List.ext_getElem
 ·simp;omega
 ·intro i h1 h2
  simp only[List.getElem_zipWith,List.getElem_replicate]
  omega
theorem Ia{us:List Int}{i:Nat}(h:us.length≤12)(hi:i<us.length):List.zipWith (· + ·) us (z12.set i 1)=us.set i (us.getD i 0+1):=by
 rw[AN]
 apply List.ext_getElem
 ·simp;omega
 ·intro j h1 h2
  simp only[List.getElem_zipWith,List.getElem_set,List.getElem_replicate]
  split
  ·rename_i e
   subst e
   rw[List.getD_eq_getElem?_getD,List.getElem?_eq_getElem hi]
   rfl
  ·omega
theorem H9{kerf:Int}{l:List Kd}{f:Nat}{p:Int×Int}{x:Nat×Int}{ns:List (Nat×Int)}(k4:x.1≤4)(h:okN l p x=false):(bP kerf l (f+1) p (x::ns)).1.ok=false:=by
 rw[bP]
 unfold okN at h
 by_cases h3:x.1=3∨x.1=4
 ·rw[if_neg (by omega),if_neg (by omega)]at h
  rw[if_pos h3,if_neg (of_decide_eq_false h)]
  rfl
 ·rw[if_neg h3,jq]
  by_cases h0:x.1=0
  ·rw[if_pos h0]at h⊢
   exact h
  ·rw[if_neg h0]at h⊢
   by_cases h1:x.1=1∨x.1=2
   ·rw[if_pos h1]at h⊢
    exact h
   ·omega
theorem Ci{kerf:Int}{l:List Kd}{f:Nat}{p:Int×Int}{x:Nat×Int}{ns:List (Nat×Int)}(h0:x.1=0)(h:okN l p x=true):bP kerf l (f+1) p (x::ns)=({sm0 with ok:=true},1):=by
 unfold okN at h
 rw[if_pos h0]at h
 rw[bP,if_neg (by omega),jq,if_pos h0,h]
theorem BM{kerf:Int}{l:List Kd}{f:Nat}{p:Int×Int}{x:Nat×Int}{ns:List (Nat×Int)}(h3:x.1=3∨x.1=4)(h:okN l p x=true):(1≤x.2∧x.2≤eD x p-1)∧bP kerf l (f+1) p (x::ns)=gF kerf (eD x p) x.2 (bP kerf l f (fC x p) ns) (bP kerf l f (gz kerf x p) (ns.drop (bP kerf l f (fC x p) ns).2)):=by
 unfold okN at h
 rw[if_neg (by omega),if_neg (by omega)]at h
 have h:=of_decide_eq_true h
 exact⟨h,by rw[bP,if_pos h3,if_pos h]⟩
theorem xe{kerf:Int}{l:List Kd}{f:Nat}{p:Int×Int}{x:Nat×Int}{ns:List (Nat×Int)}(h1:x.1=1∨x.1=2)(h:okN l p x=true):∃i k,x.2=((i:Nat):Int)∧l[i]? =some k∧bP kerf l (f+1) p (x::ns)=(⟨true,k.bq,p.1*p.2,0,z12.set i 1⟩,1):=by
 unfold okN at h
 rw[if_neg (by omega),if_pos h1]at h
 obtain⟨x1,x2⟩:=x
 by_cases hk:0≤x2∧x2<(l.length:Int)
 ·obtain⟨i,rfl⟩:=Int.eq_ofNat_of_zero_le hk.1
  have hi:i<l.length:=by omega
  have hkl:l[i]? =some l[i]:=List.getElem?_eq_getElem hi
  refine⟨i,l[i],rfl,hkl,?_⟩
  rw[sk hkl]at h
  dsimp only at h1
  rw[bP,if_neg (by dsimp only;omega),jq,if_neg (by dsimp only;omega),if_pos h1,jz,if_pos (by dsimp only;omega)]
  dsimp only
  rw[Int.toNat_natCast,hkl]
  dsimp only
  rw[h]
 ·rw[r8 hk]at h
  cases h
set_option maxHeartbeats 64000000 in
theorem CH(F:FnsVs T){kerf:Int}{l:List Kd}(hc:chk kerf l=0){lo bb c wc:Nat}{sa wa:Option Addr}{h0:Heap}(hlo:h0.next=lo)(hben:h0.get bb=some (.cells [.slice sa l.length c, .int .i64 kerf, .slice wa l.length wc] true 1))(hbb:bb<lo)
 (hks:aA h0 5 (.slice sa l.length c) l.length (kcs l))(hws:aA h0 1 (.slice wa l.length wc) l.length (ints (wsP l))):∀(f:Nat) (p:Int×Int) (ns:List (Nat×Int)) (h:Heap) (dep wo wst de:Int) (us:List Int),
 1≤p.1∧p.1≤16→1≤p.2∧p.2≤16→p.1+p.2≤f→(0≤dep∧dep+f≤1000)→(0≤de∧de≤3000)→ns.length≤1000→(∀x∈ns,x.1<256)→Rdy h→Vst lo bb h0 h ns wo wst de us→us.length=l.length→Vb wo wst us ns→
 Gp T 144 (oO lo p dep) h (Sv lo) (fun v h1=>VQ lo bb h0 (bP kerf l f p ns) ns wo wst de dep us v h1∧lo+6∈h1.log∧gY h1 (lo+6)) (VP lo (bP kerf l f p ns)):=by
 intro f
 induction f with
 |zero=>intro p ns h dep wo wst de us h1 h2 hf;omega
 |succ f ih=>
  intro p ns h dep wo wst de us h1 h2 hf hdep hde hlen hk hr s hul hb
  have hp:=F.toFnsC.p
  have nx:=s.nx
  refine Gp.ofK hp F.f144 (show lo+6<h.next by omega) ?_
  have s1:Vst lo bb h0 (h.push (.cells [.int .i64 p.1, .int .i64 p.2] true 1)) ns wo wst de us:=s.ext ((Ext.refl h).push _)
  obtain⟨v,hR,r⟩:=s.rest
  obtain⟨p1,p2⟩:=p
  cases ns with
  |nil=>
   obtain⟨qa,qc,rfl,hcap⟩:=r.cap
   unfold oO cT
   refine y4 ?_;refine yB ?_;refine y3 ?_;refine y4 ?_
   refine yL ?_;refine yD ?_;refine af (cE (by exact rfl) (by exact rfl) (by exact zZ)) ?_
   refine yM ?_;refine yP ?_;refine yP ?_;refine yP ?_;refine yP ?_;refine yP ?_;refine yP ?_;refine yU ?_
   refine yC ?_
   refine FW.pan (rm F.toFnsNd) ?_
   refine yb (Bc (mT (by rw[Heap.cM,hr.log];simp) ⟨rfl,rfl,s1.four⟩))
  |cons x ns=>
   rcases r.sl.inv with⟨_,_,hz,_⟩|⟨b,o,cap,hv,sl,hc2⟩
   ·simp at hz
   have r':=r
   subst hv
   obtain⟨vs,own,t,g1,g2⟩:=ya sl
   obtain⟨n1,n2⟩:=EF g2
   have n1':bG vs (o+0*2+0)=some (.int .u8 x.1):=n1
   have kb:=sl.lt
   have hx256:=hk x (List.mem_cons_self ..)
   simp only[List.length_cons]at hR hlen
   by_cases k4:x.1≤4
   ·unfold oO cT
    refine y4 ?_;refine yB ?_;refine y3 ?_;refine y4 ?_
    refine yL ?_;refine yD ?_
    refine yt ?_;refine yM ?_;refine yO ?_
    refine yL ?_;refine yO ?_
    refine af (aN (i:=0) (by exact rfl) (by exact rfl) (by omega)) ?_
    refine yO ?_;refine yF ?_;refine yO ?_;refine af (bt (by exact rfl) (by(simp(disch:=first|omega|(simp only[z1,z2];omega))only[z3,z4,z5,z6,z7,z1,z2, *];exact rfl)) (by assumption)) ?_
    refine yO ?_;refine af (Fu (by exact rfl) (by exact bY (by omega) (by omega))) ?_;refine yO ?_;refine yt ?_;refine yT ?_
    refine yC ?_
    refine FW.pu (uN F.toFnsNd (.of ((hr.wf).push _))) ?_
    refine y3 ?_;refine y4 ?_
    refine yL ?_
    refine af (aN (i:=0) (by exact rfl) (by exact rfl) (by omega)) ?_
    refine af (cS (by exact rfl) (by(simp(disch:=first|omega|(simp only[z1,z2];omega))only[z3,z4,z5,z6,z7,z1,z2, *];exact rfl)) g2 (by exact rfl)) ?_
    refine af cN ?_;refine yS ?_
    refine y3 ?_;refine y4 ?_
    refine yL ?_
    refine WO.gen ?_
    intro hA hAe
    have xA:Ext h hA:=by rw[hAe];exact(((Ext.refl h).push _).push _).wr (by(simp only[z1,z2];omega)) (by(simp only[z1,z2];omega))
    have gx:hA.get h.next=some (.cells [.int .i64 p1, .int .i64 p2] true 1):=by rw[hAe];(simp(disch:=first|omega|(simp only[z1,z2];omega))only[z3,z4,z5,z6,z7,z1,z2, *];exact rfl)
    have gn:hA.get (h.next+1)=some (.cells [.int .u8 x.1, .int .i64 x.2] true 1):=by rw[hAe];(simp(disch:=first|omega|(simp only[z1,z2];omega)|(simp only[z1,z2];done)|fail)only[z8,z4,z5,z9,z7,z1,z2, *];exact rfl)
    have nA:h.next+1<hA.next:=by rw[hAe];(simp only[z1,z2];omega)
    have wA:=xA.wf hr.wf
    have lA:=xA.log.trans hr.log
    have sA:=s.ext xA
    have rA:=r'.ext xA
    clear hAe s1 g1 g2 n1 n1' n2 kb hR r r' sl xA
    refine Br rA (by omega) (by exact rfl) (by exact rfl) (fun z hz=>by unfold Sv at hz;omega) ?_
    rintro _ hB xB ⟨b',o',n',c',rfl⟩ rB
    have hR2:∃v,hB.get (lo+6)=some (.cells [v] true 1):=(sA.ext xB).rest.imp fun _ q=>q.1
    obtain⟨v,hR2⟩:=hR2
    have nB:=xB.next
    refine yS ?_
    refine y3 ?_
    refine WE.Lc ?_
    intro hC hCe
    have S1:Stg lo bb h.next h0 hC (p1,p2) x ns wo wst de us:=by
     rw[hCe]
     exact .start (sA.ext xB) (xB.wf wA) rB (xB.log.trans lA) ((xB.old _ (by omega)).trans gx) ((xB.old _ (by omega)).trans gn) (by omega) nx
    clear hCe sA rA rB xB hR2 v gx gn nA wA lA
    have hn12:=(dY.1 hc).1
    have hx0:=hb.wo
    have hx1:=hb.wst
    have hx2:=hb.us
    simp only[List.length_cons]at hx0 hx1 hx2
    refine zK F hc hlo hben hbb hks h1 h2 k4 S1 (fun hok=> ?_) (fun hno=> ?_)
    ·refine xb S1 fun hD S2=> ?_
     by_cases h3:x.1=3∨x.1=4
     ·obtain⟨hat,hT⟩:=BM (kerf:=kerf) (f:=f) (ns:=ns) h3 hok
      rw[hT]
      exact Cf F hc hben hbb h1 h2 (by omega) (by omega) hde (by omega) (fun y hy=>hk y (List.mem_cons_of_mem _ hy)) hul ⟨by omega,by omega,fun u hu=>by have:=hx2 u hu;omega⟩ h3 hat S2 ih
     ·by_cases h12:x.1=1∨x.1=2
      ·obtain⟨i,k,hxi,hkl,hT⟩:=xe (kerf:=kerf) (f:=f) (ns:=ns) h12 hok
       rw[hT]
       have hi:i<l.length:=(List.getElem?_eq_some_iff.1 hkl).1
       refine vX hc hlo hben hbb hws h1 h2 h12 hxi hkl hul (by omega) (by omega) (fun u hu=>by have:=hx2 u hu;omega) S2 fun h' S3=> ?_
       exact sO S3.lg1 rfl ⟨⟨rfl,rfl,S3.st.cast rfl rfl rfl (by dsimp only;rw[Int.add_zero]) (Ia (by omega) (by omega)).symm⟩,S3.lg2,S3.dty⟩
      ·have h00:x.1=0:=by omega
       rw[Ci h00 hok]
       have gn:=S2.gn
       obtain⟨x1,x2⟩:=x
       dsimp only at h00
       subst h00
       unfold xU uK
       refine y4 ?_;refine yF ?_;refine yL ?_;refine y3 ?_;refine aC ?_;refine aq ?_;refine y4 ?_
       refine yf ?_;refine yM ?_;refine y3 ?_;refine yX ?_;refine aD ?_;refine yf ?_
       refine yM ?_;refine y3 ?_;refine yX ?_;refine aq ?_;refine y4 ?_;refine yf ?_;refine yM ?_
       refine y3 ?_;refine yX ?_;refine aD ?_;refine yf ?_;refine yM ?_;refine y3 ?_;refine yX ?_;refine aB ?_;refine cZ ?_
       exact sO S2.lg1 rfl ⟨⟨rfl,rfl,S2.st.cast rfl (Int.add_zero _).symm (Int.sub_zero _).symm (by show _=mx de (dep+0);rw[Int.add_zero]) (F1 (by omega)).symm⟩,S2.lg2,S2.dty⟩
    ·exact mT S1.lg1 ⟨rfl,H9 k4 hno,S1.st.four⟩
   ·unfold oO cT
    have hT:(bP kerf l (f+1) (p1,p2) (x::ns)).1.ok=false:=by
     rw[bP,if_neg (by omega),jq,if_neg (by omega),if_neg (by omega)]
     rfl
    refine y4 ?_;refine yB ?_;refine y3 ?_;refine y4 ?_
    refine yL ?_;refine yD ?_
    refine yt ?_;refine yM ?_;refine yO ?_
    refine yL ?_;refine yO ?_
    refine af (aN (i:=0) (by exact rfl) (by exact rfl) (by omega)) ?_
    refine yO ?_;refine yF ?_;refine yO ?_;refine af (bt (by exact rfl) (by(simp(disch:=first|omega|(simp only[z1,z2];omega))only[z3,z4,z5,z6,z7,z1,z2, *];exact rfl)) (by assumption)) ?_
    refine yO ?_;refine af (Fu (by exact rfl) (by exact bY (by omega) (by omega))) ?_;refine yO ?_;refine yf ?_;refine yT ?_
    refine yC ?_
    refine FW.pan (rm F.toFnsNd) ?_
    refine yb (Bc (mT (by rw[Heap.cM,hr.log];simp) ⟨rfl,hT,s1.four⟩))
end Go.A.Pk
end
section
set_option maxRecDepth 100000
namespace Go.A.Pk
variable {T:Nat→Option ah} {base:Nat} {rnd:Option Nat} {Q:XQ} {e:Env} {ds:Dfs} {h:Heap}
theorem GH{dst:Option Nat}{op:AOp}{os:List aQ}{f:Value}{args:List Value}(ho:aop h base e op=some (.iN f args))(H:WO T base none Q os (bK e dst (.tuple #[])) ((f,args)::ds) h):WO T base none Q (⟨dst,op,none⟩::os) e ds h:=by
 obtain⟨x,e',ds',h',⟨m,h1⟩,h2⟩:=H.ok
 exact⟨x,e',ds',h',⟨m+1,fun n hn=>by
  obtain⟨k,rfl⟩:∃k,n=k+1:=⟨n-1,by omega⟩
  simp only[gL,bA,ho];exact h1 k (by omega)⟩,h2⟩
theorem nZ{base z:Nat}:∀{m l:List Nat},z∈ax base l m→z∈l∨(z∈m∧z<base)
 |[],l,h=> .inl h
 |b::m,l,h=>by
  simp only[ax]at h
  rcases nZ (m:=m) h with h|⟨h,hb⟩
  ·revert h
   cases hc:Nat.blt b base with
   |true=>
    have hb:b<base:=by rw[blt_eq]at hc;simpa using hc
    simp only[cond_true]
    cases hl:eE l b with
    |true=>simp only[cond_true];exact .inl
    |false=>
     simp only[cond_false]
     intro h
     rcases List.mem_cons.1 h with rfl|h
     ·exact .inr ⟨List.mem_cons_self ..,hb⟩
     ·exact .inl h
   |false=>simp only[cond_false];exact .inl
  ·exact .inr ⟨List.mem_cons_of_mem _ h,hb⟩
theorem FW.gpb{f:Nat}{args:List Value}{S:Nat→Prop}{Q' Qp:Value→Heap→Prop}{K:Env→Dfs→Heap→Prop}{dst:Option Nat}(H:Gp T f args {h with log:=[]} S Q' Qp)(hS:∀z,S z→base≤z)(hl:h.log=[])(hlog:∀v (h':Heap) l,Q' v h'→Q' v {h' with log:=l})(hlogp:∀v (h':Heap) l,Qp v h'→Qp v {h' with log:=l})
 (hK:∀v h',Ws S h h'→h'.log=[]→Q' v h'→K (bK e dst v) ds h')(hP:∀v h',Ws S h h'→h'.log=[]→Qp v h'→Q (.panic v) e ds h'):FW T (.func f) args {h with log:=[]} (KO K Q base dst e ds h.log):=by
 refine .func (CW.mono H ?_)
 rintro r h2 ⟨hx,hq⟩
 have hlz:ax base h.log h2.log=[]:=by
  rw[List.eq_nil_iff_forall_not_mem]
  intro z hz
  rcases nZ hz with q|⟨q,hb⟩
  ·rw[hl]at q;cases q
  ·rcases hx.log z q with q|q
   ·cases q
   ·have:=hS z q;omega
 rcases hq with⟨v,rfl,hq⟩|⟨v,rfl,hq⟩
 ·exact⟨hK v _ hx.call hlz (hlog v h2 _ hq)⟩
 ·exact⟨hP v _ hx.call hlz (hlogp v h2 _ hq)⟩
theorem um:∀n,dx n [.int .i64 0]=ints (List.replicate n 0)
 |0=>rfl
 |n+1=>by
  have ih:=um n
  rw[List.replicate_succ]
  show dx (n+1) [.int .i64 0]= .int .i64 0::ints (List.replicate n 0)
  rw[←ih]
  rfl
theorem za{ops:List aQ}{bf:List Nat}{rs rs':List Rec}{Q:Env→Heap→Prop}{i mask n:Nat}{is:List Nat}{dst:Option Nat}{g:Option (Nat×Bool)}{er:Env}{x y:Operand}(ho:bG ops i=some ⟨dst, .mkSlice [.int .i64 0] 8 x y,g⟩)(hm:bG bf i=some mask)(he:bS e (bR ⟨dst, .mkSlice [.int .i64 0] 8 x y,g⟩)=er)(hw:bA er g=some true)
 (hx:ev {h with log:=[]} er x=some (.int .i64 (n:Nat)))(hy:ev {h with log:=[]} er y=some (.int .i64 (n:Nat)))(hn:n<1000)(hrs:bg (h.push (.cells (ints (List.replicate n 0)) true 1)) base [] mask rs=some rs')
 (H:WD T base ops bf Q is rs' (bK e dst (.slice (some ⟨h.next,0,none⟩) n n)) (h.push (.cells (ints (List.replicate n 0)) true 1))):WD T base ops bf Q (i::is) rs e h:=by
 rw[←um]at hrs H
 exact jJ ho hm he hw rfl (tW (h:={h with log:=[]}) hx hy (Nat.le_refl _) (by omega) (by omega) rfl) (u6 _) (uL _) hrs H
def Ac:List Value:=[.int .i64 0, .int .i64 0, .int .i64 0, .slice none 0 0]
theorem ET(hf:T 142=some f142){O K:Nat}:DW T 142 [.pointer (some ⟨O,0,none⟩), .pointer (some ⟨K,0,none⟩)] none h fun p h'=>p=none∧h'=h:=by
 refine .of hf ?_
 refine nO (jb (Hs (fQ (iR (by exact rfl)) (nQ ⟨rfl,?_⟩))))
 refine nO (jb (fQ (iR (by exact rfl)) (fQ (show aop h h.next _ (.bin (.nil .iface true) (.tmp 6) (.const .nilIface))=some (.val (.bool false) h)from rfl) (nQ ⟨rfl,?_⟩))))
 exact xw rfl (AX ⟨.inl rfl,rfl,rfl⟩)
theorem B9(hf:T 142=some f142){O K:Nat}{vs:List Value}{b:Bool}(gO:h.get O=some (.cells vs true 1))(hv:vs.length=4)(gK:h.get K=some (.cells [.bool b] true 1))(hOK:O≠K)(hO:O<h.next)(hK:K<h.next):
 DW T 142 [.pointer (some ⟨O,0,none⟩), .pointer (some ⟨K,0,none⟩)] (some xM) h fun p h'=>p=none∧(∀z∈h'.log,z∈h.log∨z=O∨z=K)∧h'.get O=some (.cells Ac true 1)∧h'.get K=some (.cells [.bool false] true 1):=by
 refine .of hf ?_
 refine nO (jb (Hj (fQ (iR (by exact rfl)) (nQ ⟨rfl,?_⟩))))
 refine nO (jb (fQ (iR (by exact rfl)) (fQ (show aop h h.next _ (.bin (.nil .iface true) (.tmp 6) (.const .nilIface))=some (.val (.bool true) h)from rfl) (nQ ⟨rfl,?_⟩))))
 refine Hz rfl ?_
 refine nO (nO (jb (fQ (iR (by exact rfl)) (fQ (show aop h h.next _ (.iK 182 true (.agg #[]) (.tmp 9))=some (.val (.tuple #[.agg #[], .bool true]) h)from rfl) (fQ (iR (by exact rfl)) (fQ (je (by exact rfl) (by exact rfl)) (fQ (je (by exact rfl) (by exact rfl)) (fQ cN
  (fQ (jF (b:=h.next) (o:=0) (vs:=[]) (ws:=[]) (by exact rfl) (by exact rfl) (z3 _ _) (by exact rfl) (by exact rfl)) (fQ (iR (by exact rfl)) (nQ ⟨rfl,?_⟩)))))))))))
 have kO:O≠h.next:=by omega
 have kK:K≠h.next:=by omega
 have g1:((h.push (.cells [] true 1)).wr h.next h.next (.cells [] true 1)).get O=some (.cells vs true 1):=(z5 kO).trans ((z4 hO).trans gO)
 have g2:((h.push (.cells [] true 1)).wr h.next h.next (.cells [] true 1)).get K=some (.cells [.bool b] true 1):=(z5 kK).trans ((z4 hK).trans gK)
 have lg:((h.push (.cells [] true 1)).wr h.next h.next (.cells [] true 1)).log=h.log:=Heap.aI (Nat.le_refl _)
 refine nO (jb (fQ (iR (by exact rfl)) (fQ (IK (by exact rfl)) (nQ ⟨rfl,?_⟩))))
 refine xw rfl (AX ⟨rfl,?_⟩)
 generalize((h.push (.cells [] true 1)).wr h.next h.next (.cells [] true 1))=H at*
 have g3:(H.wr h.next O (.cells Ac true 1)).get K=some (.cells [.bool b] true 1):=(z5 (fun q=>hOK q.symm)).trans g2
 refine jb (fQ (ck (by exact rfl)) (fQ (yx (cs:=Ac) (vs:=vs) (by exact rfl) (by exact rfl) g1 rfl hv rfl) (fQ (jF (ws:=[.bool false]) (by exact rfl) (by exact rfl) g3 (by exact rfl) (by exact rfl)) (nQ ⟨.inl rfl,rfl,?_,?_,?_⟩))))
 ·refine rK (S:=fun z=>z∈h.log∨z=O∨z=K) (rK (fun z hz=> .inl (lg▸hz)) (.inr (.inl rfl))) (.inr (.inr rfl))
 ·exact(z5 hOK).trans (Heap.cr g1)
 ·exact Heap.cr g3
end Go.A.Pk
end
section
set_option maxRecDepth 100000
namespace Go.A.Pk
variable {T:Nat→Option ah}
structure FnsWk (T:Nat→Option ah):Prop extends FnsVs T where
 f109:T 109=some f109
 f142:T 142=some f142
def nF(kerf:Int)(l:List Kd)(p:Int×Int)(ns:List (Nat×Int))(v:Value)(h:Heap):Prop:=
 ((fu kerf l p ns).ok=true∧∃q,v= .tuple #[.agg #[.int .i64 (fu kerf l p ns).bq, .int .i64 (p.1*p.2-(fu kerf l p ns).cells), .int .i64 (fu kerf l p ns).depth, .slice (some ⟨q,0,none⟩) l.length l.length], .bool true]∧h.get q=some (.cells (ints ((fu kerf l p ns).used.take l.length)) true 1))∨
 ((fu kerf l p ns).ok=false∧v= .tuple #[.agg #[.int .i64 0, .int .i64 0, .int .i64 0, .slice none 0 0], .bool false])
theorem nF.gc{kerf:Int}{l:List Kd}{p:Int×Int}{ns:List (Nat×Int)}{h:Heap}(v:Value)(h1:Heap)(hv:cD v=true)(q:nF kerf l p ns v h1):nF kerf l p ns v h:=by
 rcases q with⟨_,q,rfl,_⟩|q
 ·simp[cD,fR,flat,cp,jj,fA]at hv
 ·exact .inr q
theorem H8{n:Nat}:∀(us:List Int),n≤us.length→List.zipWith (· + ·) (List.replicate n 0) us=us.take n:=by
 intro us hu
 apply List.ext_getElem
 ·simp
 ·intro i h1 h2
  simp
theorem xy{kerf:Int}{l:List Kd}{p:Int×Int}{ns:List (Nat×Int)}{b0:Nat}{e:Env}{h:Heap}(hf:T 142=some f142)(hno:(fu kerf l p ns).ok=false)(h6:geT e 6=some (.pointer (some ⟨b0+2,0,none⟩)))(h7:geT e 7=some (.pointer (some ⟨b0+3,0,none⟩)))(hl:h.log=[])(hn:b0+8≤h.next)
 (g2:∃vs:List Value,vs.length=4∧h.get (b0+2)=some (.cells vs true 1))(g3:h.get (b0+3)=some (.cells [.bool false] true 1)):KX T b0 [(6,some (some 4)),(7,some none)] (nF kerf l p ns) (.panic xM) e [(.func (.func 142) #[] #[.pointer (some ⟨b0+2,0,none⟩), .pointer (some ⟨b0+3,0,none⟩)],[])] h:=by
 obtain⟨vs,hv,g2⟩:=g2
 obtain⟨q,h',hm,rfl,lg,gO,gK⟩:=B9 (h:={h with log:=[]}) hf g2 hv g3 (by omega) (show b0+2<h.next by omega) (show b0+3<h.next by omega)
 refine⟨⟨fun i=>nofun,142,_,_,_,rfl,none,h',hm,rfl,?_,[.agg #[.int .i64 0, .int .i64 0, .int .i64 0, .slice none 0 0], .bool false],?_, .inr ⟨hno,rfl⟩⟩⟩
 ·rw[hl,List.eq_nil_iff_forall_not_mem]
  intro z hz
  rcases nZ hz with q|⟨q,hb⟩
  ·cases q
  ·rcases lg z q with q|q
   ·cases q
   ·omega
 ·exact jg (b:=b0+2) (o:=0) (ws:=Ac) h6 gO rfl rfl (ef (b:=b0+3) (o:=0) h7 gK rfl fP)
theorem CG{kerf:Int}{l:List Kd}{p:Int×Int}{ns:List (Nat×Int)}(h:(bP kerf l 32 p ns).1.ok=false):(fu kerf l p ns).ok=false:=by
 unfold fu
 rw[if_neg (fun q=>by rw[h]at q;exact Bool.false_ne_true q.1)]
 rfl
theorem A8{kerf:Int}{l:List Kd}{p:Int×Int}{ns:List (Nat×Int)}(h:(bP kerf l 32 p ns).2≠ns.length):(fu kerf l p ns).ok=false:=by
 unfold fu
 rw[if_neg (fun q=>h q.2)]
 rfl
theorem yg{base:Nat}{e:Env}{h:Heap}{cs:List Value}{m:Nat}(hn:h.next=m):aop h base e (.new cs)=some (.val (.pointer (some ⟨m,0,none⟩)) (h.push (.cells cs true 1))):=by
 subst hn
 exact cN
set_option maxHeartbeats 32000000 in
theorem Bx(F:FnsWk T){kerf:Int}{l:List Kd}(hc:chk kerf l=0){h:Heap}(hr:Rdy h){bb c wc:Nat}{sa wa:Option Addr}(gb:h.get bb=some (.cells [.slice sa l.length c, .int .i64 kerf, .slice wa l.length wc] true 1))(hks:aA h 5 (.slice sa l.length c) l.length (kcs l))(hws:aA h 1 (.slice wa l.length wc) l.length (ints (wsP l)))
 {ns:List (Nat×Int)}{qa:Option Addr}{qc:Nat}(hns:aA h 2 (.slice qa ns.length qc) ns.length (ncI ns))(hu:U2 h (.slice qa ns.length qc))(hqc:qc<UNK∨qc=UNK)(hlen:ns.length≤1000)(hk:∀x∈ns,x.1<256){p:Int×Int}(h1:1≤p.1∧p.1≤16)(h2:1≤p.2∧p.2≤16):
 Al T 109 [.pointer (some ⟨bb,0,none⟩),cT p, .slice qa ns.length qc] h (nF kerf l p ns):=by
 have hp:=F.toFnsC.p
 refine Al.ofD hp F.f109 hr nF.gc ?_
 have hn12:=(dY.1 hc).1
 have kb:=WF.aT hr.wf gb
 obtain⟨p1,p2⟩:=p
 dsimp only at h1 h2
 have hpp:1≤p1*p2∧p1*p2≤256:=by
  have a1:=Int.mul_le_mul h1.1 h2.1 (by omega) (by omega)
  have a2:=Int.mul_le_mul h1.2 h2.2 (by omega) (by omega)
  omega
 have hmul:cV .mul (.int .i64 p1) (.int .i64 p2)=some (.int .i64 (p1*p2)):=by
  simp[cV,arith,bY (show -9223372036854775808≤p1*p2 by omega) (show p1*p2<9223372036854775808 by omega)]
 have HV:=CH F.toFnsVs hc (lo:=h.next) rfl gb kb hks hws 32
 unfold cT
 refine y4 ?_;refine yB ?_;refine yB ?_;refine af cN ?_;refine af cN ?_;refine y3 ?_;refine y4 ?_
 refine af (j6 (by exact rfl) (by exact rfl)) ?_
 refine GH (f:= .func (.func 142) #[] #[.pointer (some ⟨h.next+2,0,none⟩), .pointer (some ⟨h.next+3,0,none⟩)]) (args:=[]) rfl ?_
 refine y3 ?_;refine aq ?_;refine cG ?_;refine ak rfl rfl rfl (by exact rfl) (by exact rfl) (by exact rfl) (bz (i:=0) (by exact rfl) (by exact rfl) (by omega)) ?_
 refine qL ?_
 refine ak rfl rfl rfl (by exact rfl) (by exact rfl) (by exact rfl) (bz (i:=1) (by exact rfl) (by exact rfl) (by omega)) ?_
 refine qL ?_
 refine ak rfl rfl rfl (by exact rfl) (by exact rfl) (by exact rfl) (cE (by exact rfl) (by exact rfl) (by with_reducible assumption)) ?_
 refine qL ?_
 refine ak rfl rfl rfl (by exact rfl) (by exact rfl) (by exact rfl) (cC (by exact rfl)) ?_;refine qF ?_;refine qF ?_
 refine qL ?_
 refine ak rfl rfl rfl (by exact rfl) (by exact rfl) (by exact rfl) (DU (by exact rfl)) ?_
 refine za (n:=l.length) rfl rfl rfl (by exact rfl) (by exact rfl) (by exact rfl) (by omega) (by apply aa rfl;apply aa rfl;apply aa rfl;apply aa rfl;apply aa rfl;apply aa rfl;apply aM rfl (ay rfl (cE (by exact rfl) (by exact rfl) (by with_reducible assumption)) (by exact dL _ _)) rfl;apply aM rfl (ay rfl (bt (by exact rfl) (by(simp(disch:=first|omega|(simp only[z1,z2];omega)|(simp only[z1,z2];done)|fail)only[z8,z4,z5,z9,z7,z1,z2, *];exact rfl)) (by exact rfl)) (by exact dL _ _)) rfl;apply aM rfl (ay rfl (bz (i:=1) (by exact rfl) (by exact rfl) (by omega)) (by exact dy _)) rfl;apply aM rfl (ay rfl (bt (by exact rfl) (by(simp(disch:=first|omega|(simp only[z1,z2];omega)|(simp only[z1,z2];done)|fail)only[z8,z4,z5,z9,z7,z1,z2, *];exact rfl)) (by exact rfl)) (by exact dL _ _)) rfl;apply aM rfl (ay rfl (bz (i:=0) (by exact rfl) (by exact rfl) (by omega)) (by exact dy _)) rfl;exact bT) ?_
 refine ak rfl rfl rfl (by exact rfl) (by exact rfl) (by exact rfl) (ck (by exact rfl)) ?_
 refine ir rfl rfl rfl (by exact rfl) (by exact rfl) (by exact rfl) (by(simp(disch:=first|omega|(simp only[z1,z2];omega)|(simp only[z1,z2];done)|fail)only[z8,z4,z5,z9,z7,z1,z2, *];exact rfl)) (by exact rfl) (by exact rfl) (by(simp only[z1,z2];omega)) (by(simp only[z1,z2];omega)) (by apply aa rfl;apply aa rfl;apply aa rfl;apply aa rfl;apply aa rfl;apply aa rfl;exact bT) ?_
 refine cF ?_;refine y1 ?_;refine aP ?_;refine y4 ?_
 refine WO.gen ?_
 intro hA hAe
 have xA:Ext h hA:=by rw[hAe];exact((((((Ext.refl h).push _).push _).push _).push _).push _).wr (by(simp only[z1,z2];omega)) (by(simp only[z1,z2];omega))
 have A0:hA.get h.next=some (.cells [.pointer (some ⟨bb,0,none⟩)] true 1):=by rw[hAe];(simp(disch:=first|omega|(simp only[z1,z2];omega))only[z3,z4,z5,z6,z7,z1,z2, *];exact rfl)
 have A1:hA.get (h.next+1)=some (.cells [.int .i64 p1, .int .i64 p2] true 1):=by rw[hAe];(simp(disch:=first|omega|(simp only[z1,z2];omega)|(simp only[z1,z2];done)|fail)only[z8,z4,z5,z9,z7,z1,z2, *];exact rfl)
 have A2:hA.get (h.next+2)=some (.cells [.int .i64 0, .int .i64 (p1*p2), .int .i64 0, .slice (some ⟨h.next+4,0,none⟩) l.length l.length] true 1):=by rw[hAe];(simp(disch:=first|omega|(simp only[z1,z2];omega)|(simp only[z1,z2];done)|fail)only[z8,z4,z5,z9,z7,z1,z2, *];exact rfl)
 have A3:hA.get (h.next+3)=some (.cells [.bool false] true 1):=by rw[hAe];(simp(disch:=first|omega|(simp only[z1,z2];omega)|(simp only[z1,z2];done)|fail)only[z8,z4,z5,z9,z7,z1,z2, *];done)
 have A4:hA.get (h.next+4)=some (.cells (ints (List.replicate l.length 0)) true 1):=by rw[hAe];(simp(disch:=first|omega|(simp only[z1,z2];omega)|(simp only[z1,z2];done)|fail)only[z8,z4,z5,z9,z7,z1,z2, *];done)
 have nA:hA.next=h.next+5:=by rw[hAe];rfl
 clear hAe
 refine yC ?_
 refine FW.pu (Im F.toFnsNd (.of (xA.wf hr.wf))) ?_
 refine af (yg (m:=h.next+5) nA) ?_
 refine yS ?_
 refine y3 ?_
 refine y4 ?_
 refine yM ?_
 refine af (yg (m:=h.next+6) (by(simp only[z1,z2];omega))) ?_
 refine yS ?_
 refine y3 ?_
 refine y4 ?_
 refine af (yg (m:=h.next+7) (by(simp only[z1,z2];omega))) ?_
 refine y3 ?_
 refine y4 ?_
 refine af (j6 (by exact rfl) (by exact rfl)) ?_
 refine yS ?_
 refine y3 ?_
 refine y4 ?_
 refine WO.gen ?_
 intro hB hBe
 have xB:Ext h hB:=by rw[hBe];exact(((((xA.push _).wr (by omega) (by omega)).push _).wr (by omega) (by omega)).push _).wr (by omega) (by omega)
 have sB:Vst h.next bb h hB ns 0 (p1*p2) 0 (List.replicate l.length 0):=by
  rw[hBe]
  refine⟨by(simp only[z1,z2];omega),fun z hz=>by rw[←hBe];exact xB.old z hz,⟨.slice qa ns.length qc,by(simp(disch:=first|omega|(simp only[z1,z2];omega)|(simp only[z1,z2];done)|fail)only[z8,z4,z5,z9,z7,z1,z2, *];exact rfl),?_⟩,by(simp(disch:=first|omega|(simp only[z1,z2];omega)|(simp only[z1,z2];done)|fail)only[z8,z4,z5,z9,z7,z1,z2, *];exact rfl),by(simp(disch:=first|omega|(simp only[z1,z2];omega))only[z3,z4,z5,z6,z7,z1,z2, *];done),by rw[List.length_replicate];(simp(disch:=first|omega|(simp only[z1,z2];omega))only[z3,z4,z5,z6,z7,z1,z2, *];done),by(simp(disch:=first|omega|(simp only[z1,z2];omega)|(simp only[z1,z2];done)|fail)only[z8,z4,z5,z9,z7,z1,z2, *];exact rfl),by(simp(disch:=first|omega|(simp only[z1,z2];omega))only[z3,z4,z5,z6,z7,z1,z2, *];done)⟩
  rw[←hBe]
  refine⟨hns.ext xB,fun b o n e=>by
   obtain⟨vs,own,g⟩:=hu b o n e
   exact⟨vs,own,(xB.old _ (WF.aT hr.wf g)).trans g⟩,⟨_,_,rfl,hqc⟩,fun b o n c' e=> ?_⟩
  rcases hns.inv with⟨_,e2,_⟩|⟨b2,o2,cap,e2,s2,_⟩
  ·rw[e2]at e;cases e
  ·rw[e2]at e
   cases e
   have:=s2.lt
   exact⟨fun q=>by unfold Sv at q;omega,Nat.lt_of_lt_of_le this xB.next⟩
 have B1:hB.get (h.next+1)=some (.cells [.int .i64 p1, .int .i64 p2] true 1):=by rw[hBe];(simp(disch:=first|omega|(simp only[z1,z2];omega))only[z3,z4,z5,z6,z7,z1,z2, *];done)
 have B3:hB.get (h.next+3)=some (.cells [.bool false] true 1):=by rw[hBe];(simp(disch:=first|omega|(simp only[z1,z2];omega))only[z3,z4,z5,z6,z7,z1,z2, *];done)
 have nB:hB.next=h.next+8:=by rw[hBe];(simp only[z1,z2];omega)
 clear hBe A0 A1 A2 A3 A4 nA
 have gv:=sB.vis
 have lB:=xB.log.trans hr.log
 have C:=HV (p1,p2) ns {hB with log:=[]} 0 0 (p1*p2) 0 (List.replicate l.length 0) h1 h2 (by dsimp only;omega) (by omega) (by omega) hlen hk (.of (xB.wf hr.wf)) (sB.log []) List.length_replicate ⟨by omega,by omega,fun u hu=>by rw[List.eq_of_mem_replicate hu];omega⟩
 have TB1:=lG hc 32 (p1,p2) ns h1 h2
 have hno1:=CG (kerf:=kerf) (l:=l) (p:=(p1,p2)) (ns:=ns)
 have hno2:=A8 (kerf:=kerf) (l:=l) (p:=(p1,p2)) (ns:=ns)
 have hyes:(bP kerf l 32 (p1,p2) ns).1.ok=true→(bP kerf l 32 (p1,p2) ns).2=ns.length→fu kerf l (p1,p2) ns=(bP kerf l 32 (p1,p2) ns).1:=fun a b=>by unfold fu;rw[if_pos ⟨a,b⟩]
 generalize bP kerf l 32 (p1,p2) ns=r at*
 unfold oO cT at C
 clear HV
 refine yL ?_;refine yN ?_
 refine yC ?_
 refine FW.gpb (Gp.mono C (Q':=VQ h.next bb h r ns 0 (p1*p2) 0 0 (List.replicate l.length 0)) fun v h' q=>q.1) (fun z hz=>by unfold Sv at hz;omega) lB (fun v h' m q=>q.log m) (fun v h' m q=>q) ?_ ?_
 ·rintro v h5 w5 l5 ⟨rfl,ok1,V5⟩
  have G3:=(w5.old (h.next+3) (by omega) (by unfold Sv;omega)).trans B3
  have n5:=V5.nx
  obtain⟨v5,g5,r5⟩:=V5.rest
  obtain⟨qa5,qc5,rfl,_⟩:=r5.cap
  have g6:=V5.out
  have g8:=V5.usd
  have wf5:=w5.wf (xB.wf hr.wf)
  have f4:=V5.four
  have ml:(ns.drop r.2).length=ns.length-r.2:=List.length_drop
  have hm:=TB1.2
  have hud:0≤r.1.depth:=TB1.1.depth.1
  have hul:=TB1.1.len
  clear C r5 sB gv B1 B3 V5 w5
  by_cases hmm:r.2=ns.length
  ·have hy:=hyes ok1 hmm
   refine y3 ?_;refine y4 ?_;refine yL ?_;refine yD ?_;refine yt ?_
   refine yC ?_
   refine FW.pu (uN F.toFnsNd (.of wf5)) ?_
   refine y3 ?_;refine y4 ?_;refine yN ?_;refine yS ?_
   refine yS ?_;refine y3 ?_;refine aH ?_
   refine⟨⟨fun i=>nofun,142,_,_,_,rfl,?_⟩⟩
   have E2:Heap.get ((h5.wr h.next (h.next+2) (.cells [.int .i64 (0+r.1.bq), .int .i64 (p1*p2-r.1.cells), .int .i64 (mx 0 (0+r.1.depth)), .slice (some ⟨h.next+4,0,none⟩) (List.zipWith (· + ·) (List.replicate l.length 0) r.1.used).length (List.zipWith (· + ·) (List.replicate l.length 0) r.1.used).length] true 1)).wr h.next (h.next+3) (.cells [.bool true] true 1)) (h.next+2)=some (.cells [.int .i64 (0+r.1.bq), .int .i64 (p1*p2-r.1.cells), .int .i64 (mx 0 (0+r.1.depth)), .slice (some ⟨h.next+4,0,none⟩) (List.zipWith (· + ·) (List.replicate l.length 0) r.1.used).length (List.zipWith (· + ·) (List.replicate l.length 0) r.1.used).length] true 1):=(z5 (by omega)).trans (Heap.cr g6)
   have E3:Heap.get ((h5.wr h.next (h.next+2) (.cells [.int .i64 (0+r.1.bq), .int .i64 (p1*p2-r.1.cells), .int .i64 (mx 0 (0+r.1.depth)), .slice (some ⟨h.next+4,0,none⟩) (List.zipWith (· + ·) (List.replicate l.length 0) r.1.used).length (List.zipWith (· + ·) (List.replicate l.length 0) r.1.used).length] true 1)).wr h.next (h.next+3) (.cells [.bool true] true 1)) (h.next+3)=some (.cells [.bool true] true 1):=Heap.cr ((z5 (by omega)).trans G3)
   have E4:Heap.get ((h5.wr h.next (h.next+2) (.cells [.int .i64 (0+r.1.bq), .int .i64 (p1*p2-r.1.cells), .int .i64 (mx 0 (0+r.1.depth)), .slice (some ⟨h.next+4,0,none⟩) (List.zipWith (· + ·) (List.replicate l.length 0) r.1.used).length (List.zipWith (· + ·) (List.replicate l.length 0) r.1.used).length] true 1)).wr h.next (h.next+3) (.cells [.bool true] true 1)) (h.next+4)=some (.cells (ints (List.zipWith (· + ·) (List.replicate l.length 0) r.1.used)) true 1):=(z5 (by omega)).trans ((z5 (by omega)).trans g8)
   have EL:Heap.log ((h5.wr h.next (h.next+2) (.cells [.int .i64 (0+r.1.bq), .int .i64 (p1*p2-r.1.cells), .int .i64 (mx 0 (0+r.1.depth)), .slice (some ⟨h.next+4,0,none⟩) (List.zipWith (· + ·) (List.replicate l.length 0) r.1.used).length (List.zipWith (· + ·) (List.replicate l.length 0) r.1.used).length] true 1)).wr h.next (h.next+3) (.cells [.bool true] true 1))=[]:=(Heap.aI (by omega)).trans ((Heap.aI (by omega)).trans l5)
   have ez:=H8 (n:=l.length) r.1.used (by omega)
   obtain⟨p',h',hm',rfl,rfl⟩:=ET (T:=T) (h:={(((h5.wr h.next (h.next+2) (.cells [.int .i64 (0+r.1.bq), .int .i64 (p1*p2-r.1.cells), .int .i64 (mx 0 (0+r.1.depth)), .slice (some ⟨h.next+4,0,none⟩) (List.zipWith (· + ·) (List.replicate l.length 0) r.1.used).length (List.zipWith (· + ·) (List.replicate l.length 0) r.1.used).length] true 1)).wr h.next (h.next+3) (.cells [.bool true] true 1)))with log:=[]}) F.f142 (O:=h.next+2) (K:=h.next+3)
   refine⟨none,_,hm',rfl,?_,[_,_],jg (b:=h.next+2) (o:=0) rfl E2 rfl rfl (ef (b:=h.next+3) (o:=0) rfl E3 rfl fP), .inl ⟨by rw[hy];exact ok1,h.next+4,?_,?_⟩⟩
   ·exact congrArg (fun x=>ax h.next x []) EL
   ·rw[hy,ez,List.length_take,hul,Nat.min_eq_left (by omega)]
    have e1:mx 0 (0+r.1.depth)=r.1.depth:=by simp only[mx];split<;>omega
    rw[e1,Int.zero_add]
    rfl
   ·rw[hy]
    exact E4.trans (by rw[ez])
  ·have hno:=hno2 hmm
   refine y3 ?_;refine y4 ?_;refine yL ?_;refine yD ?_;refine yf ?_
   refine yC ?_
   refine FW.pan (rm F.toFnsNd) ?_
   exact yb (Bc (xy F.f142 hno rfl rfl l5 n5 f4 G3))
 ·rintro v h5 w5 l5 ⟨rfl,nok,four⟩
  have n5:=w5.next
  exact yb (Bc (xy F.f142 (hno1 nok) rfl rfl l5 (by omega) four ((w5.old (h.next+3) (by omega) (by unfold Sv;omega)).trans B3)))
end Go.A.Pk
end
section
set_option maxRecDepth 100000
namespace Go.A.Pk
variable {T:Nat→Option ah}
end Go.A.Pk
end
section
set_option maxRecDepth 100000
namespace Go.A.Pk
variable {T:Nat→Option ah}
structure FnsCp (T:Nat→Option ah):Prop extends FnsE T,FnsWk T where
 f76:T 76=some f76
 f50:T 50=some f50
theorem BI{kerf:Int}{l:List Kd}{p:Int×Int}{ns:List (Nat×Int)}(h:(fu kerf l p ns).ok=false):fu kerf l p ns=sm0:=by
 unfold fu at h⊢
 split
 ·rename_i q
  rw[if_pos q,q.1]at h
  cases h
 ·rfl
theorem nF.log{kerf:Int}{l:List Kd}{p:Int×Int}{ns:List (Nat×Int)}(v:Value)(h:Heap)(m:List Nat)(q:nF kerf l p ns v h):nF kerf l p ns v {h with log:=m}:=q
theorem U2.ext{h h':Heap}{v:Value}(u:U2 h v)(w:WF h)(x:Ext h h'):U2 h' v:=fun b o n e=>by
 obtain⟨vs,own,g⟩:=u b o n e
 exact⟨vs,own,(x.old _ (WF.aT w g)).trans g⟩
set_option maxHeartbeats 16000000 in
theorem qi(F:FnsCp T){h:Heap}(hr:Rdy h){a:Option Addr}{c:Nat}{l:List Kd}(hs:aA h 5 (.slice a l.length c) l.length (kcs l))(kerf:Int)(hn:l.length<1000000)(w ht:Int)
 {ns:List (Nat×Int)}{qa:Option Addr}{qc:Nat}(hns:aA h 2 (.slice qa ns.length qc) ns.length (ncI ns))(hu:U2 h (.slice qa ns.length qc))(hqc:qc<UNK∨qc=UNK)(hlen:ns.length≤1000)(hk:∀x∈ns,x.1<256):
 Pu T 50 [.agg #[.slice a l.length c, .int .i64 kerf], .int .i64 w, .int .i64 ht, .slice qa ns.length qc] h (sI kerf l w ht ns):=by
 have hp:=F.toFnsE.toFnsA.p
 refine .of hp F.f50 hr (by unfold sI;split<;>rfl) ?_
 have hx:Ext h (h.push (.cells [.slice a l.length c, .int .i64 kerf] true 1)):=(Ext.refl h).push _
 refine y4 ?_;refine yB ?_;refine yM ?_;refine yM ?_;refine yM ?_;refine y3 ?_;refine aq ?_;refine cG ?_
 refine qN ?_
 refine qM ?_;refine qM ?_
 refine qC ?_
 refine FW.puD (sK hp F.f76 F.toFnsE.toFnsA.f77 (.of (hx.wf hr.wf)) w ht) (by apply aa rfl;apply aa rfl;apply aM rfl (ay rfl (cS (by exact rfl) (by(simp(disch:=first|omega|(simp only[z1,z2];omega))only[z3,z4,z5,z6,z7,z1,z2, *];exact rfl)) (by exact rfl) (by exact rfl)) (by exact eU (by refine bN (gC _ _ _) ?_;refine bN (dz _ _) ?_;exact eW))) rfl;exact bT) ?_
 refine jB rfl rfl rfl (by exact rfl) (by exact rfl) (by exact rfl) (gE (by exact rfl) (by exact rfl)) (by refine b8 (ay rfl (cS (by exact rfl) (by(simp(disch:=first|omega|(simp only[z1,z2];omega))only[z3,z4,z5,z6,z7,z1,z2, *];exact rfl)) (by exact rfl) (by exact rfl)) (by exact eU (by refine bN (gC _ _ _) ?_;refine bN (dz _ _) ?_;exact eW))) ?_;exact jx) ?_
 refine qC ?_
 have hx2:=hx.push (.cells [.bool (decide (OnB w ht))] true 1)
 refine FW.alD (lD F.toFnsE (.of (hx2.wf hr.wf)) ((hs.ext hx2).log []) kerf hn (bl:=[decide (OnB w ht)]) (m:=1) (.mem ⟨Nat.lt_succ_self _,⟨_,_,_,z3 _ _,rfl⟩,rfl⟩ (Nat.le_refl _)) (by omega)) (fun v h' m q=>mX.BH v h' m q) ?_
 rintro _ h1 hx3 ⟨p,rfl,hst⟩
 rw[fk]at hst
 rw[fk]
 refine⟨_,by apply aa rfl;apply aa rfl;exact bT,?_⟩
 have w1:WF h1:=hx3.wf (hx2.wf hr.wf)
 have hx13:Ext h h1:=hx2.trans hx3
 have l1:=hx13.log.trans hr.log
 have n1:h.next+1≤h1.next:=by have:=hx3.next;simp only[z1,z2]at this;omega
 unfold sI
 by_cases ha:asked kerf l (OnB w ht)=0
 ·obtain⟨bb,wa,wc,rfl,gb,hws⟩:=hst ha
  obtain⟨hc,hb⟩:=jc ha
  have C:=Bx F.toFnsWk hc (.of w1) gb ((hs.ext hx13).log []) (hws.log []) ((hns.ext hx13).log []) (fun b o n e=>hu.ext hr.wf hx13 b o n e) hqc hlen hk (p:=(w,ht)) hb.1 hb.2
  unfold cT at C
  rw[if_pos ha,ha]
  clear hst
  refine qM ?_;refine qE ?_;refine qE ?_
  refine qM ?_;refine qM ?_;refine cF ?_;refine y1 ?_;refine aP ?_;refine aq ?_;refine y4 ?_
  refine yM ?_;refine yf ?_;refine y3 ?_;refine yX ?_;refine aB ?_;refine aP ?_;refine y4 ?_
  refine yM ?_;refine yM ?_;refine yM ?_;refine af (ck (by exact rfl)) ?_;refine yM ?_
  refine yC ?_
  refine FW.al C (fun v h' m q=>nF.log v h' m q) ?_
  clear C
  rintro v h2 hx4 (⟨ok,q,rfl,gq⟩|⟨nok,rfl⟩)
  ·have l2:=hx4.log.trans l1
   have n2:=hx4.next
   rw[ok]
   refine yM ?_;refine yE ?_;refine yE ?_;refine af cN ?_
   refine yS ?_;refine yM ?_;refine y3 ?_;refine y4 ?_;refine yF ?_
   refine yL ?_;refine yM ?_;refine yM ?_
   refine yM ?_;refine yM ?_;refine y3 ?_;refine aH ?_
   refine aF ?_ rfl rfl
   simp(disch:=first|omega|(simp only[z1,z2];omega))only[Heap.aI,Heap.cM]
   exact l2
  ·have l2:=hx4.log.trans l1
   have n2:=hx4.next
   rw[BI nok]
   refine yM ?_;refine yE ?_;refine yE ?_;refine af cN ?_
   refine yS ?_;refine yM ?_;refine y3 ?_;refine y4 ?_;refine yF ?_
   refine yL ?_;refine yM ?_;refine yM ?_
   refine yM ?_;refine yM ?_;refine y3 ?_;refine aH ?_
   refine aF ?_ rfl rfl
   simp(disch:=first|omega|(simp only[z1,z2];omega))only[Heap.aI,Heap.cM]
   exact l2
 ·rw[if_neg ha]
  refine qM ?_;refine qE ?_;refine qE ?_
  refine qM ?_;refine qM ?_;refine cF ?_;refine y1 ?_;refine aP ?_;refine aq ?_;refine y4 ?_
  refine yM ?_;refine yt ?_;refine y3 ?_;refine yY ?_;refine y4 ?_;refine yM ?_
  refine yM ?_;refine yM ?_;refine yM ?_;refine y3 ?_;refine aH ?_;refine ej ?_
  exact aF l1 rfl rfl
end Go.A.Pk
end
section
namespace Go.A.Pk
def clK(k:Kd):Kd:={k with bq:=k.w*k.h}
def cl(l:List Kd):List Kd:=l.map clK
end Go.A.Pk
end
section
set_option maxRecDepth 100000
namespace Go.A.Pk
variable {T:Nat→Option ah}
def OnD(w ht dp:Int):Prop:=OnB w ht∧(0≤dp∧dp≤40)
instance(w ht dp:Int):Decidable (OnD w ht dp):=by unfold OnD;infer_instance
end Go.A.Pk
end
section
set_option maxRecDepth 100000
namespace Go.A.Pk
variable {T:Nat→Option ah}
end Go.A.Pk
end
section
set_option maxRecDepth 100000
namespace Go.A.Pk
variable {T:Nat→Option ah}
end Go.A.Pk
end
section
set_option maxRecDepth 100000
namespace Go.A.Pk
variable {T:Nat→Option ah}
end Go.A.Pk
end
section
set_option maxRecDepth 100000
namespace Go.A.Pk
variable {T:Nat→Option ah}
end Go.A.Pk
end
section
set_option maxRecDepth 100000
namespace Go.A.Pk
variable {T:Nat→Option ah}
theorem zC{kerf:Int}{ws:List Int}{kl:List Kd}{t:Tab}{p:Int×Int}{ns:List (Nat×Nat)}(h:ij kerf ws kl t p ns):∀y∈ns,y.1<256:=by
 induction h with
 |none _=>intro y hy;cases hy
 |leaf _ _ hx _=>
  intro y hy
  rw[List.mem_singleton.1 hy]
  obtain⟨j,k,_,_,q⟩:=om hx
  rcases q with q|q<;>omega
 |cut _ _ hx _ _ _ i1 i2=>
  intro y hy
  rcases List.mem_cons.1 hy with rfl|hy
  ·rcases fy hx with q|q<;>omega
  ·rcases List.mem_append.1 hy with hy|hy
   ·exact i1 y hy
   ·exact i2 y hy
 |tO _ _ _ _=>
  intro y hy
  rw[List.mem_singleton.1 hy]
  show 0<256
  omega
theorem Dw{ns:List (Nat×Nat)}(h:∀y∈ns,y.1<256):∀y∈nI ns,y.1<256:=by
 intro y hy
 unfold nI at hy
 obtain⟨z,hz,rfl⟩:=List.mem_map.1 hy
 exact h z hz
end Go.A.Pk
end
section
set_option maxRecDepth 100000
namespace Go.A.Pk
variable {T:Nat→Option ah}
structure IL (T:Nat→Option ah):Prop extends FnsVl T,FnsCp T,FnsCV T where
 f13:T 13=some f13
 c19:∀{h:Heap},Rdy h→Pu T 19 [] h (.bool true)
set_option maxHeartbeats 16000000 in
theorem LF(F:IL T){h:Heap}(hr:Rdy h){a:Option Addr}{n c:Nat}{l:List Kd}(hs:aA h 5 (.slice a n c) n (kcs l))(kerf w ht:Int)
 {ns:List (Nat×Int)}{qa:Option Addr}{qc:Nat}(hns:aA h 2 (.slice qa ns.length qc) ns.length (ncI ns))(hu:U2 h (.slice qa ns.length qc))(hqc:qc<UNK∨qc=UNK)(hk:∀x∈ns,x.1<256)
 {v:Value}{rows:List (List Int)}(hv:dO h v rows):
 Pu T 13 [.agg #[.slice a n c, .int .i64 kerf], .int .i64 w, .int .i64 ht, .slice qa ns.length qc,v] h (.bool true):=by
 obtain⟨va,vc,rfl⟩:=hv.form
 have hp:=F.toFnsVl.toFnsPn.toFnsW.toFnsE.toFnsA.p
 refine .of hp F.f13 hr rfl ?_
 have hx:Ext h (h.push (.cells [.slice a n c, .int .i64 kerf] true 1)):=(Ext.refl h).push _
 obtain rfl:n=l.length:=by have:=hs.len;rw[cP]at this;omega
 refine y4 ?_;refine yB ?_;refine yM ?_;refine y3 ?_;refine aq ?_;refine y4 ?_
 refine yN ?_
 refine yC ?_
 refine FW.pu (KC F.toFnsCp.toFnsE.toFnsC (.of (hx.wf hr.wf)) kerf) ?_
 by_cases hfew:l.length≤16
 ·have hn:l.length<1000000:=by omega
  rw[decide_eq_true hfew]
  by_cases hlen:ns.length≤700
  ·by_cases hrl:rows.length≤16
   ·have C1:=I9 F.toFnsVl.toFnsPn.toFnsW (.of (hx.wf hr.wf)) ((hs.ext hx).log []) kerf hn w ht
    unfold AD at C1
    generalize hbw:(if asked kerf l (OnB w ht)=0 then gD kerf l w ht else 0)=bw at C1
    refine yA ?_;refine yM ?_;refine yO ?_;refine yM ?_;refine yO ?_;refine yD ?_;refine yO ?_;refine yf ?_;refine yU ?_
    refine yM ?_;refine yO ?_;refine yM ?_;refine yO ?_;refine yD ?_;refine yO ?_;refine yf ?_;refine yU ?_;refine y3 ?_;refine yX ?_;refine aB ?_;refine aP ?_;refine y4 ?_
    refine yN ?_;refine yM ?_;refine yM ?_
    refine yC ?_
    refine FW.pu C1 ?_
    clear C1
    refine yM ?_;refine yE ?_;refine yE ?_;refine yM ?_;refine yM ?_;refine y3 ?_;refine y4 ?_;refine yN ?_;refine yM ?_;refine yM ?_
    refine yC ?_
    refine FW.al (I7 F.toFnsVl.toFnsPn (.of (hx.wf hr.wf)) ((hs.ext hx).log []) kerf hn w ht) (fun v h' m q=>oG.log v h' m q) ?_
    rintro _ h2 hx2 ⟨ms,pa,pc,rfl,sp,⟨up,uc⟩,rp,rn⟩
    have hx12:=hx.trans hx2
    have k2:h.next<h2.next:=hx2.next
    have G4:h2.get h.next=some (.cells [.slice a l.length c, .int .i64 kerf] true 1):=by rw[hx2.old _ (by(simp only[z1,z2];omega))];(simp(disch:=first|omega|(simp only[z1,z2];omega))only[z3,z4,z5,z6,z7,z1,z2];exact rfl)
    refine yM ?_;refine yE ?_;refine yE ?_;refine yM ?_;refine yM ?_;refine y3 ?_;refine y4 ?_;refine yN ?_;refine yM ?_;refine yM ?_
    refine yC ?_
    refine FW.al (DN F.toFnsVl (.of (hx12.wf hr.wf)) ((hs.ext hx12).log []) kerf hn w ht) (fun v h' m q=>sQ.log v h' m q) ?_
    rintro _ h3 hx3 ⟨v3,rfl,q3⟩
    have hx13:=hx12.trans hx3
    have k3:h.next<h3.next:=by have:h2.next≤h3.next:=hx3.next;omega
    have G5:h3.get h.next=some (.cells [.slice a l.length c, .int .i64 kerf] true 1):=(hx3.old _ k2).trans G4
    have sp3:=sp.ext hx3
    have up3:U2 h3 (.slice pa ms.length pc):=fun b o n e=>up.ext (hx12.wf hr.wf) hx3 b o n e
    clear G4 sp up hx2 hx3 k2
    obtain⟨ok,hok⟩:∃ok:Bool,ok=true↔asked kerf l (OnB w ht)=0∧nD kerf l w.toNat ht.toNat rows:=by
     by_cases q:asked kerf l (OnB w ht)=0∧nD kerf l w.toNat ht.toNat rows
     ·exact⟨true,fun _=>q,fun _=>rfl⟩
     ·exact⟨false,fun x=>(by cases x),fun x=>absurd x q⟩
    have hok1:asked kerf l (OnB w ht)=0→(ok=true↔nD kerf l w.toNat ht.toNat rows):=fun q=>hok.trans ⟨fun x=>x.2,fun x=>⟨q,x⟩⟩
    have hok2:asked kerf l (OnB w ht)≠0→ok=false:=fun q=>oD hok fun x=>q x.1
    have C4:=qi F.toFnsCp (h:={h3 with log:=[]}) (.of (hx13.wf hr.wf)) ((hs.ext hx13).log []) kerf hn w ht ((hns.ext hx13).log []) (fun b o n e=>hu.ext hr.wf hx13 b o n e) hqc (by omega) hk
    have C5:=Ak F.toFnsCV (h:={h3 with log:=[]}) (.of (hx13.wf hr.wf)) ((hs.ext hx13).log []) kerf hn w ht ((hv.ext hx13).log []) (by omega) hok1 hok2
    have C19:=F.c19 (h:={h3 with log:=[]}) (.of (hx13.wf hr.wf))
    unfold sI at C4
    clear hok1 hok2
    by_cases ha:asked kerf l (OnB w ht)=0
    ·obtain⟨hc,hb⟩:=jc ha
     have R:=rp ha
     obtain⟨b1,b2⟩:=zJ hc hb R
     have hpl:=sj (dY.1 hc).2.1.1 R
     have hlen':ms.length≤1000:=by
      obtain⟨⟨v1,v2⟩,v3,v4⟩:=hb
      have:nK (w,ht)≤16*16:=Nat.mul_le_mul (by show w.toNat≤16;omega) (by show ht.toNat≤16;omega)
      omega
     have hmk:∀y∈nI ms,y.1<256:=Dw (zC R)
     have C6:=qi F.toFnsCp (h:={h3 with log:=[]}) (.of (hx13.wf hr.wf)) ((hs.ext hx13).log []) kerf hn w ht (ns:=nI ms) (qa:=pa) (qc:=pc) (by rw[rC,nI,←Aw];exact sp3.log []) (by rw[rC];exact up3) (uc.symm.imp_left fun q=>by unfold UNK;omega) (by rw[rC];exact hlen') hmk
     unfold sI at C6
     rw[rC,if_pos ha,b1,b2]at C6
     have hple:(fu kerf l (w,ht) ns).ok=true→_:=Di (kerf:=kerf) (l:=l) (w:=w) (ht:=ht) (ns:=ns) hc hb
     rw[if_pos ha]at C4 hbw
     subst hbw
     rw[if_pos ha]at q3
     obtain⟨w,rfl⟩:∃wn:Nat,w=wn:=⟨w.toNat,by have:=hb.1;omega⟩
     obtain⟨ht,rfl⟩:∃hn:Nat,ht=hn:=⟨ht.toNat,by have:=hb.2;omega⟩
     rw[Int.toNat_natCast,Int.toNat_natCast]at q3 hok
     have q4:=q3.weak
     have w1:1≤w∧w≤16:=by have:=hb.1;omega
     have h1:1≤ht∧ht≤16:=by have:=hb.2;omega
     have hro:=Ep hc hb
     have C7:=Ak F.toFnsCV (h:={h3 with log:=[]}) (ok:=true) (.of (hx13.wf hr.wf)) ((hs.ext hx13).log []) kerf hn w ht (q4.log []) (by rw[kJ];omega) (fun _=>⟨fun _=>by rw[Int.toNat_natCast,Int.toNat_natCast];exact hro,fun _=>rfl⟩) (fun q=>absurd ha q)
     have G7:=q4.GG (kJ kerf l w ht) (fun r hr=>by
      obtain⟨i,hi,rfl⟩:=List.getElem_of_mem hr
      exact(pG (List.getElem?_eq_getElem hi)).2.1) w1.1 h1.1
     have hkf:0≤kerf:=(dY.1 hc).2.1.1
     have hG:ok=true→u0 h3 (.slice va rows.length vc) w ht (fun i j=>vAt rows (i+1) (j+1))∧(∀i j,i<w→j<ht→vAt (iY kerf l w ht) (i+1) (j+1)≤vAt rows (i+1) (j+1))∧gD kerf l w ht≤vAt rows (w-1+1) (ht-1+1):=fun q=>by
      obtain⟨_,q2⟩:=hok.1 q
      refine⟨(hv.ext hx13).GG q2.1 q2.2.1 w1.1 h1.1,fun i j hi hj=> ?_,?_⟩
      ·rw[m9 (by omega) (by omega) (by omega) (by omega)]
       exact qP hkf q2 (by omega) (by omega) (by omega) (by omega)
      ·rw[show w-1+1=w by omega,show ht-1+1=ht by omega]
       exact qP hkf q2 w1.1 (Nat.le_refl _) h1.1 (Nat.le_refl _)
     have hcr:(gD kerf l w ht)<9223372036854775807∧ -9223372036854775808<(gD kerf l w ht):=by have:=rR hc hb;omega
     clear hok R b1 b2 hpl hlen' hmk hro q3 q4 rp rn sp3 up3 uc
     have hlog:h3.log=[]:=hx13.log.trans hr.log
     have hwf:WF h3:=hx13.wf hr.wf
     obtain⟨b5,o5,c5,vs5,own5,t5,rfl,g5,e5⟩:=G7.ex
     obtain⟨i,rfl⟩:∃c,w=c+1:=⟨w-1,by omega⟩
     obtain⟨j,rfl⟩:∃c,ht=c+1:=⟨ht-1,by omega⟩
     obtain⟨b6,o6,c6,vs6,own6,t6,f4,g6,e6⟩:=e5 i (by omega)
     have f6:bG vs6 (o6+j*1)=some (.int .i64 (gD kerf l ((i+1:Nat):Int) ((j+1:Nat):Int))):=by
      have q:=e6 j (by omega)
      rw[←m9 (kerf:=kerf) (l:=l) (w:=i+1) (ht:=j+1) (by omega) (by omega) (by omega) (by omega)]
      exact q
     clear e5 e6
     have hsub:cV .sub (.int .i64 ((i+1:Nat):Int)) (.int .i64 1)=some (.int .i64 ((i:Nat):Int)):=iX (by rw[bY]<;>omega)
     have hsub2:cV .sub (.int .i64 ((j+1:Nat):Int)) (.int .i64 1)=some (.int .i64 ((j:Nat):Int)):=iX (by rw[bY]<;>omega)
     rw[ha]at C5 C7
     rw[ha]
     generalize gD kerf l ((i+1:Nat):Int) ((j+1:Nat):Int)=bw at*
     generalize(fu kerf l (((i+1:Nat):Int),((j+1:Nat):Int)) ns).bq=pw at*
     generalize(fu kerf l (((i+1:Nat):Int),((j+1:Nat):Int)) ns).ok=pok at*
     clear ha hc hb
     refine yM ?_;refine yE ?_;refine yE ?_;refine yM ?_;refine yM ?_;refine y3 ?_;refine y4 ?_;refine yN ?_;refine yM ?_;refine yM ?_;refine yM ?_
     refine yC ?_
     refine FW.pu C4 ?_
     clear C4
     refine yM ?_;refine yE ?_;refine yE ?_;refine yE ?_;refine yM ?_;refine yM ?_;refine yM ?_;refine y3 ?_;refine y4 ?_;refine yN ?_;refine yM ?_;refine yM ?_;refine yM ?_
     refine yC ?_
     refine FW.pu C5 ?_
     clear C5
     refine yM ?_;refine yE ?_;refine yE ?_;refine yM ?_;refine yM ?_;refine y3 ?_;refine aq ?_
     refine y4 ?_;refine yM ?_;refine yM ?_;refine yf ?_;refine yM ?_;refine yO ?_;refine yM ?_;refine yO ?_;refine yM ?_
     refine yO ?_;refine yf ?_;refine yU ?_;refine yM ?_;refine yO ?_;refine yM ?_;refine yO ?_;refine yM ?_;refine yO ?_
     refine yf ?_;refine yU ?_;refine yM ?_;refine yO ?_;refine yM ?_;refine yO ?_;refine yM ?_;refine yO ?_
     refine yf ?_;refine yU ?_;refine y3 ?_;refine yX ?_;refine aB ?_;refine aP ?_;refine aq ?_;refine y4 ?_;refine yM ?_;refine yf ?_;refine y3 ?_;refine yX ?_;refine aB ?_;refine aP ?_;refine y4 ?_
     refine yN ?_;refine yM ?_;refine yM ?_;refine yM ?_
     refine yC ?_
     refine FW.pu C6 ?_
     clear C6
     refine yM ?_;refine yE ?_;refine yE ?_;refine yE ?_;refine yM ?_;refine yM ?_;refine yM ?_;refine y3 ?_;refine y4 ?_;refine yN ?_;refine yM ?_;refine yM ?_;refine yM ?_
     refine yC ?_
     refine FW.pu C7 ?_
     clear C7
     cases ok with
     |true=>
      obtain⟨G4,hfg,hbv⟩:=hG rfl
      have TAIL:=BN (T:=T) hp F.c19 (base:=h.next) hwf hlog w1 h1 G4 G7 hfg (m:=pw) (is:=pok) (fun q=>Int.le_trans (hple q) hbv)
      cases pok with
      |true=>
       have hp1:=hple rfl
       refine yM ?_;refine yE ?_;refine yE ?_;refine yM ?_;refine yM ?_;refine y3 ?_;refine aq ?_
       refine y4 ?_;refine yM ?_;refine yA ?_;refine yM ?_;refine yO ?_;refine yM ?_;refine yO ?_;refine yA ?_;refine yU ?_
       refine yM ?_;refine yO ?_;refine yM ?_;refine yO ?_;refine yf ?_;refine yU ?_;refine yM ?_;refine yO ?_;refine yM ?_
       refine yO ?_;refine yf ?_;refine yU ?_;refine yM ?_;refine yO ?_;refine yM ?_;refine yO ?_;refine yM ?_;refine yO ?_
       refine yf ?_;refine yU ?_;refine yM ?_;refine yO ?_;refine yM ?_;refine yO ?_;refine yD ?_;refine yO ?_;refine yM ?_
       refine yO ?_;refine yf ?_;refine yU ?_;refine yM ?_;refine yO ?_;refine yM ?_;refine yO ?_;refine yM ?_;refine yO ?_
       refine af (cE (by exact rfl) (by exact rfl) (by with_reducible assumption)) ?_;refine yO ?_;refine af (aN (by exact rfl) (by exact rfl) (by omega)) ?_;refine yO ?_;refine af (bt (by exact rfl) (by assumption) (by assumption)) ?_;refine yO ?_;refine yD ?_;refine yO ?_
       refine yM ?_;refine yO ?_;refine yf ?_;refine yU ?_;refine yM ?_;refine yO ?_;refine yM ?_;refine yO ?_;refine yM ?_
       refine yO ?_;refine af (cE (by exact rfl) (by exact rfl) (by with_reducible assumption)) ?_;refine yO ?_;refine af (aN (by exact rfl) (by exact rfl) (by omega)) ?_;refine yO ?_;refine af (bt (by exact rfl) (by assumption) (by assumption)) ?_;refine yO ?_;refine yM ?_
       refine yO ?_;refine af (cE (by exact rfl) (by exact rfl) (by with_reducible assumption)) ?_;refine yO ?_;refine af (aN (by exact rfl) (by exact rfl) (by omega)) ?_;refine yO ?_;refine af (bt (by exact rfl) (by assumption) (by assumption)) ?_;refine yO ?_;refine yM ?_
       refine yO ?_;refine yf ?_;refine yU ?_;refine yM ?_;refine yO ?_;refine yM ?_;refine yO ?_;refine yM ?_;refine yO ?_
       refine yM ?_;refine yO ?_;refine yM ?_;refine yO ?_;refine yf ?_;refine yO ?_;refine yT ?_;refine yU ?_;refine y3 ?_;refine yX ?_;refine aB ?_;refine aP ?_;refine aq ?_;refine y4 ?_;refine yM ?_;refine yA ?_;refine y3 ?_;refine yX ?_;refine aB ?_;refine aP ?_;exact TAIL
      |false=>
       clear hple
       refine yM ?_;refine yE ?_;refine yE ?_;refine yM ?_;refine yM ?_;refine y3 ?_;refine aq ?_
       refine y4 ?_;refine yM ?_;refine yA ?_;refine yM ?_;refine yO ?_;refine yM ?_;refine yO ?_;refine yA ?_;refine yU ?_
       refine yM ?_;refine yO ?_;refine yM ?_;refine yO ?_;refine yf ?_;refine yU ?_;refine yM ?_;refine yO ?_;refine yM ?_
       refine yO ?_;refine yf ?_;refine yU ?_;refine yM ?_;refine yO ?_;refine yM ?_;refine yO ?_;refine yM ?_;refine yO ?_
       refine yf ?_;refine yU ?_;refine yM ?_;refine yO ?_;refine yM ?_;refine yO ?_;refine yD ?_;refine yO ?_;refine yM ?_
       refine yO ?_;refine yf ?_;refine yU ?_;refine yM ?_;refine yO ?_;refine yM ?_;refine yO ?_;refine yM ?_;refine yO ?_
       refine af (cE (by exact rfl) (by exact rfl) (by with_reducible assumption)) ?_;refine yO ?_;refine af (aN (by exact rfl) (by exact rfl) (by omega)) ?_;refine yO ?_;refine af (bt (by exact rfl) (by assumption) (by assumption)) ?_;refine yO ?_;refine yD ?_;refine yO ?_
       refine yM ?_;refine yO ?_;refine yf ?_;refine yU ?_;refine yM ?_;refine yO ?_;refine yM ?_;refine yO ?_;refine yM ?_
       refine yO ?_;refine af (cE (by exact rfl) (by exact rfl) (by with_reducible assumption)) ?_;refine yO ?_;refine af (aN (by exact rfl) (by exact rfl) (by omega)) ?_;refine yO ?_;refine af (bt (by exact rfl) (by assumption) (by assumption)) ?_;refine yO ?_;refine yM ?_
       refine yO ?_;refine af (cE (by exact rfl) (by exact rfl) (by with_reducible assumption)) ?_;refine yO ?_;refine af (aN (by exact rfl) (by exact rfl) (by omega)) ?_;refine yO ?_;refine af (bt (by exact rfl) (by assumption) (by assumption)) ?_;refine yO ?_;refine yM ?_
       refine yO ?_;refine yf ?_;refine yU ?_;refine yM ?_;refine yO ?_;refine yM ?_;refine yO ?_;refine yM ?_
       refine yP ?_;refine yP ?_;refine yP ?_;refine yO ?_;refine yU ?_;refine yU ?_;refine y3 ?_;refine yX ?_;refine aB ?_;refine aP ?_;refine aq ?_;refine y4 ?_;refine yM ?_;refine yA ?_;refine y3 ?_;refine yX ?_;refine aB ?_;refine aP ?_;exact TAIL
     |false=>
      clear hG
      cases pok with
      |true=>
       have hp1:=hple rfl
       refine yM ?_;refine yE ?_;refine yE ?_;refine yM ?_;refine yM ?_;refine y3 ?_;refine aq ?_
       refine y4 ?_;refine yM ?_;refine yA ?_;refine yM ?_;refine yO ?_;refine yM ?_;refine yO ?_;refine yA ?_;refine yU ?_
       refine yM ?_;refine yO ?_;refine yM ?_;refine yO ?_;refine yf ?_;refine yU ?_;refine yM ?_;refine yO ?_;refine yM ?_
       refine yO ?_;refine yf ?_;refine yU ?_;refine yM ?_;refine yO ?_;refine yM ?_;refine yO ?_;refine yM ?_;refine yO ?_
       refine yf ?_;refine yU ?_;refine yM ?_;refine yO ?_;refine yM ?_;refine yO ?_;refine yD ?_;refine yO ?_;refine yM ?_
       refine yO ?_;refine yf ?_;refine yU ?_;refine yM ?_;refine yO ?_;refine yM ?_;refine yO ?_;refine yM ?_;refine yO ?_
       refine af (cE (by exact rfl) (by exact rfl) (by with_reducible assumption)) ?_;refine yO ?_;refine af (aN (by exact rfl) (by exact rfl) (by omega)) ?_;refine yO ?_;refine af (bt (by exact rfl) (by assumption) (by assumption)) ?_;refine yO ?_;refine yD ?_;refine yO ?_
       refine yM ?_;refine yO ?_;refine yf ?_;refine yU ?_;refine yM ?_;refine yO ?_;refine yM ?_;refine yO ?_;refine yM ?_
       refine yO ?_;refine af (cE (by exact rfl) (by exact rfl) (by with_reducible assumption)) ?_;refine yO ?_;refine af (aN (by exact rfl) (by exact rfl) (by omega)) ?_;refine yO ?_;refine af (bt (by exact rfl) (by assumption) (by assumption)) ?_;refine yO ?_;refine yM ?_
       refine yO ?_;refine af (cE (by exact rfl) (by exact rfl) (by with_reducible assumption)) ?_;refine yO ?_;refine af (aN (by exact rfl) (by exact rfl) (by omega)) ?_;refine yO ?_;refine af (bt (by exact rfl) (by assumption) (by assumption)) ?_;refine yO ?_;refine yM ?_
       refine yO ?_;refine yf ?_;refine yU ?_;refine yM ?_;refine yO ?_;refine yM ?_;refine yO ?_;refine yM ?_;refine yO ?_
       refine yM ?_;refine yO ?_;refine yM ?_;refine yO ?_;refine yf ?_;refine yO ?_;refine yT ?_;refine yU ?_;refine y3 ?_;refine yX ?_;refine aB ?_;refine aP ?_;refine aq ?_;refine y4 ?_;refine yM ?_;refine yA ?_;refine y3 ?_;refine yY ?_;refine y4 ?_
       refine yC ?_
       refine FW.pu C19 ?_
       refine yM ?_;refine y3 ?_;refine aH ?_;refine ej ?_
       exact aF hlog rfl rfl
      |false=>
       clear hple
       refine yM ?_;refine yE ?_;refine yE ?_;refine yM ?_;refine yM ?_;refine y3 ?_;refine aq ?_
       refine y4 ?_;refine yM ?_;refine yA ?_;refine yM ?_;refine yO ?_;refine yM ?_;refine yO ?_;refine yA ?_;refine yU ?_
       refine yM ?_;refine yO ?_;refine yM ?_;refine yO ?_;refine yf ?_;refine yU ?_;refine yM ?_;refine yO ?_;refine yM ?_
       refine yO ?_;refine yf ?_;refine yU ?_;refine yM ?_;refine yO ?_;refine yM ?_;refine yO ?_;refine yM ?_;refine yO ?_
       refine yf ?_;refine yU ?_;refine yM ?_;refine yO ?_;refine yM ?_;refine yO ?_;refine yD ?_;refine yO ?_;refine yM ?_
       refine yO ?_;refine yf ?_;refine yU ?_;refine yM ?_;refine yO ?_;refine yM ?_;refine yO ?_;refine yM ?_;refine yO ?_
       refine af (cE (by exact rfl) (by exact rfl) (by with_reducible assumption)) ?_;refine yO ?_;refine af (aN (by exact rfl) (by exact rfl) (by omega)) ?_;refine yO ?_;refine af (bt (by exact rfl) (by assumption) (by assumption)) ?_;refine yO ?_;refine yD ?_;refine yO ?_
       refine yM ?_;refine yO ?_;refine yf ?_;refine yU ?_;refine yM ?_;refine yO ?_;refine yM ?_;refine yO ?_;refine yM ?_
       refine yO ?_;refine af (cE (by exact rfl) (by exact rfl) (by with_reducible assumption)) ?_;refine yO ?_;refine af (aN (by exact rfl) (by exact rfl) (by omega)) ?_;refine yO ?_;refine af (bt (by exact rfl) (by assumption) (by assumption)) ?_;refine yO ?_;refine yM ?_
       refine yO ?_;refine af (cE (by exact rfl) (by exact rfl) (by with_reducible assumption)) ?_;refine yO ?_;refine af (aN (by exact rfl) (by exact rfl) (by omega)) ?_;refine yO ?_;refine af (bt (by exact rfl) (by assumption) (by assumption)) ?_;refine yO ?_;refine yM ?_
       refine yO ?_;refine yf ?_;refine yU ?_;refine yM ?_;refine yO ?_;refine yM ?_;refine yO ?_;refine yM ?_
       refine yP ?_;refine yP ?_;refine yP ?_;refine yO ?_;refine yU ?_;refine yU ?_;refine y3 ?_;refine yX ?_;refine aB ?_;refine aP ?_;refine aq ?_;refine y4 ?_;refine yM ?_;refine yA ?_;refine y3 ?_;refine yY ?_;refine y4 ?_
       refine yC ?_
       refine FW.pu C19 ?_
       refine yM ?_;refine y3 ?_;refine aH ?_;refine ej ?_
       exact aF hlog rfl rfl
    ·have hok0:ok=false:=oD hok fun x=>ha x.1
     subst hok0
     rw[if_neg ha]at C4 hbw
     subst hbw
     have hlog:h3.log=[]:=hx13.log.trans hr.log
     obtain rfl:=rn ha
     obtain⟨va3,vc3,rfl⟩:=q3.weak.form
     clear q3 rp rn sp3 up3 uc hok
     generalize asked kerf l (OnB w ht)=er at*
     refine yM ?_;refine yE ?_;refine yE ?_;refine yM ?_;refine yM ?_;refine y3 ?_;refine y4 ?_;refine yN ?_;refine yM ?_;refine yM ?_;refine yM ?_
     refine yC ?_
     refine FW.pu C4 ?_
     clear C4
     refine yM ?_;refine yE ?_;refine yE ?_;refine yE ?_;refine yM ?_;refine yM ?_;refine yM ?_;refine y3 ?_;refine y4 ?_;refine yN ?_;refine yM ?_;refine yM ?_;refine yM ?_
     refine yC ?_
     refine FW.pu C5 ?_
     clear C5
     refine yM ?_;refine yE ?_;refine yE ?_;refine yM ?_;refine yM ?_;refine y3 ?_;refine aq ?_
     refine y4 ?_;refine yM ?_;refine yM ?_;refine yf ?_;refine yM ?_;refine yO ?_;refine yM ?_;refine yO ?_;refine yM ?_
     refine yO ?_;refine yf ?_;refine yU ?_;refine yM ?_;refine yO ?_;refine yM ?_;refine yO ?_;refine yM ?_;refine yO ?_
     refine yf ?_;refine yU ?_;refine yM ?_;refine yO ?_;refine yM ?_;refine yO ?_;refine yM ?_;refine yO ?_
     refine yf ?_;refine yU ?_;refine y3 ?_;refine yX ?_;refine aB ?_;refine aP ?_;refine aq ?_;refine y4 ?_;refine yM ?_;refine yt ?_;refine y3 ?_;refine yY ?_;refine y4 ?_
     refine yC ?_
     refine FW.pu C19 ?_
     refine yM ?_;refine yO ?_;refine yM ?_;refine yO ?_;refine yA ?_;refine yT ?_;refine yM ?_;refine yO ?_;refine yM ?_;refine yO ?_
     refine yA ?_;refine yT ?_;refine yM ?_;refine yO ?_;refine yM ?_;refine yO ?_;refine yt ?_;refine yT ?_
     refine yM ?_;refine y3 ?_;refine aH ?_;refine ej ?_
     exact aF hlog rfl rfl
   ·refine yA ?_;refine yM ?_;refine yO ?_;refine yM ?_;refine yO ?_;refine yD ?_;refine yO ?_;refine yf ?_;refine yU ?_
    refine yM ?_;refine yO ?_;refine yM ?_;refine yO ?_;refine yD ?_;refine yO ?_;refine yt ?_;refine yU ?_;refine y3 ?_;refine yY ?_;refine y4 ?_
    refine yC ?_
    refine FW.pu (F.c19 (.of (hx.wf hr.wf))) ?_
    refine yM ?_;refine y3 ?_;refine aH ?_;refine ej ?_
    exact aF (hx.log.trans hr.log) rfl rfl
  ·refine yA ?_;refine yM ?_;refine yO ?_;refine yM ?_;refine yO ?_;refine yD ?_;refine yO ?_;refine yt ?_;refine yU ?_
   refine yM ?_;refine yP ?_;refine yP ?_;refine yP ?_;refine yT ?_;refine y3 ?_
   refine yY ?_;refine y4 ?_
   refine yC ?_
   refine FW.pu (F.c19 (.of (hx.wf hr.wf))) ?_
   refine yM ?_;refine y3 ?_;refine aH ?_;refine ej ?_
   exact aF (hx.log.trans hr.log) rfl rfl
 ·rw[decide_eq_false hfew]
  refine yA ?_;refine yM ?_;refine yP ?_;refine yP ?_;refine yP ?_;refine yT ?_;refine yM ?_;refine yP ?_
  refine yP ?_;refine yP ?_;refine yT ?_;refine y3 ?_;refine yY ?_;refine y4 ?_
  refine yC ?_
  refine FW.pu (F.c19 (.of (hx.wf hr.wf))) ?_
  refine yM ?_;refine y3 ?_;refine aH ?_;refine ej ?_
  exact aF (hx.log.trans hr.log) rfl rfl
end Go.A.Pk
end
section
namespace Go.A
open Go.ChangeShapes Go.WideShapes Go.ChangeAt Go.RowKit
section
variable {H:Type} {enc:TypeId×Value→H} {P:Program}
theorem nE(hl:laidOutB P=true){W W':World}(hb:Below W.heap.size W W'):∀{ts:List TypeId} {vs:List Value} {ds:List (DataW H)} {ps:List MemPlace},(∀t∈ts,P.readableRec t=true∧t<P.types.size)→DataW.TrodAll enc P W 0 (fun _=>true) true ts vs ds ps→
 (∀x∈ps,x.block<W.heap.size)→DataW.TrodAll enc P W' 0 (fun b=>decide (b<W.heap.size)) true ts vs ds ps
 |[],vs,ds,ps,_,h,_=>by
  obtain⟨rfl,rfl,rfl⟩:=trodAll_nil h
  exact trodAll_mk0
 |t::ts,vs,ds,ps,hr,h,hlt=>by
  obtain⟨v,vs',d,ds',p,q,rfl,rfl,rfl,hd,hrest⟩:=trodAll_cons h
  have h1:=hr t (List.mem_cons_self ..)
  exact⟨p,q,Below.trod hl h1.1 h1.2 hd hb fun x hx=>hlt x (List.mem_append_left _ hx),nE hl hb (fun t ht=>hr t (List.mem_cons_of_mem _ ht)) hrest fun x hx=>hlt x (List.mem_append_right _ hx),rfl⟩
theorem F8{f:Func}{s:ChangeSpec}{W W':World}{args:Array Value}{ds gs:List (DataW H)}{before:List MemPlace}{tb:TypeId}(hW:DataW.Whole enc P f.params.toList s.vars false W args.toList ds gs before)(hv:s.vars=[])
 (hfn:(s.fn H ds).results=[.lit (.bool true)]∧(s.fn H ds).args=ds∧(s.fn H ds).vars=[])(hl:laidOutB P=true)(hr:∀t∈f.params.toList,P.readableRec t=true∧t<P.types.size)(hres:f.resultTypes= #[tb])(htb:P.underlying tb=some .bool)(hb:Below W.heap.size W W'):
 s.post enc P f false true false false W args (.bool true) W':=by
 have hW':=hW
 obtain⟨p,q,hA,hV,hpq,hz,hn⟩:=hW
 rw[hv]at hV
 obtain⟨rfl,rfl⟩:=trodVars_none hV
 have hbp:before=p:=by simpa using hpq
 subst hbp
 obtain⟨h1,h2,h3⟩:=hfn
 have hlt:∀x∈before,x.block<W.heap.size:=fun x hx=>by simpa using hW'.lt x hx
 refine⟨ds,[],before,[],before,[],hW',?_,?_,?_,hb.frame _,fun h=>by cases h⟩
 ·rw[List.append_nil,h1,hres]
  exact trodAll_cons_mk (shut_bool htb _) trodAll_mk0
 ·rw[List.append_nil,h2]
  exact nE hl hb hr hA hlt
 ·rw[List.append_nil,h3,hv]
  rfl
end
end Go.A
end
section
set_option maxRecDepth 100000
namespace Go.A.Pk
open Go Go.Proofs Go.Joins Go.ChangeShapes Go.WideShapes Go.RowKit Go.Deep
instance:Inhabited Kd:=⟨⟨0,0,0,0,false⟩⟩
inductive kz (W:World):Value→List Kd→Prop
 |nil:kz W (.slice none 0 0) []
 |empty {b o cap c el fz}:W.heap[b]? =some (.cells c el fz)→cap<UNK→kz W (.slice (some ⟨b,o,none⟩) 0 cap) []
 |full {b o cap c el fz} {l:List Kd}:W.heap[b]? =some (.cells c el fz)→l≠[]→l.length≤cap→cap<UNK→(∀j,j<l.length*5→c[o+j]? =(kcs l)[j]?)→kz W (.slice (some ⟨b,o,none⟩) l.length cap) l
theorem Av:∀{l:List Kd} {i:Nat} {k:Kd} {j:Nat},l[i]? =some k→j<5→(kcs l)[i*5+j]? =(kc k)[j]?
 |[],i,k,j,h,_=>by simp at h
 |x::l,0,k,j,h,hj=>by
  simp only[List.getElem?_cons_zero,Option.some.injEq]at h
  subst h
  simp only[kcs,Nat.zero_mul,Nat.zero_add]
  rw[List.getElem?_append_left (by simpa[kc]using hj)]
 |x::l,i+1,k,j,h,hj=>by
  rw[List.getElem?_cons_succ]at h
  have:=Av (l:=l) h hj
  simp only[kcs]
  rw[List.getElem?_append_right (by simp[kc];omega),←this]
  congr 1
  simp[kc];omega
section
variable {H:Type} {enc:TypeId×Value→H} {W:World} {base:Nat} {spare:Nat→Bool} {held:Bool}
theorem qh:Tryz.prog.cellsOf 3=1:=by kernel_rfl
theorem JS:Tryz.prog.cellsOf 4=1:=by kernel_rfl
theorem AG:Tryz.prog.cellsOf 69=5:=by kernel_rfl
theorem zM{fuel:Nat}{cs:List Value}{x:DataW H×List MemPlace}(h:DataW.trod enc Tryz.prog W base spare held fuel 69 cs=some x):∃k:Kd,cs=kc k:=by
 obtain⟨xs,n,_,hx,hcl,hlen,hg⟩:=DataW.trod_struct Tryz.underlying69 h
 rw[AG]at hcl
 match cs,hcl with
 |[c0,c1,c2,c3,c4],_=>
  match xs,hlen with
  |[y0,y1,y2,y3,y4],_=>
   have g0:DataW.trod enc Tryz.prog W base spare held n 3 [c0]=some y0:=by have:=hg 0 _ rfl;simpa[qh]using this
   have g1:DataW.trod enc Tryz.prog W base spare held n 3 [c1]=some y1:=by have:=hg 1 _ rfl;simpa[qh]using this
   have g2:DataW.trod enc Tryz.prog W base spare held n 3 [c2]=some y2:=by have:=hg 2 _ rfl;simpa[qh]using this
   have g3:DataW.trod enc Tryz.prog W base spare held n 3 [c3]=some y3:=by have:=hg 3 _ rfl;simpa[qh]using this
   have g4:DataW.trod enc Tryz.prog W base spare held n 4 [c4]=some y4:=by have:=hg 4 _ rfl;simpa[JS]using this
   obtain⟨a0,h0,_⟩:=DataW.trod_int Tryz.underlying3 g0
   obtain⟨a1,h1,_⟩:=DataW.trod_int Tryz.underlying3 g1
   obtain⟨a2,h2,_⟩:=DataW.trod_int Tryz.underlying3 g2
   obtain⟨a3,h3,_⟩:=DataW.trod_int Tryz.underlying3 g3
   obtain⟨a4,h4,_⟩:=DataW.trod_bool Tryz.underlying4 g4
   cases h0;cases h1;cases h2;cases h3;cases h4
   exact⟨⟨a0,a1,a2,a3,a4⟩,rfl⟩
theorem add_eq(b o n:Nat):(Addr.mk b o none).add n=⟨b,o+n,none⟩:=by
 unfold Addr.add
 by_cases h:n=0
 ·rw[if_pos h,h,Nat.add_zero]
 ·rw[if_neg h]
theorem Dj{v:Value}{d:DataW H}{p:List MemPlace}(hv:Value.okWide Tryz.prog W .any base 24 v)(h:DataW.Trod enc Tryz.prog W 0 (fun _=>true) held 24 v d p)(hz:∀n∈d.weights Tryz.prog 24,n≤reachBytes):∃sl kerf l,v= .agg #[sl, .int .i64 kerf]∧kz W sl l:=by
 have hv0:=hv
 obtain⟨v0,v1,y0,y1,n,rfl,hd,_,h0,h1⟩:=open_agg2 Tryz.underlying24 (by kernel_rfl) (by kernel_rfl) hv h
 obtain⟨kerf,hk,_⟩:=DataW.trod_int Tryz.underlying3 h1
 cases hk
 have hcell:Cell.okWide Tryz.prog W .any base 22 v0:=by
  simp only[Value.okWide,Tryz.underlying24]at hv0
  obtain⟨cs,hcs,_,ts,hts,_,hrow⟩:=hv0
  cases hcs
  have e:Tryz.prog.cellTypes Tryz.prog.depth 24=some [22,3]:=by kernel_rfl
  rw[e]at hts
  cases hts
  obtain⟨u,hu,hc⟩:=hrow 0 v0 rfl
  cases hu
  exact hc
 rcases open_slice Tryz.underlying22 h0 with⟨h2,_⟩|⟨a,len,cap,m,n',D,Pl,h2,_,hl,hcap,hm,hy,hx⟩
 ·cases h2
  exact⟨_,kerf,[],rfl, .nil⟩
 ·cases h2
  simp only[Cell.okWide,Cell.ok,Tryz.underlying22,World.has]at hcell
  obtain⟨_,_,_,hspot,row,cells,hsh,_⟩:=hcell
  obtain⟨b,o,sp⟩:=a
  simp only at hspot hsh
  subst hspot
  rw[if_pos rfl]at hm
  subst hm
  have hcapU:m<UNK:=by
   have e40:Tryz.prog.bytesOf 69=40:=by kernel_rfl
   have:=hz (m*40) (by
    rw[hd,hy]
    simp only[DataW.weights,Tryz.underlying24,DataW.weightsEach,Tryz.underlying22,List.map_cons,List.map_nil,e40,List.length_map,List.length_range,show len+(m-len)=m by omega]
    simp)
   unfold reachBytes at this
   unfold UNK;omega
  obtain⟨c,el,fz,hheap⟩:∃c el fz,W.heap[b]? =some (.cells c el fz):=by
   unfold World.shape? at hsh
   split at hsh
   ·rename_i c el fz he;exact⟨c,el,fz,he⟩
   ·cases hsh
  have hlm:len≤m:=hl
  obtain⟨f,hf⟩:=choose_lt (α:=Kd) (n:=len) (p:=fun i k=>∀j,j<5→c[o+(i*5+j)]? =(kc k)[j]?) (fun i hi=>by
   obtain⟨cs',hc,ht⟩:=hx i (by omega)
   obtain⟨k,hk⟩:=zM ht
   subst hk
   refine⟨k,fun j hj=> ?_⟩
   rw[AG]at hc
   obtain⟨_,_,hat⟩:=World.cells?_some hc
   have:=hat j hj
   rw[add_eq,add_eq]at this
   rw[←this,Nat.add_assoc]
   unfold World.cell?
   simp only[hheap]
   rfl)
  by_cases h0:len=0
  ·subst h0
   exact⟨_,kerf,[],rfl, .empty hheap hcapU⟩
  ·have hlen:((List.range len).map f).length=len:=by simp
   refine⟨_,kerf,(List.range len).map f,rfl,?_⟩
   have:=kz.full (W:=W) (o:=o) (cap:=m) (l:=(List.range len).map f) hheap (by intro e;rw[e]at hlen;simp at hlen;omega) (by omega) hcapU (fun j hj=>by
    rw[hlen]at hj
    have h5:j / 5<len:=by omega
    have e1:j=j / 5*5+j % 5:=by omega
    have g1:=hf (j / 5) h5 (j % 5) (by omega)
    have g2:=Av (l:=(List.range len).map f) (i:=j / 5) (k:=f (j / 5)) (j:=j % 5) (by simp[h5]) (by omega)
    rw[←e1]at g1 g2
    rw[g1,g2])
   rw[hlen]at this
   exact this
end
end Go.A.Pk
end
section
set_option maxRecDepth 100000
open Go Go.A Go.Proofs
namespace Go.A.Pk
theorem MK:Entry Tryz.prog 19 (.jd (vh (.bool true))):= .jd (Bv sound Tryz.func19 (of_decide_eq_true (by kernel_rfl)) (by kernel_rfl) (of_decide_eq_true (by kernel_rfl)) (by kernel_rfl) rfl nr.run)
end Go.A.Pk
end
section
set_option maxRecDepth 100000
namespace Go.A.Pk
open Go Go.Proofs Go.RowKit
theorem St.below{μ μ':Mu}{h h':Heap}{W W':World}(s:St μ h W μ' h' W')(hro:∀b o,h.get b=some o→o.ro=true∨o.live=false):Below W.heap.size W W':=
 ⟨s.same.os,s.same.tape,s.same.out,s.le,fun r hr=>s.keep r hr fun⟨b,o,k,g1,g2,g3,_⟩=>by
  rcases hro b o g1 with q|q
  ·rw[q]at g3;cases g3
  ·rw[q]at g2;cases g2⟩
structure Laid (W:World) (sl:Value) (l:List Kd) (h:Heap) (μ:Mu) (v:Value) (n c:Nat) (a:Option Addr):Prop where
 rel:R Tryz.prog μ h W
 ro:∀b o,h.get b=some o→o.ro=true∨o.live=false
 rdy:Rdy h
 val:VR μ v sl
 form:v= .slice a n c
 at':aA h 5 (.slice a n c) n (kcs l)
end Go.A.Pk
end
