/- Walks of functions, plain laws, the table. -/
import Derived.Test.YteafdpbjocdbbaaGreatDoorSU0
import Derived.Test.YteafdpbjocdbbaaGreatDoorSU2
import Derived.Test.YteafdpbjocdbbaaGreatDoorSU3
import Derived.Test.YteafdpbjocdbbaaGreatDoorSF
import Derived.Test.YteafdpbjocdbbaaGreatDoorSH
import Derived.Test.YteafdpbjocdbbaaGreatDoorST
import Derived.Test.YteafdpbjocdbbaaGreatDoorSD
import Derived.Carry
import Derived.Lib.SmallJoins
import Derived.Deep.Slices
import Derived.Deep.Fields
import Derived.Test.YteafdpbjocdbbaaGreatDoorProg
import Derived.SizedLaws
import Derived.KernelRfl
set_option linter.all false
section
set_option maxRecDepth 100000
namespace Go.A.Pk
variable {T:Nat→Option AFunc}
theorem Al.mono{f:Nat}{args:List Value}{h:Heap}{Q Q':Value→Heap→Prop}(H:Al T f args h Q)(hq:∀v h',Q v h'→Q' v h'):Al T f args h Q':=
 CW.mono H fun r h' ⟨hx,v,hv,q⟩=>⟨hx,v,hv,hq _ _ q⟩
end Go.A.Pk
end
section
set_option maxRecDepth 100000
namespace Go.A.Pk
variable {T:Nat→Option AFunc}
theorem endA_gen{rs:List (Nat×Option (Option Nat))}{Q:Value→Heap→Prop}{x:AExit}{e:Env}{ds:Dfs}{h:Heap}(hK:∀hA,hA=h→endA rs Q x e ds hA):endA rs Q x e ds h:=hK h rfl
def SawV(kerf:Int)(l:List Kd)(v:Value)(h:Heap):Prop:=∃a c,v= .agg #[.slice a l.length c, .int .i64 kerf]∧SliceOf h 5 (.slice a l.length c) l.length (kcs l)
end Go.A.Pk
end
section
set_option maxRecDepth 100000
namespace Go.A.Pk
variable {T:Nat→Option AFunc}
structure FnsRFl (T:Nat→Option AFunc):Prop extends FnsRQ T where
 f52:T 52=some f52
 f25:T 25=some f25
theorem SawV.gc{kerf:Int}{l:List Kd}{h:Heap}(v:Value)(h1:Heap)(hv:noRef v=true)(q:SawV kerf l v h1):SawV kerf l v h:=by
 obtain⟨a,c,rfl,s⟩:=q
 refine⟨a,c,rfl,?_⟩
 generalize l.length=n at*
 generalize kcs l=cs at*
 cases s with
 |nil=>exact .nil
 |mem s _=>simp[noRef,flatL,flat,scalL,scal,scal1]at hv
theorem SawV.logs{kerf:Int}{l:List Kd}(v:Value)(h:Heap)(m:List Nat)(q:SawV kerf l v h):SawV kerf l v {h with log:=m}:=by
 obtain⟨a,c,e,s⟩:=q
 exact⟨a,c,e,s.log m⟩
theorem cl_succ{l:List Kd}{i:Nat}{x:Kd}(h:l[i]? =some x):kcs (cl (l.take (i+1)))=kcs (cl (l.take i))++kc (clK x):=by
 have e:cl (l.take (i+1))=cl (l.take i)++[clK x]:=by rw[List.take_add_one,h];simp[cl]
 rw[e,kcs_append]
 rfl
theorem Own.cast{lo sz n m:Nat}{h:Heap}{v:Value}{cs ds:List Value}(o:Own lo h sz v n cs)(hn:n=m)(hc:cs=ds):Own lo h sz v m ds:=by
 subst hn
 subst hc
 exact o
set_option maxHeartbeats 16000000 in
theorem cells52(hp:primAS T)(hf:T 52=some f52){h:Heap}(hr:Rdy h){a:Option Addr}{n c:Nat}{l:List Kd}(hs:SliceOf h 5 (.slice a n c) n (kcs l))(kerf:Int)(hn:n<1000000)(hl:∀k∈l,Right k):
 Al T 52 [.agg #[.slice a n c, .int .i64 kerf]] h (SawV kerf (cl l)):=by
 refine .of hp hf hr SawV.gc ?_
 have hx:Ext h ((h.push (.cells [.slice a n c, .int .i64 kerf] true 1)).push (.cells [.slice none 0 0, .int .i64 0] true 1)):=((Ext.refl h).push _).push _
 obtain rfl:n=l.length:=by have:=hs.len;rw[kcs_length]at this;omega
 have hx3:Ext h (((h.push (.cells [.slice a l.length c, .int .i64 kerf] true 1)).push (.cells [.slice none 0 0, .int .i64 0] true 1)).push (.cells [.slice none 0 0, .int .i64 kerf] true 1)):=hx.push _
 refine y4 ?_;refine yB ?_;refine wO_val a_new ?_;refine y3 ?_;refine y4 ?_;refine yF ?_
 refine yL ?_;refine wO_val (a_build (by exact rfl)) ?_;refine wO_val a_new ?_
 refine yS ?_;refine y3 ?_;refine wE_seq ?_;refine y4 ?_;refine yM ?_;refine y3 ?_;refine wE_block ?_
 refine wE_loop (fun k e ds h'=>∃(i:Nat) (v:Value),i≤l.length∧k=l.length-i∧e=[(1, .pointer (some ⟨h.next,0,none⟩)),(2, .pointer (some ⟨h.next+1,0,none⟩)),(3, .pointer (some ⟨h.next+2,0,none⟩)),(4, .int .i64 i)]∧ds=[]∧Ext h h'∧h.next+3≤h'.next∧
  h'.get h.next=some (.cells [.slice a l.length c, .int .i64 kerf] true 1)∧h'.get (h.next+1)=some (.cells [.slice none 0 0, .int .i64 0] true 1)∧h'.get (h.next+2)=some (.cells [v, .int .i64 kerf] true 1)∧Own (h.next+3) h' 5 v i (kcs (cl (l.take i))))
  ⟨0, .slice none 0 0,Nat.zero_le _,rfl,rfl,rfl,(hx.push _).wr (show h.next≤h.next+2 by omega) (by(simp only[z1,z2];omega)),Nat.le_refl _,by(simp(disch:=first|omega|(simp only[z1,z2];omega))only[z3,z4,z5,z6,z7,z1,z2, *];exact rfl),by(simp(disch:=first|omega|(simp only[z1,z2];omega)|(simp only[z1,z2];done)|fail)only[z8,z4,z5,z9,z7,z1,z2, *];done),by(simp(disch:=first|omega|(simp only[z1,z2];omega)|(simp only[z1,z2];done)|fail)only[z8,z4,z5,z9,z7,z1,z2, *];exact rfl), .nil⟩ ?_
 rintro k e ds h' ⟨i,v,hi,rfl,rfl,rfl,hxi,k3,g0,g1,g2,own⟩
 clear hx hx3
 by_cases hlt:i<l.length
 ·obtain⟨x,hxl⟩:∃x,l[i]? =some x:=⟨l[i],List.getElem?_eq_getElem (by omega)⟩
  have hs':=hs.ext hxi
  have hmul:=fill_mul (hl x (List.mem_of_getElem? hxl))
  have hid:PLift (kcs (cl (l.take i))++kc (clK x)=kcs (cl (l.take (i+1)))):=⟨(cl_succ hxl).symm⟩
  rcases hs'.inv with⟨_,_,h0,_⟩|⟨b,o,cap',hv,s,hcap⟩
  ·omega
  ·cases hv
   obtain⟨vs,ow,t,u1,u2⟩:=slice_elem s hxl
   refine wE_seq ?_;refine y4 ?_;refine yM ?_;refine yF ?_;refine yL ?_;refine yD ?_;refine yt ?_;refine y3 ?_;refine yY ?_;refine wE_skip ?_;refine kS_n ?_;refine wE_seq ?_;refine wE_block ?_;refine y4 ?_;refine yF ?_;refine yL ?_
   refine yM ?_;refine wO_val (a_iaddrS (by exact rfl) (by exact rfl) (by omega)) ?_
   refine wO_val (a_loadN (by exact rfl) u1 u2 (by exact rfl)) ?_
   refine wO_val a_new ?_;refine yS ?_;refine y3 ?_;refine y4 ?_;refine yF ?_
   refine yL ?_;refine yF ?_
   refine yL ?_;refine wO_val (a_num (by exact rfl) (by exact rfl) (by with_reducible assumption)) ?_
   refine yF ?_;refine yS ?_;refine y3 ?_;refine wE_region ?_;refine yF ?_
   refine yL ?_
   refine yN ?_;refine wO_val (a_bslice (by exact rfl) (by exact rfl)) ?_
   refine wO_app1 (lo:=h.next+3) (c1:=kc (clK x)) (own.ext (((((Ext.refl h').push _).wr (Nat.le_refl _) (by omega)).wr (Nat.le_refl _) (by omega)).push _)) (by omega) (by omega) (by omega) (by(simp only[z1,z2];omega)) (by omega) (by exact rfl) (by exact rfl) (src_slice (cs:=kc (clK x)) (by(simp(disch:=first|omega|(simp only[z1,z2];omega)|(simp only[z1,z2];done)|fail)only[z8,z4,z5,z9,z7,z1,z2, *];exact rfl)) rfl rfl) rfl rfl ?_
   intro v' h2 own' hx2'
   have ex:Ext h h2:=(((((hxi.push _).wr hxi.next hxi.next).wr hxi.next hxi.next).push _).lx (Nat.le_refl _)|>.trans (hx2'.mono (show h.next≤h.next+3 by omega))).ext
   have kn:=hx2'.next
   simp only[z2,z1]at kn
   have E0:h2.get h.next=some (.cells [.slice (some ⟨b,o,none⟩) l.length c, .int .i64 kerf] true 1):=(hx2'.old _ (by omega)).trans (by(simp(disch:=first|omega|(simp only[z1,z2];omega))only[z3,z4,z5,z6,z7,z1,z2, *];done))
   have E1:h2.get (h.next+1)=some (.cells [.slice none 0 0, .int .i64 0] true 1):=(hx2'.old _ (by omega)).trans (by(simp(disch:=first|omega|(simp only[z1,z2];omega))only[z3,z4,z5,z6,z7,z1,z2, *];done))
   have E2:h2.get (h.next+2)=some (.cells [v, .int .i64 kerf] true 1):=(hx2'.old _ (by omega)).trans (by(simp(disch:=first|omega|(simp only[z1,z2];omega))only[z3,z4,z5,z6,z7,z1,z2, *];done))
   clear hx2' g0 g1 g2
   have hv1:=own'.slice (by omega)
   obtain⟨a1,c1,rfl⟩:=hv1.form
   refine yF ?_;refine yS ?_;refine wO_nil ?_;refine y1 ?_;refine kB_n ?_;refine kS_n ?_;refine wE_region ?_;refine yM ?_
   refine yinc ?_;refine yM ?_;refine y3 ?_
   refine⟨l.length-(i+1),by omega,i+1, .slice a1 (i+1) c1,by omega,rfl,rfl,rfl,ex.wr (show h.next≤h.next+2 by omega) (by omega),by(simp only[z1,z2];omega),by(simp(disch:=first|omega|(simp only[z1,z2];omega))only[z3,z4,z5,z6,z7,z1,z2, *];done),by(simp(disch:=first|omega|(simp only[z1,z2];omega))only[z3,z4,z5,z6,z7,z1,z2, *];done),by(simp(disch:=first|omega|(simp only[z1,z2];omega))only[z3,z4,z5,z6,z7,z1,z2, *];exact rfl),?_⟩
   refine Own.cast (n:=i+1) ?_ rfl hid.down
   exact own'.keep (by(simp only[z1,z2];omega)) fun z q1 q2=>z5 (by omega)
 ·obtain rfl:i=l.length:=by omega
  rw[List.take_of_length_le (Nat.le_refl _)]at own
  have hv1:=own.slice (by omega)
  obtain⟨a1,c1,rfl⟩:=hv1.form
  refine wE_seq ?_;refine y4 ?_;refine yM ?_;refine yF ?_;refine yL ?_;refine yD ?_;refine yf ?_;refine y3 ?_;refine yX ?_;refine wE_exit ?_;refine kS_e ?_;refine kS_e ?_;refine kB_e ?_;refine kS_n ?_;refine y4 ?_;refine yN ?_
  refine yS ?_;refine y3 ?_;refine wE_ret ?_
  refine endA_gen ?_
  intro hA hAe
  have A1:hA.get (h.next+1)=some (.cells [.slice a1 l.length c1, .int .i64 kerf] true 1):=by rw[hAe];(simp(disch:=first|omega|(simp only[z1,z2];omega))only[z3,z4,z5,z6,z7,z1,z2, *];exact rfl)
  have A6:hA.log=[]:=by rw[hAe,Heap.log_wr_new (by omega)];exact hxi.log.trans hr.log
  have A7:SliceOf hA 5 (.slice a1 l.length c1) l.length (kcs (cl l)):=by
   rw[hAe]
   refine Own.slice (lo:=h.next+3) ?_ (by omega)
   exact own.keep (by(simp only[z1,z2];omega)) fun z q1 q2=>z5 (by omega)
  clear hAe
  exact endA_ret (vs:=[.agg (List.toArray [.slice a1 l.length c1, .int .i64 kerf])]) A6 (res_cells (b:=h.next+1) rfl A1 rfl rfl res_nil) ⟨a1,c1,by rw[cl_len];rfl,by rw[cl_len];exact A7⟩
set_option maxHeartbeats 16000000 in
theorem rfill25(F:FnsRFl T){h:Heap}(hr:Rdy h){a:Option Addr}{n c:Nat}{l:List Kd}(hs:SliceOf h 5 (.slice a n c) n (kcs l))(kerf:Int)(hn:n<1000000)(w ht:Int):
 Pu T 25 [.agg #[.slice a n c, .int .i64 kerf], .int .i64 w, .int .i64 ht] h (.tuple #[.int .i64 (if asked kerf l (OnB w ht)=0 then w*ht-bestV kerf (cl l) w ht else 0), .int .i64 (asked kerf l (OnB w ht))]):=by
 refine .of F.toFnsRB.p F.f25 hr rfl ?_
 have hx:Ext h (h.push (.cells [.slice a n c, .int .i64 kerf] true 1)):=(Ext.refl h).push _
 obtain rfl:n=l.length:=by have:=hs.len;rw[kcs_length]at this;omega
 have C1:=asked79 F.toFnsD (.of (hx.wf hr.wf)) ((hs.ext hx).log []) kerf w ht hn
 change Pu T 79 _ _ (.int .i64 (asked kerf l (OnB w ht)))at C1
 refine y4 ?_;refine yB ?_;refine yM ?_;refine yM ?_;refine y3 ?_;refine y4 ?_
 refine yN ?_;refine yM ?_;refine yM ?_
 refine yC ?_
 refine FW.pu C1 ?_
 clear C1
 by_cases hA:asked kerf l (OnB w ht)=0
 ·rw[if_pos hA,hA]
  obtain⟨hc,hb⟩:=asked_zero hA
  obtain⟨q1,q2,q3,q4⟩:=chk_iff.1 hc
  have hb0:=hb
  obtain⟨⟨e1,e2⟩,e3,e4⟩:=hb0
  have hbb:=bestV_bd (chk_cl hc) hb
  have h1:=Int.mul_nonneg (show(0:Int)≤w by omega) (show(0:Int)≤ht by omega)
  have h2:=Int.mul_le_mul e2 e4 (by omega) (by omega)
  have hsub:numOp .sub (.int .i64 (w*ht)) (.int .i64 (bestV kerf (cl l) w ht))=some (.int .i64 (w*ht-bestV kerf (cl l) w ht)):=m_sub (by rw[wrapA_i64]<;>omega)
  have hmul:numOp .mul (.int .i64 w) (.int .i64 ht)=some (.int .i64 (w*ht)):=by
   simp[numOp,arith,wrapA_i64 (show -9223372036854775808≤w*ht by omega) (show w*ht<9223372036854775808 by omega)]
  clear h1 h2
  refine yM ?_;refine y3 ?_;refine wE_seq ?_;refine y4 ?_;refine yM ?_;refine yf ?_;refine y3 ?_;refine yX ?_;refine wE_skip ?_;refine kS_n ?_;refine y4 ?_
  refine yN ?_
  refine yC ?_
  refine FW.al (cells52 F.toFnsRB.p F.f52 (.of (hx.wf hr.wf)) ((hs.ext hx).log []) kerf hn q3) SawV.logs ?_
  rintro _ h2 hx2 ⟨a2,c2,rfl,s2⟩
  have hx12:=hx.trans hx2
  have C2:=rbest33 F.toFnsRQ (.of (hx12.wf hr.wf)) (s2.log []) kerf (by rw[cl_len];exact hn) w ht
  rw[bestR_ok (asked_ok (chk_cl hc) hb)]at C2
  refine yM ?_;refine yM ?_
  refine yC ?_
  refine FW.pu C2 ?_
  clear C2
  refine yM ?_;refine yE ?_;refine yE ?_;refine yM ?_;refine yM ?_;refine y3 ?_;refine y4 ?_;refine yM ?_;refine yM ?_;refine wO_val (a_num (by exact rfl) (by exact rfl) (by with_reducible assumption)) ?_;refine yM ?_;refine wO_val (a_num (by exact rfl) (by exact rfl) (by with_reducible assumption)) ?_;refine yM ?_;refine yM ?_
  refine y3 ?_;refine wE_ret ?_
  exact endP_ret (hx12.log.trans hr.log) rfl rfl
 ·rw[if_neg hA]
  refine yM ?_;refine y3 ?_;refine wE_seq ?_;refine y4 ?_;refine yM ?_;refine yt ?_;refine y3 ?_;refine yY ?_;refine y4 ?_;refine yM ?_;refine yM ?_;refine yM ?_;refine y3 ?_;refine wE_ret ?_;refine kS_r ?_
  exact endP_ret (hx.log.trans hr.log) rfl rfl
end Go.A.Pk
end
section
set_option maxRecDepth 100000
namespace Go.A.Pk
variable {T:Nat→Option AFunc}
structure FnsPd (T:Nat→Option AFunc):Prop extends FnsC9 T where
 f85:T 85=some f85
def plannedS(kerf:Int)(l:List Kd)(w ht:Int)(ns:List (Nat×Int)):Sm:=if asked kerf l (OnB w ht)=0∧(planS kerf l (w,ht) ns).ok=true then planS kerf l (w,ht) ns else sm0
def plannedE(kerf:Int)(l:List Kd)(w ht:Int)(ns:List (Nat×Int)):Int:=if asked kerf l (OnB w ht)=0 then(if(planS kerf l (w,ht) ns).ok=true then 0 else 50)else asked kerf l (OnB w ht)
set_option maxHeartbeats 8000000 in
theorem planned85(F:FnsPd T){a:Option Addr}{c:Nat}{l:List Kd}{kerf w ht:Int}{ns:List (Nat×Int)}{h:Heap}{qa:Option Addr}{qc:Nat}(hn:l.length<1000000)(hlen:ns.length≤1000)(hr:Rdy h)
 (hs:SliceOf h 5 (.slice a l.length c) l.length (kcs l))(hns:SliceOf h 2 (.slice qa ns.length qc) ns.length (ncI ns))(hu:U2 h (.slice qa ns.length qc))(hqc:qc<1000000∨qc=UNK):
 Pu T 85 [.agg #[.slice a l.length c, .int .i64 kerf], .int .i64 w, .int .i64 ht, .slice qa ns.length qc] h (.tuple #[.agg (smC (plannedS kerf l w ht ns)).toArray, .int .i64 (plannedE kerf l w ht ns)]):=by
 refine .of F.toFnsTr.p F.f85 hr (noRef_smC _ _) ?_
 have hx:Ext h ((h.push (.cells [.slice a l.length c, .int .i64 kerf] true 1)).push (.cells (smC sm0) true 1)):=((Ext.refl h).push _).push _
 have C:=asked79 F.toFnsD (.of (hx.wf hr.wf)) ((hs.ext hx).log []) kerf w ht hn
 have eO:asked kerf l ((1≤w∧w≤16)∧(1≤ht∧ht≤16))=asked kerf l (OnB w ht):=rfl
 rw[eO]at C
 have hl0:sm0.used.length=12:=rfl
 refine y4 ?_;refine yB ?_;refine wO_val a_new ?_;refine yM ?_;refine y3 ?_;refine y4 ?_
 refine yN ?_;refine yM ?_;refine yM ?_
 refine yC ?_
 refine FW.pu C ?_
 clear C
 unfold plannedS plannedE
 by_cases ha:asked kerf l (OnB w ht)=0
 ·rw[if_pos ha,ha]
  obtain⟨hc,hb⟩:=asked_zero ha
  have C2:=plan95 F.toFnsC9 hc (p:=(w,ht)) (qc:=qc) hb.1 hb.2 hlen (.of (hx.wf hr.wf)) ((hs.ext hx).log []) ((hns.ext hx).log []) (fun b o n e=>by
   obtain⟨vs,own,g⟩:=hu b o n e
   exact⟨vs,own,(hx.old _ (WF.get_lt hr.wf g)).trans g⟩) hqc
  have hl:=planS_len hc (p:=(w,ht)) hb.1 hb.2 ns
  generalize planS kerf l (w,ht) ns=s at*
  refine yM ?_;refine y3 ?_;refine wE_seq ?_;refine y4 ?_;refine yM ?_;refine yf ?_;refine y3 ?_;refine yX ?_;refine wE_skip ?_;refine kS_n ?_;refine y4 ?_
  refine yN ?_;refine yM ?_;refine yM ?_
  refine yM ?_
  refine yC ?_
  refine FW.pu C2 ?_
  clear C2
  refine wO_val a_new ?_
  refine wO_val (a_storeAll (cs:=smC s) (vs:=smC sm0) (by exact rfl) (by exact rfl) (by(simp(disch:=first|omega|(simp only[z1,z2];omega)|(simp only[z1,z2];done)|fail)only[z8,z4,z5,z9,z7,z1,z2, *];exact rfl)) (smC_len hl) rfl (ones_smC _)) ?_
  obtain⟨ok,wo,ce,de,us⟩:=s
  cases ok with
  |true=>
   rw[if_pos ⟨rfl,rfl⟩]
   refine y3 ?_;refine wE_seq ?_;refine y4 ?_;refine yF ?_
   refine yL ?_;refine yA ?_;refine y3 ?_;refine yX ?_;refine wE_skip ?_;refine kS_n ?_;refine y4 ?_
   refine wO_val (a_loadN (l:=smC ⟨true,wo,ce,de,us⟩) (by exact rfl) (by(simp(disch:=first|omega|(simp only[z1,z2];omega)|(simp only[z1,z2];done)|fail)only[z8,z4,z5,z9,z7,z1,z2, *];exact rfl)) (smC_take hl).1 (smC_take hl).2) ?_
   refine wO_val (a_storeAll (cs:=smC ⟨true,wo,ce,de,us⟩) (vs:=smC sm0) (by exact rfl) (by exact rfl) (by(simp(disch:=first|omega|(simp only[z1,z2];omega)|(simp only[z1,z2];done)|fail)only[z8,z4,z5,z9,z7,z1,z2, *];exact rfl)) (smC_len hl) rfl (ones_smC _)) ?_
   refine yM ?_;refine y3 ?_;refine wE_ret ?_
   refine endP_ret ?_ (res_cells (b:=h.next+1) (vs:=[.int .i64 0]) rfl (by(simp(disch:=first|omega|(simp only[z1,z2];omega)|(simp only[z1,z2];done)|fail)only[z8,z4,z5,z9,z7,z1,z2, *];exact rfl)) (smC_take hl).1 (smC_take hl).2 (res_slot rfl res_nil)) rfl
   simp(disch:=first|omega|(simp only[z1,z2];omega))only[Heap.log_wr_new,Heap.log_push]
   exact hr.log
  |false=>
   rw[if_neg (fun q=>by cases q.2)]
   refine y3 ?_;refine wE_seq ?_;refine y4 ?_;refine yF ?_
   refine yL ?_;refine yA ?_;refine y3 ?_;refine yY ?_;refine y4 ?_;refine wO_val (a_build (by exact rfl)) ?_
   refine yS ?_
   refine yM ?_;refine y3 ?_;refine wE_ret ?_;refine kS_r ?_
   refine endP_ret ?_ (res_cells (b:=h.next+1) (vs:=[.int .i64 50]) rfl (by(simp(disch:=first|omega|(simp only[z1,z2];omega)|(simp only[z1,z2];done)|fail)only[z8,z4,z5,z9,z7,z1,z2, *];exact rfl)) (smC_take hl0).1 (smC_take hl0).2 (res_slot rfl res_nil)) rfl
   simp(disch:=first|omega|(simp only[z1,z2];omega))only[Heap.log_wr_new,Heap.log_push]
   exact hr.log
 ·rw[if_neg ha,if_neg (fun q=>ha q.1)]
  generalize asked kerf l (OnB w ht)=er at*
  refine yM ?_;refine y3 ?_;refine wE_seq ?_;refine y4 ?_;refine yM ?_;refine yt ?_;refine y3 ?_;refine yY ?_;refine y4 ?_;refine wO_val (a_build (by exact rfl)) ?_;refine yM ?_
  refine yS ?_
  refine yM ?_;refine y3 ?_;refine wE_ret ?_;refine kS_r ?_
  refine endP_ret ?_ (res_cells (b:=h.next+1) (vs:=[.int .i64 er]) rfl (by(simp(disch:=first|omega|(simp only[z1,z2];omega)|(simp only[z1,z2];done)|fail)only[z8,z4,z5,z9,z7,z1,z2, *];exact rfl)) (smC_take hl0).1 (smC_take hl0).2 (res_slot rfl res_nil)) rfl
  simp(disch:=first|omega|(simp only[z1,z2];omega))only[Heap.log_wr_new,Heap.log_push]
  exact hr.log
theorem TB.mono{s:Sm}{m n:Nat}(h:TB s m)(hm:m≤n):TB s n:=by
 obtain⟨h1,h2,h3,h4,h5⟩:=h
 refine⟨⟨h1.1,by omega⟩,⟨h2.1,by omega⟩,⟨h3.1,by omega⟩,h4,fun u hu=> ?_⟩
 have:=h5 u hu
 omega
theorem plannedS_bd{kerf:Int}{l:List Kd}{w ht:Int}{ns:List (Nat×Int)}(hlen:ns.length≤1000):TB (plannedS kerf l w ht ns) 1000:=by
 unfold plannedS
 split
 ·rename_i q
  obtain⟨hc,hb⟩:=asked_zero q.1
  have:=tree_bd hc 32 (w,ht) ns hb.1 hb.2
  unfold planS
  split
  ·exact this.1.mono (by omega)
  ·exact TB.zero false _
 ·exact TB.zero false _
theorem plannedE_zero{kerf:Int}{l:List Kd}{w ht:Int}{ns:List (Nat×Int)}(h:plannedE kerf l w ht ns=0):asked kerf l (OnB w ht)=0∧plannedS kerf l w ht ns=planS kerf l (w,ht) ns∧(planS kerf l (w,ht) ns).ok=true:=by
 unfold plannedE at h
 by_cases ha:asked kerf l (OnB w ht)=0
 ·rw[if_pos ha]at h
  by_cases hb:(planS kerf l (w,ht) ns).ok=true
  ·exact⟨ha,by unfold plannedS;rw[if_pos ⟨ha,hb⟩],hb⟩
  ·rw[if_neg hb]at h;cases h
 ·rw[if_neg ha]at h;exact absurd h ha
structure FnsWs (T:Nat→Option AFunc):Prop extends FnsPd T where
 f26:T 26=some f26
set_option maxHeartbeats 8000000 in
theorem waste26(F:FnsWs T){a:Option Addr}{c:Nat}{l:List Kd}{kerf w ht:Int}{ns:List (Nat×Int)}{h:Heap}{qa:Option Addr}{qc:Nat}(hn:l.length<1000000)(hlen:ns.length≤1000)(hr:Rdy h)
 (hs:SliceOf h 5 (.slice a l.length c) l.length (kcs l))(hns:SliceOf h 2 (.slice qa ns.length qc) ns.length (ncI ns))(hu:U2 h (.slice qa ns.length qc))(hqc:qc<1000000∨qc=UNK):
 Pu T 26 [.agg #[.slice a l.length c, .int .i64 kerf], .int .i64 w, .int .i64 ht, .slice qa ns.length qc] h (.tuple #[.int .i64 (if plannedE kerf l w ht ns=0 then w*ht-(planS kerf l (w,ht) ns).cells else 0), .int .i64 (plannedE kerf l w ht ns)]):=by
 refine .of F.toFnsTr.p F.f26 hr rfl ?_
 have hx:Ext h (h.push (.cells [.slice a l.length c, .int .i64 kerf] true 1)):=(Ext.refl h).push _
 have C:=planned85 F.toFnsPd (w:=w) (ht:=ht) (kerf:=kerf) hn hlen (.of (hx.wf hr.wf)) ((hs.ext hx).log []) ((hns.ext hx).log []) (fun b o n e=>by
  obtain⟨vs,own,g⟩:=hu b o n e
  exact⟨vs,own,(hx.old _ (WF.get_lt hr.wf g)).trans g⟩) hqc
 have hB:=plannedS_bd (kerf:=kerf) (l:=l) (w:=w) (ht:=ht) hlen
 have hZ:plannedE kerf l w ht ns=0→asked kerf l (OnB w ht)=0∧plannedS kerf l w ht ns=planS kerf l (w,ht) ns:=fun h=>⟨(plannedE_zero h).1,(plannedE_zero h).2.1⟩
 generalize plannedS kerf l w ht ns=s at*
 generalize planS kerf l (w,ht) ns=s2 at*
 generalize plannedE kerf l w ht ns=er at*
 have hl:=hB.len
 have hce:=hB.cells
 clear hB
 obtain⟨ok,wo,ce,de,us⟩:=s
 dsimp only at hl hce
 refine y4 ?_;refine yB ?_;refine yM ?_;refine yM ?_;refine y3 ?_;refine y4 ?_
 refine yN ?_;refine yM ?_;refine yM ?_
 refine yM ?_
 refine yC ?_
 refine FW.pu C ?_
 clear C
 refine yM ?_;refine yE ?_;refine yE ?_;refine wO_val a_new ?_
 refine wO_val (a_storeAll (cs:=smC ⟨ok,wo,ce,de,us⟩) (vs:=smC sm0) (by exact rfl) (by exact rfl) (by(simp(disch:=first|omega|(simp only[z1,z2];omega)|(simp only[z1,z2];done)|fail)only[z8,z4,z5,z9,z7,z1,z2, *];exact rfl)) (smC_len hl) rfl (ones_smC _)) ?_
 by_cases he:er=0
 ·subst he
  obtain⟨ha,rfl⟩:=hZ rfl
  obtain⟨hc,hb⟩:=asked_zero ha
  obtain⟨⟨e1,e2⟩,e3,e4⟩:=hb
  have h1:=Int.mul_nonneg (show(0:Int)≤w by omega) (show(0:Int)≤ht by omega)
  have h2:=Int.mul_le_mul e2 e4 (by omega) (by omega)
  have hsub:numOp .sub (.int .i64 (w*ht)) (.int .i64 ce)=some (.int .i64 (w*ht-ce)):=m_sub (by rw[wrapA_i64]<;>omega)
  have hmul:numOp .mul (.int .i64 w) (.int .i64 ht)=some (.int .i64 (w*ht)):=by
   simp[numOp,arith,wrapA_i64 (show -9223372036854775808≤w*ht by omega) (show w*ht<9223372036854775808 by omega)]
  clear hZ h1 h2
  rw[if_pos rfl]
  refine yM ?_;refine y3 ?_;refine wE_seq ?_;refine y4 ?_;refine yM ?_;refine yf ?_;refine y3 ?_;refine yX ?_;refine wE_skip ?_;refine kS_n ?_;refine y4 ?_;refine yM ?_;refine yM ?_;refine wO_val (a_num (by exact rfl) (by exact rfl) (by with_reducible assumption)) ?_
  refine yF ?_;refine yL ?_
  refine wO_val (a_num (by exact rfl) (by exact rfl) (by with_reducible assumption)) ?_;refine yM ?_;refine yM ?_;refine y3 ?_;refine wE_ret ?_
  refine endP_ret ?_ rfl rfl
  simp(disch:=first|omega|(simp only[z1,z2];omega))only[Heap.log_wr_new,Heap.log_push]
  exact hr.log
 ·rw[if_neg he]
  refine yM ?_;refine y3 ?_;refine wE_seq ?_;refine y4 ?_;refine yM ?_;refine yt ?_;refine y3 ?_;refine yY ?_;refine y4 ?_;refine yM ?_;refine yM ?_;refine yM ?_;refine y3 ?_;refine wE_ret ?_;refine kS_r ?_
  refine endP_ret ?_ rfl rfl
  simp(disch:=first|omega|(simp only[z1,z2];omega))only[Heap.log_wr_new,Heap.log_push]
  exact hr.log
end Go.A.Pk
end
section
set_option maxRecDepth 100000
namespace Go.A.Pk
variable {T:Nat→Option AFunc}
structure FnsFi (T:Nat→Option AFunc):Prop extends FnsSh T,FnsRF T,FnsFl T,FnsRFl T,FnsWs T where
 f3:T 3=some f3
 c19:∀{h:Heap},Rdy h→Pu T 19 [] h (.bool true)
set_option maxHeartbeats 16000000 in
theorem law3(F:FnsFi T){h:Heap}(hr:Rdy h){a:Option Addr}{n c:Nat}{l:List Kd}(hs:SliceOf h 5 (.slice a n c) n (kcs l))(kerf w ht dp:Int):
 Pu T 3 [.agg #[.slice a n c, .int .i64 kerf], .int .i64 w, .int .i64 ht, .int .i64 dp] h (.bool true):=by
 have hp:=F.toFnsW.toFnsV.p
 refine .of hp F.f3 hr rfl ?_
 have hx:Ext h (h.push (.cells [.slice a n c, .int .i64 kerf] true 1)):=(Ext.refl h).push _
 obtain rfl:n=l.length:=by have:=hs.len;rw[kcs_length]at this;omega
 refine y4 ?_;refine yB ?_;refine yM ?_;refine y3 ?_;refine wE_seq ?_;refine y4 ?_
 refine yN ?_
 refine yC ?_
 refine FW.pu (few18 F.toFnsW.toFnsE.toFnsC (.of (hx.wf hr.wf)) kerf) ?_
 by_cases hfew:l.length≤16
 ·have hn:l.length<1000000:=by omega
  rw[decide_eq_true hfew]
  have C1:=shallow20 F.toFnsSh (.of (hx.wf hr.wf)) ((hs.ext hx).log []) kerf hn w ht dp
  have C2:=rshallow21 F.toFnsRF (.of (hx.wf hr.wf)) ((hs.ext hx).log []) kerf hn w ht dp
  have C3:=enough22 F.toFnsSh (.of (hx.wf hr.wf)) ((hs.ext hx).log []) kerf hn w ht
  have C4:=renough23 F.toFnsRF (.of (hx.wf hr.wf)) ((hs.ext hx).log []) kerf hn w ht
  unfold shalR at C1 C2
  unfold enR at C3 C4
  generalize(if asked kerf l (OnD w ht dp)=0 then ShF kerf (wsP l) l dp.toNat (w,ht)else 0)=x1 at C1 C2
  generalize asked kerf l (OnD w ht dp)=x2 at C1 C2
  generalize(if asked kerf l (OnB w ht)=0 then(enoughD (fun d=>ShF kerf (wsP l) l d (w,ht)) (bestV kerf l w ht):Nat)else 0)=x3 at C3 C4
  refine yA ?_;refine y3 ?_;refine yX ?_;refine wE_skip ?_;refine kS_n ?_;refine y4 ?_
  refine yN ?_;refine yM ?_;refine yM ?_
  refine yM ?_
  refine yC ?_
  refine FW.pu C1 ?_
  refine yM ?_;refine yE ?_;refine yE ?_;refine yM ?_;refine yM ?_;refine y3 ?_;refine y4 ?_;refine yN ?_;refine yM ?_
  refine yM ?_;refine yM ?_
  refine yC ?_
  refine FW.pu C2 ?_
  clear C1 C2
  refine yM ?_;refine yE ?_;refine yE ?_;refine yM ?_;refine yM ?_;refine y3 ?_;refine y4 ?_;refine yN ?_;refine yM ?_
  refine yM ?_
  refine yC ?_
  refine FW.pu C3 ?_
  refine yM ?_;refine yE ?_;refine yE ?_;refine yM ?_;refine yM ?_;refine y3 ?_;refine y4 ?_;refine yN ?_;refine yM ?_
  refine yM ?_
  refine yC ?_
  refine FW.pu C4 ?_
  clear C3 C4
  refine yM ?_;refine yE ?_;refine yE ?_;refine yM ?_;refine yM ?_;refine y3 ?_;refine y4 ?_;refine yN ?_;refine yM ?_
  refine yM ?_
  refine yC ?_
  refine FW.al (fill24 F.toFnsFl (.of (hx.wf hr.wf)) ((hs.ext hx).log []) kerf hn w ht) (fun v h' m q=>FillO.log v h' m q) ?_
  rintro _ h4 hx4 ⟨ns,pa,pc,rfl,sp,⟨up,uc⟩,rp,rn⟩
  have hx14:=hx.trans hx4
  have k14:h.next<h4.next:=hx4.next
  have G6:h4.get h.next=some (.cells [.slice a l.length c, .int .i64 kerf] true 1):=by rw[hx4.old _ (by(simp only[z1,z2];omega))];(simp(disch:=first|omega|(simp only[z1,z2];omega))only[z3,z4,z5,z6,z7,z1,z2, *];exact rfl)
  have C5:=rfill25 F.toFnsRFl (.of (hx14.wf hr.wf)) ((hs.ext hx14).log []) kerf hn w ht
  have C6:asked kerf l (OnB w ht)=0→Pu T 26 [.agg #[.slice a l.length c, .int .i64 kerf], .int .i64 w, .int .i64 ht, .slice pa ns.length pc] {h4 with log:=[]} (.tuple #[.int .i64 (w*ht-bestV kerf (cl l) w ht), .int .i64 0]):=fun ha=>by
   obtain⟨hc,hb⟩:=asked_zero ha
   have R:=rp ha
   obtain⟨b1,b2⟩:=planS_fill hc hb R
   have hlen:=plan_len (chk_iff.1 hc).2.1.1 R
   have hlen':ns.length≤1000:=by
    obtain⟨⟨y1,y2⟩,y3,y4⟩:=hb
    have:areaN (w,ht)≤16*16:=Nat.mul_le_mul (by show w.toNat≤16;omega) (by show ht.toNat≤16;omega)
    omega
   have C:=waste26 F.toFnsWs (w:=w) (ht:=ht) (kerf:=kerf) (ns:=nI ns) (qa:=pa) (qc:=pc) hn (by rw[nI_len];exact hlen') (.of (hx14.wf hr.wf)) ((hs.ext hx14).log []) (by rw[nI_len,nI,←ncs_ncI];exact sp.log []) (by rw[nI_len];exact up) (uc.symm)
   have he:plannedE kerf l w ht (nI ns)=0:=by unfold plannedE;rw[if_pos ha,if_pos b1]
   rw[he,if_pos rfl,nI_len,b2]at C
   exact C
  clear rp sp up uc
  generalize hgx:(if asked kerf l (OnB w ht)=0 then w*ht-bestV kerf (cl l) w ht else 0)=x4 at C5⊢
  refine yM ?_;refine yE ?_;refine yE ?_;refine yE ?_;refine yM ?_;refine yM ?_;refine yM ?_;refine y3 ?_;refine y4 ?_;refine yN ?_;refine yM ?_;refine yM ?_
  refine yC ?_
  refine FW.pu C5 ?_
  clear C5
  by_cases ha:asked kerf l (OnB w ht)=0
  ·rw[if_pos ha]at hgx
   have C7:=C6 ha
   rw[hgx]at C7
   rw[ha]
   clear C6 hgx rn ha
   refine yM ?_;refine yE ?_;refine yE ?_;refine yM ?_;refine yM ?_;refine y3 ?_;refine wE_seq ?_
   refine y4 ?_;refine yM ?_;refine yM ?_;refine yf ?_;refine yM ?_;refine yO ?_;refine yM ?_;refine yO ?_;refine yM ?_
   refine yO ?_;refine yf ?_;refine yU ?_;refine yM ?_;refine yO ?_;refine yM ?_;refine yO ?_;refine yM ?_;refine yO ?_
   refine yf ?_;refine yU ?_;refine yM ?_;refine yO ?_;refine yM ?_;refine yO ?_;refine yM ?_;refine yO ?_
   refine yf ?_;refine yU ?_;refine yM ?_;refine yO ?_;refine yM ?_;refine yO ?_;refine yM ?_;refine yO ?_
   refine yf ?_;refine yU ?_;refine yM ?_;refine yO ?_;refine yM ?_;refine yO ?_;refine yM ?_;refine yO ?_
   refine yf ?_;refine yU ?_;refine y3 ?_;refine yX ?_;refine wE_skip ?_;refine kS_n ?_;refine wE_seq ?_;refine y4 ?_;refine yM ?_;refine yf ?_;refine y3 ?_;refine yX ?_;refine wE_skip ?_;refine kS_n ?_;refine y4 ?_
   refine yN ?_;refine yM ?_;refine yM ?_;refine yM ?_
   refine yC ?_
   refine FW.pu C7 ?_
   clear C7
   refine yM ?_;refine yE ?_;refine yE ?_;refine yM ?_;refine yM ?_;refine y3 ?_;refine y4 ?_
   refine yC ?_
   refine FW.pu (F.c19 (.of (hx14.wf hr.wf))) ?_
   refine yM ?_;refine yO ?_;refine yM ?_;refine yO ?_;refine yt ?_;refine yT ?_;refine yM ?_;refine yO ?_;refine yM ?_
   refine yO ?_;refine yM ?_;refine yO ?_;refine yt ?_;refine yT ?_;refine yM ?_;refine y3 ?_;refine wE_ret ?_
   exact endP_ret (hx14.log.trans hr.log) rfl rfl
  ·obtain rfl:=rn ha
   clear C6 hgx rn
   refine yM ?_;refine yE ?_;refine yE ?_;refine yM ?_;refine yM ?_;refine y3 ?_;refine wE_seq ?_
   refine y4 ?_;refine yM ?_;refine yM ?_;refine yf ?_;refine yM ?_;refine yO ?_;refine yM ?_;refine yO ?_;refine yM ?_
   refine yO ?_;refine yf ?_;refine yU ?_;refine yM ?_;refine yO ?_;refine yM ?_;refine yO ?_;refine yM ?_;refine yO ?_
   refine yf ?_;refine yU ?_;refine yM ?_;refine yO ?_;refine yM ?_;refine yO ?_;refine yM ?_;refine yO ?_
   refine yf ?_;refine yU ?_;refine yM ?_;refine yO ?_;refine yM ?_;refine yO ?_;refine yM ?_;refine yO ?_
   refine yf ?_;refine yU ?_;refine yM ?_;refine yO ?_;refine yM ?_;refine yO ?_;refine yM ?_;refine yO ?_
   refine yf ?_;refine yU ?_;refine y3 ?_;refine yX ?_;refine wE_skip ?_;refine kS_n ?_;refine wE_seq ?_;refine y4 ?_;refine yM ?_;refine yt ?_;refine y3 ?_;refine yY ?_;refine y4 ?_
   refine yC ?_
   refine FW.pu (F.c19 (.of (hx14.wf hr.wf))) ?_
   refine yM ?_;refine yO ?_;refine yM ?_;refine yO ?_;refine yD ?_;refine yO ?_;refine wO_val (a_num (by exact rfl) (by exact rfl) (by exact m_eql)) ?_;refine yT ?_;refine yM ?_
   refine y3 ?_;refine wE_ret ?_;refine kS_r ?_
   exact endP_ret (hx14.log.trans hr.log) rfl rfl
 ·rw[decide_eq_false hfew]
  refine yA ?_;refine y3 ?_;refine yY ?_;refine y4 ?_
  refine yC ?_
  refine FW.pu (F.c19 (.of (hx.wf hr.wf))) ?_
  refine yM ?_;refine y3 ?_;refine wE_ret ?_;refine kS_r ?_
  exact endP_ret (hx.log.trans hr.log) rfl rfl
end Go.A.Pk
end
section
set_option maxRecDepth 100000
open Go Go.A Go.Proofs
namespace Go.A.Pk
theorem ok19:Entry Tryz.prog 19 (.prim (pConst (.bool true))):= .prim (pConst_ok sound Tryz.func19 (of_decide_eq_true (by kernel_rfl)) (by kernel_rfl) (of_decide_eq_true (by kernel_rfl)) (by kernel_rfl) rfl StkQ.run)
end Go.A.Pk
end
section
namespace Go.A
open Go.ChangeShapes Go.WideShapes Go.ChangeAt Go.RowKit
section
variable {H:Type} {enc:TypeId×Value→H} {P:Program}
theorem trodAll_stays(hl:laidOutB P=true){W W':World}(hb:Below W.heap.size W W'):∀{ts:List TypeId} {vs:List Value} {ds:List (DataW H)} {ps:List MemPlace},(∀t∈ts,P.readableRec t=true∧t<P.types.size)→DataW.TrodAll enc P W 0 (fun _=>true) true ts vs ds ps→
 (∀x∈ps,x.block<W.heap.size)→DataW.TrodAll enc P W' 0 (fun b=>decide (b<W.heap.size)) true ts vs ds ps
 |[],vs,ds,ps,_,h,_=>by
  obtain⟨rfl,rfl,rfl⟩:=trodAll_nil h
  exact trodAll_mk0
 |t::ts,vs,ds,ps,hr,h,hlt=>by
  obtain⟨v,vs',d,ds',p,q,rfl,rfl,rfl,hd,hrest⟩:=trodAll_cons h
  have h1:=hr t (List.mem_cons_self ..)
  exact⟨p,q,Below.trod hl h1.1 h1.2 hd hb fun x hx=>hlt x (List.mem_append_left _ hx),trodAll_stays hl hb (fun t ht=>hr t (List.mem_cons_of_mem _ ht)) hrest fun x hx=>hlt x (List.mem_append_right _ hx),rfl⟩
theorem law_post{f:Func}{s:ChangeSpec}{W W':World}{args:Array Value}{ds gs:List (DataW H)}{before:List MemPlace}{tb:TypeId}(hW:DataW.Whole enc P f.params.toList s.vars false W args.toList ds gs before)(hv:s.vars=[])
 (hfn:(s.fn H ds).results=[.lit (.bool true)]∧(s.fn H ds).args=ds∧(s.fn H ds).vars=[])(hl:laidOutB P=true)(hr:∀t∈f.params.toList,P.readableRec t=true∧t<P.types.size)(hres:f.resultTypes= #[tb])(htb:P.underlying tb=some .bool)(hb:Below W.heap.size W W'):
 s.post enc P f false true false false W args (.bool true) W':=by
 have hW':=hW
 obtain⟨p,q,hA,hV,hpq,hz,hn⟩:=hW
 rw[hv]at hV
 obtain⟨rfl,rfl⟩:=trodVars_none hV
 have hbp:before=p:=by simpa using hpq
 subst hbp
 obtain⟨h1,h2,h3⟩:=hfn
 have hlt:∀x∈before,x.block<W.heap.size:=fun x hx=>by simpa using hW'.lt x hx
 refine⟨ds,[],before,[],before,[],hW',?_,?_,?_,hb.frame _,fun h=>by cases h⟩
 ·rw[List.append_nil,h1,hres]
  exact trodAll_cons_mk (shut_bool htb _) trodAll_mk0
 ·rw[List.append_nil,h2]
  exact trodAll_stays hl hb hr hA hlt
 ·rw[List.append_nil,h3,hv]
  rfl
end
end Go.A
end
section
set_option maxRecDepth 100000
namespace Go.A.Pk
open Go Go.Proofs Go.Joins Go.ChangeShapes Go.WideShapes Go.RowKit Go.Deep
instance:Inhabited Kd:=⟨⟨0,0,0,0,false⟩⟩
inductive KindsAt (W:World):Value→List Kd→Prop
 |nil:KindsAt W (.slice none 0 0) []
 |empty {b o cap c el fz}:W.heap[b]? =some (.cells c el fz)→cap<UNK→KindsAt W (.slice (some ⟨b,o,none⟩) 0 cap) []
 |full {b o cap c el fz} {l:List Kd}:W.heap[b]? =some (.cells c el fz)→l≠[]→l.length≤cap→cap<UNK→(∀j,j<l.length*5→c[o+j]? =(kcs l)[j]?)→KindsAt W (.slice (some ⟨b,o,none⟩) l.length cap) l
theorem kcs_get:∀{l:List Kd} {i:Nat} {k:Kd} {j:Nat},l[i]? =some k→j<5→(kcs l)[i*5+j]? =(kc k)[j]?
 |[],i,k,j,h,_=>by simp at h
 |x::l,0,k,j,h,hj=>by
  simp only[List.getElem?_cons_zero,Option.some.injEq]at h
  subst h
  simp only[kcs,Nat.zero_mul,Nat.zero_add]
  rw[List.getElem?_append_left (by simpa[kc]using hj)]
 |x::l,i+1,k,j,h,hj=>by
  rw[List.getElem?_cons_succ]at h
  have:=kcs_get (l:=l) h hj
  simp only[kcs]
  rw[List.getElem?_append_right (by simp[kc];omega),←this]
  congr 1
  simp[kc];omega
section
variable {H:Type} {enc:TypeId×Value→H} {W:World} {base:Nat} {spare:Nat→Bool} {held:Bool}
theorem cells3:Tryz.prog.cellsOf 3=1:=by kernel_rfl
theorem cells4:Tryz.prog.cellsOf 4=1:=by kernel_rfl
theorem cells69:Tryz.prog.cellsOf 69=5:=by kernel_rfl
theorem kind_cells{fuel:Nat}{cs:List Value}{x:DataW H×List MemPlace}(h:DataW.trod enc Tryz.prog W base spare held fuel 69 cs=some x):∃k:Kd,cs=kc k:=by
 obtain⟨xs,n,_,hx,hcl,hlen,hg⟩:=DataW.trod_struct Tryz.underlying69 h
 rw[cells69]at hcl
 match cs,hcl with
 |[c0,c1,c2,c3,c4],_=>
  match xs,hlen with
  |[y0,y1,y2,y3,y4],_=>
   have g0:DataW.trod enc Tryz.prog W base spare held n 3 [c0]=some y0:=by have:=hg 0 _ rfl;simpa[cells3]using this
   have g1:DataW.trod enc Tryz.prog W base spare held n 3 [c1]=some y1:=by have:=hg 1 _ rfl;simpa[cells3]using this
   have g2:DataW.trod enc Tryz.prog W base spare held n 3 [c2]=some y2:=by have:=hg 2 _ rfl;simpa[cells3]using this
   have g3:DataW.trod enc Tryz.prog W base spare held n 3 [c3]=some y3:=by have:=hg 3 _ rfl;simpa[cells3]using this
   have g4:DataW.trod enc Tryz.prog W base spare held n 4 [c4]=some y4:=by have:=hg 4 _ rfl;simpa[cells4]using this
   obtain⟨a0,h0,_⟩:=DataW.trod_int Tryz.underlying3 g0
   obtain⟨a1,h1,_⟩:=DataW.trod_int Tryz.underlying3 g1
   obtain⟨a2,h2,_⟩:=DataW.trod_int Tryz.underlying3 g2
   obtain⟨a3,h3,_⟩:=DataW.trod_int Tryz.underlying3 g3
   obtain⟨a4,h4,_⟩:=DataW.trod_bool Tryz.underlying4 g4
   cases h0;cases h1;cases h2;cases h3;cases h4
   exact⟨⟨a0,a1,a2,a3,a4⟩,rfl⟩
theorem add_eq(b o n:Nat):(Addr.mk b o none).add n=⟨b,o+n,none⟩:=by
 unfold Addr.add
 by_cases h:n=0
 ·rw[if_pos h,h,Nat.add_zero]
 ·rw[if_neg h]
theorem open_saw{v:Value}{d:DataW H}{p:List MemPlace}(hv:Value.okWide Tryz.prog W .any base 24 v)(h:DataW.Trod enc Tryz.prog W 0 (fun _=>true) held 24 v d p)(hz:∀n∈d.weights Tryz.prog 24,n≤reachBytes):∃sl kerf l,v= .agg #[sl, .int .i64 kerf]∧KindsAt W sl l:=by
 have hv0:=hv
 obtain⟨v0,v1,y0,y1,n,rfl,hd,_,h0,h1⟩:=open_agg2 Tryz.underlying24 (by kernel_rfl) (by kernel_rfl) hv h
 obtain⟨kerf,hk,_⟩:=DataW.trod_int Tryz.underlying3 h1
 cases hk
 have hcell:Cell.okWide Tryz.prog W .any base 22 v0:=by
  simp only[Value.okWide,Tryz.underlying24]at hv0
  obtain⟨cs,hcs,_,ts,hts,_,hrow⟩:=hv0
  cases hcs
  have e:Tryz.prog.cellTypes Tryz.prog.depth 24=some [22,3]:=by kernel_rfl
  rw[e]at hts
  cases hts
  obtain⟨u,hu,hc⟩:=hrow 0 v0 rfl
  cases hu
  exact hc
 rcases open_slice Tryz.underlying22 h0 with⟨h2,_⟩|⟨a,len,cap,m,n',D,Pl,h2,_,hl,hcap,hm,hy,hx⟩
 ·cases h2
  exact⟨_,kerf,[],rfl, .nil⟩
 ·cases h2
  simp only[Cell.okWide,Cell.ok,Tryz.underlying22,World.has]at hcell
  obtain⟨_,_,_,hspot,row,cells,hsh,_⟩:=hcell
  obtain⟨b,o,sp⟩:=a
  simp only at hspot hsh
  subst hspot
  rw[if_pos rfl]at hm
  subst hm
  have hcapU:m<UNK:=by
   have e40:Tryz.prog.bytesOf 69=40:=by kernel_rfl
   have:=hz (m*40) (by
    rw[hd,hy]
    simp only[DataW.weights,Tryz.underlying24,DataW.weightsEach,Tryz.underlying22,List.map_cons,List.map_nil,e40,List.length_map,List.length_range,show len+(m-len)=m by omega]
    simp)
   unfold reachBytes at this
   unfold UNK;omega
  obtain⟨c,el,fz,hheap⟩:∃c el fz,W.heap[b]? =some (.cells c el fz):=by
   unfold World.shape? at hsh
   split at hsh
   ·rename_i c el fz he;exact⟨c,el,fz,he⟩
   ·cases hsh
  have hlm:len≤m:=hl
  obtain⟨f,hf⟩:=choose_lt (α:=Kd) (n:=len) (p:=fun i k=>∀j,j<5→c[o+(i*5+j)]? =(kc k)[j]?) (fun i hi=>by
   obtain⟨cs',hc,ht⟩:=hx i (by omega)
   obtain⟨k,hk⟩:=kind_cells ht
   subst hk
   refine⟨k,fun j hj=> ?_⟩
   rw[cells69]at hc
   obtain⟨_,_,hat⟩:=World.cells?_some hc
   have:=hat j hj
   rw[add_eq,add_eq]at this
   rw[←this,Nat.add_assoc]
   unfold World.cell?
   simp only[hheap]
   rfl)
  by_cases h0:len=0
  ·subst h0
   exact⟨_,kerf,[],rfl, .empty hheap hcapU⟩
  ·have hlen:((List.range len).map f).length=len:=by simp
   refine⟨_,kerf,(List.range len).map f,rfl,?_⟩
   have:=KindsAt.full (W:=W) (o:=o) (cap:=m) (l:=(List.range len).map f) hheap (by intro e;rw[e]at hlen;simp at hlen;omega) (by omega) hcapU (fun j hj=>by
    rw[hlen]at hj
    have h5:j / 5<len:=by omega
    have e1:j=j / 5*5+j % 5:=by omega
    have g1:=hf (j / 5) h5 (j % 5) (by omega)
    have g2:=kcs_get (l:=(List.range len).map f) (i:=j / 5) (k:=f (j / 5)) (j:=j % 5) (by simp[h5]) (by omega)
    rw[←e1]at g1 g2
    rw[g1,g2])
   rw[hlen]at this
   exact this
end
end Go.A.Pk
end
section
set_option maxRecDepth 100000
namespace Go.A.Pk
open Go Go.Proofs Go.RowKit
theorem R.single{P:Program}{W:World}{n b d:Nat}{vs:List Value}{sz e:Nat}{c:Array Value}{el:TypeId}{fz:Nat×Nat}(hn:P.globals.size≤n)(hW:W.heap[b]? =some (.cells c el fz))(h1:d+vs.length≤e)(h2:e≤c.size)
 (hv:∀i,i<vs.length→∃v',c[d+i]? =some v'∧VR (fun x=>if x=n then some ⟨b,d,e,sz⟩else none) (gv vs i) v'):R P (fun x=>if x=n then some ⟨b,d,e,sz⟩else none) ⟨[(n, .cells vs false sz)],n+1,[]⟩ W:=by
 have hg:∀x o,(⟨[(n, .cells vs false sz)],n+1,[]⟩:Heap).get x=some o→x=n∧o= .cells vs false sz:=fun x o hx=>by
  simp only[Heap.get,getO,cond_eq_ite,beq_eq,decide_eq_true_eq]at hx
  split at hx
  ·rename_i he;cases hx;exact⟨he.symm,rfl⟩
  ·cases hx
 refine⟨Nat.le_succ_of_le hn,fun g o hgs hx=> ?_,fun x o hx=> ?_,fun x o hx=> ?_,fun x k hk=> ?_,fun x y o o' k k' hne hx hy=> ?_⟩
 ·obtain⟨rfl,_⟩:=hg _ _ hx;omega
 ·obtain⟨rfl,rfl⟩:=hg _ _ hx
  intro k hk
  dsimp only at hk
  rw[if_pos rfl]at hk
  cases hk
  exact⟨rfl,c,el,fz,hW,h1,h2,hv,fun h=>by cases h⟩
 ·obtain⟨rfl,_⟩:=hg _ _ hx;exact Nat.lt_succ_self _
 ·split at hk
  ·rename_i he;subst he;cases hk
   exact⟨Nat.lt_succ_self _,(Array.getElem?_eq_some_iff.1 hW).1⟩
  ·cases hk
 ·obtain⟨rfl,_⟩:=hg _ _ hx
  obtain⟨rfl,_⟩:=hg _ _ hy
  exact(hne rfl).elim
theorem St.below{μ μ':Mu}{h h':Heap}{W W':World}(s:St μ h W μ' h' W')(hro:∀b o,h.get b=some o→o.ro=true∨o.live=false):Below W.heap.size W W':=
 ⟨s.same.os,s.same.tape,s.same.out,s.le,fun r hr=>s.keep r hr fun⟨b,o,k,g1,g2,g3,_⟩=>by
  rcases hro b o g1 with q|q
  ·rw[q]at g3;cases g3
  ·rw[q]at g2;cases g2⟩
structure Laid (W:World) (sl:Value) (l:List Kd) (h:Heap) (μ:Mu) (v:Value) (n c:Nat) (a:Option Addr):Prop where
 rel:R Tryz.prog μ h W
 ro:∀b o,h.get b=some o→o.ro=true∨o.live=false
 rdy:Rdy h
 val:VR μ v sl
 form:v= .slice a n c
 at':SliceOf h 5 (.slice a n c) n (kcs l)
theorem KindsAt.laid{W:World}{sl:Value}{l:List Kd}(hk:KindsAt W sl l):∃h μ v n c a,Laid W sl l h μ v n c a:=by
 have hg:Tryz.prog.globals.size≤8:=of_decide_eq_true (by kernel_rfl)
 have hro:∀vs,∀b o,(⟨[(8, .cells vs false 5)],9,[]⟩:Heap).get b=some o→o.ro=true∨o.live=false:=fun vs b o hx=>by
  simp only[Heap.get,getO,cond_eq_ite]at hx
  split at hx
  ·cases hx;exact .inl rfl
  ·cases hx
 have hrd:∀vs,Rdy (⟨[(8, .cells vs false 5)],9,[]⟩:Heap):=fun vs=>⟨⟨by simp,fun b hb=>by simp at hb;subst hb;show 8<9;omega⟩,rfl⟩
 cases hk with
 |nil=>
  exact⟨⟨[],8,[]⟩,fun _=>none, .slice none 0 0,0,0,none,R.none hg,(fun b o hx=>by cases hx),⟨⟨by simp,fun b hb=>by simp at hb⟩,rfl⟩, .sliceN _ _,rfl, .nil⟩
 | @empty b o cap c el fz hW hc=>
   refine⟨⟨[(8, .cells [] false 5)],9,[]⟩,fun x=>if x=8 then some ⟨b,0,0,5⟩else none, .slice (some ⟨8,o,none⟩) 0 cap,0,cap,some ⟨8,o,none⟩,R.single hg hW (Nat.le_refl _) (Nat.zero_le _) (fun i hi=>by simp at hi),hro _,hrd _,?_,rfl,?_⟩
   ·have:=VR.slice (μ:=fun x=>if x=8 then some (⟨b,0,0,5⟩:Blk)else none) (b:=8) (o:=o) (l:=0) (c:=cap) (k:=⟨b,0,0,5⟩) (by simp) hc (Nat.zero_le _)
    simpa using this
   ·refine .mem ⟨by show 8<9;omega,⟨[],false,5,rfl,?_⟩,rfl⟩ (Nat.zero_le _)
    cases o<;>rfl
 | @full b o cap c el fz _ hW hne hl hc hat=>
   have hlen:=kcs_length l
   have hpos:0<l.length:=List.length_pos_iff.2 hne
   have hsz:o+l.length*5≤c.size:=by
    have h1:=hat (l.length*5-1) (by omega)
    have h2:(kcs l)[l.length*5-1]? =some ((kcs l)[l.length*5-1]'(by omega)):=List.getElem?_eq_getElem _
    rw[h2]at h1
    have:=(Array.getElem?_eq_some_iff.1 h1).1
    omega
   refine⟨⟨[(8, .cells (kcs l) false 5)],9,[]⟩,fun x=>if x=8 then some ⟨b,o,o+l.length*5,5⟩else none, .slice (some ⟨8,0,none⟩) l.length cap,l.length,cap,some ⟨8,0,none⟩,R.single hg hW (by rw[hlen];exact Nat.le_refl _) hsz (fun i hi=> ?_),hro _,hrd _,?_,rfl,?_⟩
   ·rw[hlen]at hi
    have h2:(kcs l)[i]? =some ((kcs l)[i]'(by omega)):=List.getElem?_eq_getElem _
    refine⟨_,(hat i hi).trans h2,?_⟩
    have e:gv (kcs l) i=(kcs l)[i]'(by omega):=by unfold gv;rw[lget_eq,h2];rfl
    rw[e]
    refine(VR.noRef ?_).1
    have hflat:∀(l:List Kd),∀x∈kcs l,noRef x=true:=fun l=>by
     induction l with
     |nil=>intro x hx;cases hx
     |cons k l ih=>
      intro x hx
      simp only[kcs,kc,List.mem_append,List.mem_cons,List.not_mem_nil,or_false]at hx
      rcases hx with(rfl|rfl|rfl|rfl|rfl)|hx
      ·rfl
      ·rfl
      ·rfl
      ·rfl
      ·rfl
      ·exact ih x hx
    exact hflat l _ (List.getElem_mem _)
   ·have:=VR.slice (μ:=fun x=>if x=8 then some (⟨b,o,o+l.length*5,5⟩:Blk)else none) (b:=8) (o:=0) (l:=l.length) (c:=cap) (k:=⟨b,o,o+l.length*5,5⟩) (by simp) hc hl
    simpa using this
   ·refine .mem ⟨by show 8<9;omega,⟨kcs l,false,5,rfl,?_⟩,hlen⟩ hl
    rw[ltake_eq,ldrop_eq,List.drop_zero,List.take_of_length_le (by omega)]
end Go.A.Pk
end
section
set_option maxRecDepth 100000
open Go Go.A Go.Proofs Go.RowKit
namespace Go.A.Pk
theorem c3:compF Tryz.prog Tryz.f3 [[1,2,3,4],[1,2,3,4,26],[8],[1,2,3,4,9,10],[1,2,4,9,10,11,12],[1,2,4,9,10,11,12,13,14],[1,2,4,9,10,11,12,13,14,15,16],[1,2,4,9,10,11,12,13,14,15,16,17,18,19],[1,2,4,9,10,11,12,13,14,15,16,17,18,19,20,21],[1,2,4,18,20,21,100],[8],[1,2,4,18,20,102],[8],[20,22,23],[8]]=some f3:=by kernel_rfl
theorem c21:compF Tryz.prog Tryz.f21 [[1,2,3,4],[1,2,3,4,10],[1,2,3,4,10,22],[1,2,3,4,10],[1,2,3,4,10,24],[8,9],[1,2,11],[8,9]]=some f21:=by kernel_rfl
theorem c23:compF Tryz.prog Tryz.f23 [[1,2,3],[1,2,3,8],[1,2,3,8,19],[6,7],[1,2,3,9],[1,2,3,9,11],[1,2,3,9,11,29],[1,2,3,9,11,12],[1,2,3,9,11,42],[6,7],[1,2,3,9,11],[6,7]]=some f23:=by kernel_rfl
theorem c25:compF Tryz.prog Tryz.f25 [[1,2,3],[1,2,3,8],[1,2,3,8,16],[6,7],[1,2,9],[6,7]]=some f25:=by kernel_rfl
theorem c26:compF Tryz.prog Tryz.f26 [[1,2,3,4],[1,2,10,11],[1,2,10,11,21],[8,9],[8,9]]=some f26:=by kernel_rfl
theorem c33:compF Tryz.prog Tryz.f33 [[1,2,3],[1,2,3,8],[1,2,3,8,15],[6,7],[1,2,9],[6,7]]=some f33:=by kernel_rfl
theorem c52:compF Tryz.prog Tryz.f52 [[1,2],[1,2,3],[1,2,3,4],[1,2,3,4,13],[1,2,3,4,5],[1,2,3,4,5],[1,2,3,4],[1,2,3,4],[2]]=some f52:=by kernel_rfl
theorem c81:compF Tryz.prog Tryz.f81 [[1,2,4],[1,2,4,5],[1,2,4,5,6],[1,2,4,5,6,11],[1,2,4,5,6,7],[1,2,4,5,6,7,15],[1,2,4,5,6,7,8],[1,2,4,5,6,7,8,22],[1,2,4,5,6,7,8,32],[1,2,4,5,6,7,8],[1,2,4,5,6,7,8],[1,2,4,5,6,7],[1,2,4,5,6],[1,2,4,5,9],[1,2,4,5,9,51],[1,2,4,5,9],[1,2,4,5,9],[4]]=some f81:=by kernel_rfl
theorem c85:compF Tryz.prog Tryz.f85 [[1,2,3,4,8],[1,2,3,4,8,10],[1,2,3,4,8,10,17],[8,9],[8,11],[8,11,27],[8,9],[8,9]]=some f85:=by kernel_rfl
theorem c93:compF Tryz.prog Tryz.f93 [[1,2],[1,2,3],[1,2,3,4],[1,2,3,4,10],[1,2,3,4,5],[1,2,3,4,5,14],[1,2,3,4,5,6],[1,2,3,4,5,6,21],[1,2,3,4,5,6,31],[1,2,3,4,5,6],[1,2,3,4,5,6],[1,2,3,4,5,7],[1,2,3,4,5,7,50],[1,2,3,4,5,7],[1,2,3,4,5,7],[1,2,3,4,5,8],[1,2,3,4,5,8,82],[1,2,3,4,5,8],[1,2,3,4,5,8],[1,2,3,4,5],[1,2,3,4],[2]]=some f93:=by kernel_rfl
theorem c95:compF Tryz.prog Tryz.f95 [[1,2,3,4,8],[3,8,9,10],[8,9,27],[8],[8]]=some f95:=by kernel_rfl
theorem c112:compF Tryz.prog Tryz.f112 [[1,2,3],[6]]=some f112:=by kernel_rfl
theorem c124:compF Tryz.prog Tryz.f124 [[2,3,4],[2,3,4,5],[2,3,4,5,6],[2,3,4,5,6,12],[2,3,4,5,6,7],[2,3,4,5,6,7,16],[2,3,4,5,6,7,8],[2,3,4,5,6,7,8,21],[2,3,4,5,6,7,8],[2,3,4,5,6,7,8],[2,3,4,5,6,7,9],[2,3,4,5,6,7,9,53],[2,3,4,5,6,7,9],[2,3,4,5,6,7,9],[2,3,4,5,6,7],[2,3,4,5,6],[4]]=some f124:=by kernel_rfl
theorem c137:compF Tryz.prog Tryz.f137 [[1,2,3,4,8],[1,2,3,4,8,26],[8,9],[1,2,3,4,8,10],[1,2,3,4,8,10,32],[1,2,3,4,8,10,32,33],[8,9],[1,2,3,4,8,10,32,39],[1,2,3,4,8,10,32,39],[1,2,4,8,10,49],[8,9],[1,2,8,10,11],[1,2,8,10,11,12],[1,2,8,10,11,12,13],[8,10,14],[8,14],[8,9],[1,2,3,4,8,10,32,106],[1,2,3,4,8,10,106],[1,2,3,4,8,10,15],[1,2,3,4,8,10,15,16],[1,2,3,4,8,10,15,16,113],[1,2,3,4,8,10,15,16],[1,2,3,4,8,10,15,16,120],[8,9],[1,2,3,4,8,10,15,16,17],[1,2,3,4,8,10,15,16,17],[1,2,3,4,8,10,15,16,17,123],[1,2,3,4,8,10,15,16,17,18],[1,2,3,4,8,10,15,16,17,18],[1,2,3,4,8,10,15,16,17,18,146],[8,9],[1,2,3,4,8,15,17,18,19],[1,2,3,4,8,15,17,18,19,156],[8,17,18],[8,9],[1,2,3,4,8,15,17,18,19,20],[1,2,3,4,8,15,17,18,19,20],[1,2,3,4,8,17,18,19,20,165],[8,17,18,20,21],[8,17,18,20,21],[8,17,18,20,21,190],[8,9],[8,17,18,20,21,22],[8,17,18,20,21,22,23],[8,17,18,20,21,22,23,210],[8,17,18,20,21,22,23],[8,17,18,20,21,22,23],[8,9],[8,9]]=some f137:=by kernel_rfl
def tree3:Tr:=(.node (.node (.node (.node (.node (.node .nil 3 f3 .nil) 18 f18 (.node .nil 19 (.prim (pConst (.bool true))) .nil)) 20 f20 (.node (.node .nil 21 f21 .nil) 22 f22 .nil)) 23 f23 (.node (.node (.node .nil 24 f24 .nil) 25 f25 (.node .nil 26 f26 .nil)) 32 f32 (.node (.node .nil 33 f33 .nil) 52 f52 .nil))) 66 f66 (.node (.node (.node (.node .nil 67 f67 .nil) 75 f75 (.node .nil 76 f76 .nil)) 77 f77 (.node (.node .nil 78 f78 .nil) 79 f79 .nil)) 80 f80 (.node (.node (.node .nil 81 f81 .nil) 82 f82 .nil) 83 f83 (.node (.node .nil 84 f84 .nil) 85 f85 .nil)))) 93 f93 (.node (.node (.node (.node (.node .nil 94 f94 .nil) 95 f95 (.node .nil 96 f96 .nil)) 97 f97 (.node (.node .nil 99 f99 .nil) 104 f104 .nil)) 105 f105 (.node (.node (.node .nil 106 f106 .nil) 112 f112 (.node .nil 113 f113 .nil)) 117 f117 (.node (.node .nil 118 f118 .nil) 119 f119 .nil))) 122 f122 (.node (.node (.node (.node .nil 123 f123 .nil) 124 f124 (.node .nil 125 f125 .nil)) 126 f126 (.node (.node .nil 136 f136 .nil) 137 f137 .nil)) 140 f140 (.node (.node (.node .nil 141 f141 .nil) 147 f147 .nil) 149 f149 (.node (.node .nil 150 f150 .nil) 176 f176 .nil)))))
def T3:Nat→Option AFunc:=tree3.get
theorem all3:tree3.all (Entry Tryz.prog):=by
 unfold tree3
 exact(Tr.all_node (Tr.all_node (Tr.all_node (Tr.all_node (Tr.all_node (Tr.all_node Tr.all_nil (.of Tryz.func3 c3) Tr.all_nil) (.of Tryz.func18 c18) (Tr.all_node Tr.all_nil ok19 Tr.all_nil)) (.of Tryz.func20 c20) (Tr.all_node (Tr.all_node Tr.all_nil (.of Tryz.func21 c21) Tr.all_nil) (.of Tryz.func22 c22) Tr.all_nil)) (.of Tryz.func23 c23) (Tr.all_node (Tr.all_node (Tr.all_node Tr.all_nil (.of Tryz.func24 c24) Tr.all_nil) (.of Tryz.func25 c25) (Tr.all_node Tr.all_nil (.of Tryz.func26 c26) Tr.all_nil)) (.of Tryz.func32 c32) (Tr.all_node (Tr.all_node Tr.all_nil (.of Tryz.func33 c33) Tr.all_nil) (.of Tryz.func52 c52) Tr.all_nil))) (.of Tryz.func66 c66) (Tr.all_node (Tr.all_node (Tr.all_node (Tr.all_node Tr.all_nil (.of Tryz.func67 c67) Tr.all_nil) (.of Tryz.func75 c75) (Tr.all_node Tr.all_nil (.of Tryz.func76 c76) Tr.all_nil)) (.of Tryz.func77 c77) (Tr.all_node (Tr.all_node Tr.all_nil (.of Tryz.func78 c78) Tr.all_nil) (.of Tryz.func79 c79) Tr.all_nil)) (.of Tryz.func80 c80) (Tr.all_node (Tr.all_node (Tr.all_node Tr.all_nil (.of Tryz.func81 c81) Tr.all_nil) (.of Tryz.func82 c82) Tr.all_nil) (.of Tryz.func83 c83) (Tr.all_node (Tr.all_node Tr.all_nil (.of Tryz.func84 c84) Tr.all_nil) (.of Tryz.func85 c85) Tr.all_nil)))) (.of Tryz.func93 c93) (Tr.all_node (Tr.all_node (Tr.all_node (Tr.all_node (Tr.all_node Tr.all_nil (.of Tryz.func94 c94) Tr.all_nil) (.of Tryz.func95 c95) (Tr.all_node Tr.all_nil (.of Tryz.func96 c96) Tr.all_nil)) (.of Tryz.func97 c97) (Tr.all_node (Tr.all_node Tr.all_nil (.of Tryz.func99 c99) Tr.all_nil) (.of Tryz.func104 c104) Tr.all_nil)) (.of Tryz.func105 c105) (Tr.all_node (Tr.all_node (Tr.all_node Tr.all_nil (.of Tryz.func106 c106) Tr.all_nil) (.of Tryz.func112 c112) (Tr.all_node Tr.all_nil (.of Tryz.func113 c113) Tr.all_nil)) (.of Tryz.func117 c117) (Tr.all_node (Tr.all_node Tr.all_nil (.of Tryz.func118 c118) Tr.all_nil) (.of Tryz.func119 c119) Tr.all_nil))) (.of Tryz.func122 c122) (Tr.all_node (Tr.all_node (Tr.all_node (Tr.all_node Tr.all_nil (.of Tryz.func123 c123) Tr.all_nil) (.of Tryz.func124 c124) (Tr.all_node Tr.all_nil (.of Tryz.func125 c125) Tr.all_nil)) (.of Tryz.func126 c126) (Tr.all_node (Tr.all_node Tr.all_nil (.of Tryz.func136 c136) Tr.all_nil) (.of Tryz.func137 c137) Tr.all_nil)) (.of Tryz.func140 c140) (Tr.all_node (Tr.all_node (Tr.all_node Tr.all_nil (.of Tryz.func141 c141) Tr.all_nil) (.of Tryz.func147 c147) Tr.all_nil) (.of Tryz.func149 c149) (Tr.all_node (Tr.all_node Tr.all_nil (.of Tryz.func150 c150) Tr.all_nil) (.of Tryz.func176 c176) Tr.all_nil)))))
theorem sound3:SoundT Tryz.prog T3:=soundT_of (by kernel_rfl) all3
theorem pu19_3{h:Heap}:Pu T3 19 [] h (.bool true):= .prim (p:=pConst (.bool true)) (by kernel_rfl) rfl ⟨rfl,rfl⟩
theorem fns3:FnsFi T3:={p:=sound3.primAS,f77:=by kernel_rfl,f117:=by kernel_rfl,f119:=by kernel_rfl,f147:=by kernel_rfl,f118:=by kernel_rfl,f66:=by kernel_rfl,f18:=by kernel_rfl,f97:=by kernel_rfl,f122:=by kernel_rfl,f149:=by kernel_rfl,f75:=by kernel_rfl,f96:=by kernel_rfl,f113:=by kernel_rfl,f94:=by kernel_rfl,f104:=by kernel_rfl,f105:=by kernel_rfl,f106:=by kernel_rfl,f136:=by kernel_rfl,f140:=by kernel_rfl,f141:=by kernel_rfl,f83:=by kernel_rfl,f76:=by kernel_rfl,f32:=by kernel_rfl,f78:=by kernel_rfl,f20:=by kernel_rfl,f82:=by kernel_rfl,f22:=by kernel_rfl,f93:=by kernel_rfl,f112:=by kernel_rfl,f80:=by kernel_rfl,f67:=by kernel_rfl,f79:=by kernel_rfl,f99:=by kernel_rfl,f123:=by kernel_rfl,f33:=by kernel_rfl,f124:=by kernel_rfl,f81:=by kernel_rfl,f21:=by kernel_rfl,f23:=by kernel_rfl,f126:=by kernel_rfl,f150:=by kernel_rfl,f176:=by kernel_rfl,f125:=by kernel_rfl,f84:=by kernel_rfl,f24:=by kernel_rfl,f52:=by kernel_rfl,f25:=by kernel_rfl,f137:=by kernel_rfl,f95:=by kernel_rfl,f85:=by kernel_rfl,f26:=by kernel_rfl,f3:=by kernel_rfl,c19:=fun _=>pu19_3}
theorem fill_calls{W:World}{sl:Value}{l:List Kd}(hk:KindsAt W sl l)(kerf:Int)(i1:Int)(i2:Int)(i3:Int):Calls Tryz.prog 3 #[.agg #[sl, .int .i64 kerf], .int .i64 i1, .int .i64 i2, .int .i64 i3] W fun e W'=>e= .returned (.bool true)∧Below W.heap.size W W':=by
 obtain⟨h,μ,u,n,c,a,L⟩:=hk.laid
 obtain⟨r,h',⟨m,hm⟩,rfl,rfl⟩:=law3 fns3 L.rdy L.at' kerf i1 i2 i3
 have hrun:=hm m (Nat.le_refl _)
 have hu:VR μ (.slice a n c) sl:=L.form▸L.val
 have ha:LR μ [.agg #[.slice a n c, .int .i64 kerf], .int .i64 i1, .int .i64 i2, .int .i64 i3] [.agg #[sl, .int .i64 kerf], .int .i64 i1, .int .i64 i2, .int .i64 i3]:=
  .cons (VR.aggL (.cons hu (.cons (.int _ _) .nil))) (.cons (.int _ _) (.cons (.int _ _) (.cons (.int _ _) .nil)))
 refine(acall_calls sound3 hrun L.rdy.log (by kernel_rfl) L.rel ha).mono fun e W' hq=> ?_
 obtain⟨μ',q1,q2,q3⟩:=hq
 cases e with
 |returned v'=>
  have hv:VR μ' (.bool true) v':=q1
  cases hv
  exact⟨rfl,St.below q3 L.ro⟩
 |panicked _=>exact q1.elim
 |outgrown=>exact q1.elim
end Go.A.Pk
end
