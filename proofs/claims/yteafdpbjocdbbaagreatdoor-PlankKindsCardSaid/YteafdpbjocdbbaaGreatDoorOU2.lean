/- Walks of functions, plain laws, the table. -/
import Derived.Test.YteafdpbjocdbbaaGreatDoorOU1
import Derived.Test.YteafdpbjocdbbaaGreatDoorOU0
import Derived.Test.YteafdpbjocdbbaaGreatDoorOD
import Derived.Test.YteafdpbjocdbbaaGreatDoorOF
set_option linter.all false
section
set_option maxRecDepth 100000
namespace Go.A.Pk
variable {T:Nat→Option AFunc}
def idles(kerf:Int)(l:List Kd)(w ht:Int)(n:Nat):List Int:=((List.range n).filter fun i=>decide (kw kerf l i (w,ht) 0<kb kerf l i (w,ht) 0)).map fun i:Nat=>(i:Int)
theorem idles_succ(kerf:Int)(l:List Kd)(w ht:Int)(n:Nat):idles kerf l w ht (n+1)=idles kerf l w ht n++if kw kerf l n (w,ht) 0<kb kerf l n (w,ht) 0 then [(n:Int)]else []:=by
 unfold idles
 rw[List.range_succ,List.filter_append,List.map_append]
 congr 1
 by_cases hc:kw kerf l n (w,ht) 0<kb kerf l n (w,ht) 0<;>simp[hc]
theorem idles_len(kerf:Int)(l:List Kd)(w ht:Int):∀n,(idles kerf l w ht n).length≤n
 |0=>Nat.le_refl _
 |n+1=>by
  have:=idles_len kerf l w ht n
  rw[idles_succ,List.length_append]
  split
  ·simp;omega
  ·simp;omega
def idleL(kerf:Int)(l:List Kd)(w ht:Int):List Int:=if asked kerf l (OnB w ht)=0 then idles kerf l w ht l.length else []
def IntsQ(er:Int)(xs:List Int)(v:Value)(h:Heap):Prop:=∃a c,v= .tuple #[.slice a xs.length c, .int .i64 er]∧SliceOf h 1 (.slice a xs.length c) xs.length (ints xs)
theorem IntsQ.log{er:Int}{xs:List Int}(v:Value)(h':Heap)(m:List Nat)(q:IntsQ er xs v h'):IntsQ er xs v {h' with log:=m}:=by
 obtain⟨a,c,h1,h2⟩:=q
 exact⟨a,c,h1,h2.log m⟩
theorem IntsQ.gc{er:Int}{xs:List Int}{h:Heap}(v:Value)(h1:Heap)(hv:noRef v=true)(q:IntsQ er xs v h1):IntsQ er xs v h:=by
 obtain⟨a,c,rfl,h2⟩:=q
 refine⟨a,c,rfl,?_⟩
 generalize xs.length=n at*
 generalize ints xs=cs at*
 cases h2 with
 |nil=>exact .nil
 |mem s _=>simp[noRef,flatL,flat,scalL,scal,scal1]at hv
theorem IntsQ.ret{er:Int}{xs:List Int}{s:Value}{h:Heap}(hs:SliceOf h 1 s xs.length (ints xs)):IntsQ er xs (.tuple #[s, .int .i64 er]) h:=by
 have hi:=hs.inv
 rcases hi with⟨c,rfl,h0,_⟩|⟨b,o,c,rfl,_,_⟩
 ·refine⟨none,c,?_,?_⟩
  ·rw[h0]
  ·rw[h0]at hs⊢;exact hs
 ·exact⟨_,_,rfl,hs⟩
set_option maxHeartbeats 8000000 in
theorem idle44(F:FnsU T){h:Heap}(hr:Rdy h){a:Option Addr}{n c:Nat}{l:List Kd}(hs:SliceOf h 5 (.slice a n c) n (kcs l))(kerf:Int)(hn:n<1000000)(w ht:Int):Al T 44 [.agg #[.slice a n c, .int .i64 kerf], .int .i64 w, .int .i64 ht] h (IntsQ (asked kerf l (OnB w ht)) (idleL kerf l w ht)):=by
 have hp:=F.toFnsT.toFnsV.p
 refine .of hp F.f44 hr IntsQ.gc ?_
 have hx:Ext h (h.push (.cells [.slice a n c, .int .i64 kerf] true 1)):=(Ext.refl h).push _
 obtain rfl:n=l.length:=by have:=hs.len;rw[kcs_length]at this;omega
 refine y4 ?_;refine yB ?_;refine yM ?_;refine yM ?_;refine y3 ?_;refine wE_seq ?_;refine wE_draw ?_
 refine qN ?_
 refine qM ?_;refine qM ?_
 refine qC ?_
 refine FW.puD (board76 F.toFnsW (.of (hx.wf hr.wf)) w ht) (by apply ra_dropC rfl;apply ra_dropC rfl;apply ra_keepC rfl (rq_quiet rfl (a_loadN (by exact rfl) (by(simp(disch:=first|omega|(simp only[z1,z2];omega))only[z3,z4,z5,z6,z7,z1,z2, *];exact rfl)) (by exact rfl) (by exact rfl)) (by exact sv_agg (by refine sl_cons (s1_slice _ _ _) ?_;refine sl_cons (s1_int _ _) ?_;exact sl_nil))) rfl;exact ra_nil) ?_
 refine wD_new rfl rfl rfl (by exact rfl) (by exact rfl) (by exact rfl) (a_bslice (by exact rfl) (by exact rfl)) (by refine rs_cons (rq_quiet rfl (a_loadN (by exact rfl) (by(simp(disch:=first|omega|(simp only[z1,z2];omega))only[z3,z4,z5,z6,z7,z1,z2, *];exact rfl)) (by exact rfl) (by exact rfl)) (by exact sv_agg (by refine sl_cons (s1_slice _ _ _) ?_;refine sl_cons (s1_int _ _) ?_;exact sl_nil))) ?_;exact rs_nil) ?_
 refine qC ?_
 have hx2:=hx.push (.cells [.bool (decide (OnB w ht))] true 1)
 refine FW.alD (startedB75 F.toFnsW.toFnsE (.of (hx2.wf hr.wf)) ((hs.ext hx2).log []) kerf hn (bl:=[decide (OnB w ht)]) (m:=1) (.mem ⟨Nat.lt_succ_self _,⟨_,_,_,z3 _ _,rfl⟩,rfl⟩ (Nat.le_refl _)) (by omega)) (fun v h' m q=>StartQ.logs v h' m q) ?_
 rintro _ h1 hx3 ⟨p,rfl,hst⟩
 rw[startE_one]at hst
 rw[startE_one]
 refine⟨_,by apply ra_dropC rfl;apply ra_dropC rfl;exact ra_nil,?_⟩
 have w1:WF h1:=hx3.wf (hx2.wf hr.wf)
 have hx13:Ext h h1:=hx2.trans hx3
 have hl1:h1.log=[]:=hx13.log.trans hr.log
 by_cases ha:asked kerf l (OnB w ht)=0
 ·obtain⟨bb,wa,wc,rfl,gb,hws⟩:=hst ha
  obtain⟨hc,hb⟩:=asked_zero ha
  have hks:=hs.ext hx13
  have hN1:=hx13.next
  have kb1:=WF.get_lt w1 gb
  have hl12:=(chk_iff.1 hc).1
  clear hst hx3
  unfold idleL
  rw[if_pos ha,ha]
  refine qM ?_;refine qE ?_;refine qE ?_
  refine qM ?_;refine qM ?_;refine wD_nil ?_;refine y1 ?_;refine kS_n ?_;refine wE_seq ?_;refine y4 ?_
  refine yM ?_;refine yf ?_;refine y3 ?_;refine yX ?_;refine wE_skip ?_;refine kS_n ?_;refine y4 ?_
  refine yM ?_;refine y3 ?_;refine wE_seq ?_;refine y4 ?_;refine yM ?_;refine wO_val (a_nilchk (by exact rfl)) ?_;refine yF ?_
  refine yF ?_;refine yL ?_;refine yD ?_;refine yM ?_;refine y3 ?_;refine wE_block ?_
  refine wE_loop (fun m e ds h'=>∃(i:Nat) (v:Value),i≤l.length∧m=l.length-i∧e=[(1, .int .i64 w),(2, .int .i64 ht),(8, .pointer (some ⟨bb,0,none⟩)),(10,v),(31, .int .i64 l.length),(32, .int .i64 i)]∧ds=[]∧Ext h1 h'∧Own h1.next h' 1 v (idles kerf l w ht i).length (ints (idles kerf l w ht i)))
   ⟨0,_,Nat.zero_le _,rfl,rfl,rfl, .refl _, .nil⟩ ?_
  rintro m e ds h' ⟨i,v,hin,rfl,rfl,rfl,hx',own⟩
  by_cases hlt:i<l.length
  ·refine y4 ?_;refine yt ?_;refine y3 ?_;refine wE_seq ?_;refine yY ?_;refine wE_skip ?_;refine kS_n ?_;refine wE_seq ?_;refine wE_block ?_;refine y4 ?_;refine yM ?_;refine yM ?_;refine y3 ?_;refine y4 ?_;refine yM ?_;refine yM ?_;refine yM ?_
   refine yM ?_
   refine yC ?_
   refine FW.pu (kindlyK F (.of (hx'.wf w1)) hc hb hlt (by omega) ((hx'.old _ kb1).trans gb) ((hks.ext hx').log []) ((hws.ext hx').log [])) ?_
   by_cases hlt2:kw kerf l i (w,ht) 0<kb kerf l i (w,ht) 0
   ·refine yM ?_;refine yE ?_;refine yE ?_;refine yM ?_;refine yM ?_;refine y3 ?_;refine y4 ?_;refine yM ?_;refine yM ?_;refine yt ?_;refine y3 ?_;refine yY ?_;refine wE_region ?_
    refine yM ?_;refine yM ?_;refine wO_val (a_bslice (by exact rfl) (by exact rfl)) ?_
    have hle:=idles_len kerf l w ht i
    refine wO_app1 (lo:=h1.next) (c1:=[.int .i64 i]) (own.ext ((Ext.refl h').push _)) (by omega) (by omega) (by omega) (by show h1.next≤h'.next+1;have:=hx'.next;omega) (by omega) (by exact rfl) (by exact rfl) (src_slice (cs:=[.int .i64 i]) (by(simp(disch:=first|omega|(simp only[z1,z2];omega))only[z3,z4,z5,z6,z7,z1,z2, *];exact rfl)) rfl rfl) rfl rfl ?_
    intro v' h2 own' hx2'
    have hx4:Ext h1 h2:=(((hx'.push (.cells [.int .i64 i] true 1)).lx (Nat.le_refl _)).trans hx2').ext
    refine yM ?_;refine wO_nil ?_;refine y1 ?_;refine kB_n ?_;refine kS_n ?_;refine wE_region ?_;refine yinc ?_;refine yM ?_;refine y3 ?_
    refine⟨l.length-(i+1),by omega,i+1,v',by omega,rfl,rfl,rfl,hx4,?_⟩
    rw[idles_succ,if_pos hlt2,List.length_append]
    have e1:ints (idles kerf l w ht i++[(i:Int)])=ints (idles kerf l w ht i)++[.int .i64 i]:=by simp[ints]
    rw[e1]
    exact own'
   ·refine yM ?_;refine yE ?_;refine yE ?_;refine yM ?_;refine yM ?_;refine y3 ?_;refine y4 ?_;refine yM ?_;refine yM ?_;refine yf ?_;refine y3 ?_;refine yX ?_;refine wE_skip ?_;refine kB_n ?_
    refine kS_n ?_;refine wE_region ?_;refine yinc ?_;refine yM ?_;refine y3 ?_
    refine⟨l.length-(i+1),by omega,i+1,v,by omega,rfl,rfl,rfl,hx',?_⟩
    rw[idles_succ,if_neg hlt2,List.append_nil]
    exact own
  ·obtain rfl:i=l.length:=by omega
   refine y4 ?_;refine yf ?_;refine y3 ?_;refine wE_seq ?_;refine yX ?_;refine wE_exit ?_;refine kS_e ?_;refine kS_e ?_;refine kB_e ?_;refine kS_n ?_
   refine y4 ?_;refine yM ?_;refine yM ?_;refine yM ?_;refine y3 ?_;refine wE_ret ?_
   refine endA_ret (vs:=[v, .int .i64 0]) (hx'.log.trans hl1) rfl (.ret (own.slice ?_))
   have:=idles_len kerf l w ht l.length
   omega
 ·unfold idleL
  rw[if_neg ha]
  refine qM ?_;refine qE ?_;refine qE ?_
  refine qM ?_;refine qM ?_;refine wD_nil ?_;refine y1 ?_;refine kS_n ?_;refine wE_seq ?_;refine y4 ?_
  refine yM ?_;refine yt ?_;refine y3 ?_;refine yY ?_;refine y4 ?_;refine yM ?_
  refine yM ?_;refine yM ?_;refine y3 ?_;refine wE_ret ?_;refine kS_r ?_
  exact endA_ret (vs:=[.slice none 0 0, .int .i64 (asked kerf l (OnB w ht))]) hl1 rfl ⟨none,0,rfl, .nil⟩
end Go.A.Pk
end
section
namespace Go.A.Pk
theorem leavesL_shape{a b:Nat}:∀{l m:List Kd} {i:Nat},(l.map fun k=>(k.w,k.h,k.turn))=(m.map fun k=>(k.w,k.h,k.turn))→leavesL a b l i=leavesL a b m i
 |[],[],_,_=>rfl
 |[],_::_,_,h=>by simp at h
 |_::_,[],_,h=>by simp at h
 |x::l,y::m,i,h=>by
  simp only[List.map_cons,List.cons.injEq,Prod.mk.injEq]at h
  simp only[leavesL]
  rw[leavesL_shape (i:=i+1) h.2]
  unfold leafAt
  rw[h.1.1,h.1.2.1,h.1.2.2]
theorem VF_shape{kerf:Int}{ws:List Int}{l m:List Kd}(h:∀a b,leavesL a b l 0=leavesL a b m 0):∀(n:Nat) (p:Int×Int),VF kerf ws l n p=VF kerf ws m n p
 |0,_=>rfl
 |n+1,p=>by
  rw[VF,VF,h]
  simp only[VF_shape h n]
theorem raise_shape(l:List Kd)(i v:Int):((raise l i v).map fun k=>(k.w,k.h,k.turn))=l.map fun k=>(k.w,k.h,k.turn):=by
 unfold raise
 apply List.ext_getElem?
 intro j
 rw[List.getElem?_map,List.getElem?_map,List.getElem?_modify]
 split
 ·cases l[j]? <;>rfl
 ·simp
theorem raise_ws{l:List Kd}{k:Nat}(v:Int):wsOf (raise l k v)=(wsOf l).set k v:=by
 unfold raise wsOf
 apply List.ext_getElem?
 intro j
 rw[List.getElem?_map,List.getElem?_modify,List.getElem?_set]
 simp only[Int.toNat_natCast]
 by_cases h:k=j
 ·subst h
  by_cases hl:k<l.length
  ·simp[hl]
  ·simp[hl]
 ·simp[h]
end Go.A.Pk
end
section
set_option maxRecDepth 100000
namespace Go.A.Pk
variable {T:Nat→Option AFunc}
theorem withR_no{kerf:Int}{l:List Kd}{w ht kind:Int}(h:¬askK kerf l w ht kind=0):withR kerf l w ht kind= .tuple #[.int .i64 0, .bool false, .int .i64 (askK kerf l w ht kind)]:=by
 unfold withR withN withIs
 rw[decide_eq_false h,Bool.false_and];rfl
theorem dearR_no{kerf:Int}{l:List Kd}{w ht kind:Int}(h:¬askK kerf l w ht kind=0):dearR kerf l w ht kind= .tuple #[.int .i64 0, .bool false, .int .i64 (askK kerf l w ht kind)]:=by
 unfold dearR dearN withIs
 rw[decide_eq_false h,Bool.false_and];rfl
theorem withR_neg{kerf:Int}{l:List Kd}{w ht:Int}{k:Nat}(h:askK kerf l w ht k=0)(hn:kw kerf l k (w,ht) 0<0):withR kerf l w ht k= .tuple #[.int .i64 0, .bool false, .int .i64 0]:=by
 unfold withR withN withIs
 rw[h,Int.toNat_natCast,decide_eq_false (show¬0≤kw kerf l k (w,ht) 0 by omega),Bool.and_false];rfl
theorem dearR_neg{kerf:Int}{l:List Kd}{w ht:Int}{k:Nat}(h:askK kerf l w ht k=0)(hn:kw kerf l k (w,ht) 0<0):dearR kerf l w ht k= .tuple #[.int .i64 0, .bool false, .int .i64 0]:=by
 unfold dearR dearN withIs
 rw[h,Int.toNat_natCast,decide_eq_false (show¬0≤kw kerf l k (w,ht) 0 by omega),Bool.and_false];rfl
theorem withR_ok{kerf:Int}{l:List Kd}{w ht:Int}{k:Nat}(h:askK kerf l w ht k=0)(hn:0≤kw kerf l k (w,ht) 0):withR kerf l w ht k= .tuple #[.int .i64 (kw kerf l k (w,ht) 0), .bool true, .int .i64 0]:=by
 unfold withR withN withIs
 rw[h,Int.toNat_natCast,decide_eq_true hn];rfl
theorem dearR_ok{kerf:Int}{l:List Kd}{w ht:Int}{k:Nat}(h:askK kerf l w ht k=0)(hn:0≤kw kerf l k (w,ht) 0):dearR kerf l w ht k= .tuple #[.int .i64 (dearV kerf l k (w,ht)), .bool true, .int .i64 0]:=by
 unfold dearR dearN withIs
 rw[h,Int.toNat_natCast,decide_eq_true hn];rfl
end Go.A.Pk
end
section
set_option maxRecDepth 100000
namespace Go.A.Pk
variable {T:Nat→Option AFunc}
structure PWS (l:Nat) (S:Nat→Prop) (H0:Heap) (L:AObj) (P0:List (Nat×Nat)→Heap→Prop) (done:List (Nat×Nat)) (H:Heap):Prop where
 old:∀x,x<l→¬S x→H.get x=H0.get x
 obj:P0 done H
 loop:H.get l=some L
 nx:l<H.next
theorem PWS.stable{l:Nat}{S:Nat→Prop}{H0:Heap}{L:AObj}{P0:List (Nat×Nat)→Heap→Prop}(hS:∀x,S x→x<l)(hP0:∀d H H',(∀x,S x→H'.get x=H.get x)→P0 d H→P0 d H')(done:List (Nat×Nat))(H H':Heap)(p:PWS l S H0 L P0 done H)(hn:l+1≤H'.next)(h:∀x,x<l+1→H'.get x=H.get x):PWS l S H0 L P0 done H':=
 ⟨fun x hx hne=>(h x (by omega)).trans (p.old x hx hne),hP0 _ _ _ (fun x hx=>h x (Nat.lt_succ_of_lt (hS x hx))) p.obj,(h l (by omega)).trans p.loop,hn⟩
theorem PWS.yld(hp:primAS T){l lo:Nat}{S:Nat→Prop}{H0:Heap}{L:AObj}{P0:List (Nat×Nat)→Heap→Prop}{V:Nat×Nat→Value}{all:List (Nat×Nat)}(hS:∀x,S x→lo≤x∧x<l)(hP0:∀d H H',(∀x,S x→H'.get x=H.get x)→P0 d H→P0 d H')
 (hround:∀done x H',x∈all→Rdy H'→l<H'.next→PWS l S H0 L P0 done H'→FW T (.yield l) [V x] H' fun r H''=>r= .ret (.bool true)∧(∀z∈H''.log,S z)∧(∀z,z<H'.next→¬S z→H''.get z=H'.get z)∧P0 (done++[x]) H''):
 Yld T lo (l+1) l V all (PWS l S H0 L P0)where
 yields:=fun done x H hx hr hN hP=>FW.mono' (FW.withAS hp (hround done x H hx hr hN hP) hr.log) fun r H' ⟨hA,h1,h2,h3,h4⟩=>⟨h1,fun z hz=>by have:=hS z (h2 z hz);omega,⟨fun y hy hne=>(h3 y (by omega) hne).trans (hP.old y hy hne),h4,(h3 l (by omega) (fun q=>by have:=hS l q;omega)).trans hP.loop,Nat.lt_of_lt_of_le hP.nx hA.next⟩⟩
 stable:=fun done H H' p hn h=>PWS.stable (fun x hx=>(hS x hx).2) hP0 done H H' p hn h
theorem inner_rangeS{base:Nat}{rnd:Option Nat}{e:Env}{ds:Dfs}{Q:XQ}{h1:Heap}{f:Operand}{g lo:Nat}{S:Nat→Prop}{first cap:Array Value}{ps:List Nat}{asg body:ACode}{all:List (Nat×Nat)}{P0:List (Nat×Nat)→Heap→Prop}(hr:roundA h1 rnd=true)(hf:ev h1 e f=some (.func (.func g) first cap))(hnc:notCode (T g)=false)
 (hB:base≤h1.next)(hq:base≤lo)(hlog:h1.log=[])(w1:WF h1)(hS:∀x,S x→lo≤x∧x<h1.next)(hP0:∀d H H',(∀x,S x→H'.get x=H.get x)→P0 d H→P0 d H')
 (HG:Gr T g (lcat first.toList (lcat [.func (.yield h1.next) #[] #[]] cap.toList)) {h1.push (.loop e ps asg body 0 .normal)with log:=[]} lo fun v h'=>v= .tuple #[]∧PWS h1.next S h1 (.loop e ps asg body 0 .normal) P0 all h')
 (K:∀h3,h3.log=[]→WF h3→h1.next≤h3.next→(∀z,z<h1.next→¬S z→h3.get z=h1.get z)→P0 all h3→Q .normal e ds h3):WE T base rnd (.rangeFunc f ps asg body) Q e ds h1:=by
 refine wE_range hr hf hnc (CW.mono HG ?_)
 rintro r h2 ⟨hk,v,rfl,rfl,hP⟩
 refine⟨_,rfl,_,_,_,_,_,_,hP.loop,rfl,?_⟩
 have hl2:LogGe base h2.log:=fun z hz=>Nat.le_trans hq (hk.log (LogGe.nil _) z hz)
 refine K _ ?_ ?_ ?_ (fun z hz hne=> ?_) ?_
 ·rw[Heap.log_wr_new hB]
  show mergeLog base h1.log h2.log=[]
  rw[mergeLog_ge hl2,hlog]
 ·exact((hk.wf ((w1.push _).log _)).log _).as (AS.wr _ _ _ _)
 ·have:=hk.next
  have e1:h1.next+1≤h2.next:=this
  show h1.next≤h2.next
  omega
 ·exact(z5 (by omega)).trans (hP.old z hz hne)
 ·exact hP0 all h2 _ (fun x hx=>z5 (by have:=hS x hx;omega)) hP.obj
section
variable {α:Type} (f:α→Value) (d:α)
abbrev TabG(α:Type):=List ((Nat×Nat)×α)
def entsG(t:TabG α):List (Value×Value):=t.map fun e=>(boardV e.1,f e.2)
def isKeyG(x:Int×Int)(k:Nat×Nat):Bool:=decide (x.1=k.1∧x.2=k.2)
def lookG:TabG α→Int×Int→α
 |[],_=>d
 |e::t,x=>if isKeyG x e.1 then e.2 else lookG t x
def updG:TabG α→Nat×Nat→α→TabG α
 |[],x,v=>[(x,v)]
 |e::t,x,v=>if isKeyG (x.1,x.2) e.1 then(x,v)::t else e::updG t x v
theorem keyEq_boardG(x:Int×Int)(k:Nat×Nat):keyEq true L2 (pairV x) (boardV k)=some (isKeyG x k):=by
 show leavesEq L2 [.int .i64 x.1, .int .i64 x.2] [.int .i64 k.1, .int .i64 k.2]=_
 rw[L2,leaves2];rfl
theorem find_lookG(x:Int×Int):∀(t:TabG α) (i:Nat),(findA true L2 (pairV x) i (entsG f t)=some none∧lookG d t x=d)∨∃j,findA true L2 (pairV x) i (entsG f t)=some (some (j,f (lookG d t x)))
 |[],i=> .inl ⟨rfl,rfl⟩
 |e::t,i=>by
  simp only[entsG,List.map_cons,findA,keyEq_boardG,lookG]
  cases isKeyG x e.1 with
  |true=>exact .inr ⟨i,rfl⟩
  |false=>exact find_lookG x t (i+1)
theorem find_updG(x:Nat×Nat)(v:α):∀(t:TabG α) (i:Nat),(findA true L2 (boardV x) i (entsG f t)=some none∧updG t x v=t++[(x,v)])∨∃j u,findA true L2 (boardV x) i (entsG f t)=some (some (i+j,u))∧entsG f (updG t x v)=lset (entsG f t) j (boardV x,f v)
 |[],i=> .inl ⟨rfl,rfl⟩
 |e::t,i=>by
  have hk:keyEq true L2 (boardV x) (boardV e.1)=some (isKeyG (x.1,x.2) e.1):=keyEq_boardG (x.1,x.2) e.1
  simp only[entsG,List.map_cons,findA,hk,updG]
  cases isKeyG (x.1,x.2) e.1 with
  |true=>exact .inr ⟨0,_,rfl,rfl⟩
  |false=>
   rcases find_updG x v t (i+1)with⟨h1,h2⟩|⟨j,u,h1,h2⟩
   ·exact .inl ⟨h1,by simp[h2]⟩
   ·refine .inr ⟨j+1,u,?_,?_⟩
    ·rw[show i+(j+1)=i+1+j by omega];exact h1
    ·simp only[entsG]at h2
     simp[lset,h2]
theorem a_lookupG{base:Nat}{h:Heap}{e:Env}{m k:Operand}{r:Nat}{t:TabG α}{x:Int×Int}(hm:ev h e m=some (.map (some r)))(hk:ev h e k=some (pairV x))(hr:h.get r=some (.map (entsG f t))){dv:Value}(hd:dv=f d):aop h base e (.lookup true [.i .i64, .i .i64] dv false m k)=some (.val (f (lookG d t x)) h):=by
 subst hd
 have e2:([.i .i64, .i .i64]:List Leaf)=L2:=rfl
 rcases find_lookG f d x t 0 with⟨h1,h2⟩|⟨j,h1⟩
 ·simp only[aop,hm,hk,hr,e2,keyOk_pair,h1,h2,cond_true,cond_false]
 ·simp only[aop,hm,hk,hr,e2,keyOk_pair,h1,cond_true,cond_false]
theorem a_mapUpG{base:Nat}{h:Heap}{e:Env}{m k v:Operand}{r:Nat}{t:TabG α}{x:Nat×Nat}{z:α}(hm:ev h e m=some (.map (some r)))(hk:ev h e k=some (boardV x))(hv:ev h e v=some (f z))(hr:h.get r=some (.map (entsG f t))):aop h base e (.mapUp true [.i .i64, .i .i64] m k v)=some (.val (.tuple #[]) (h.wr base r (.map (entsG f (updG t x z))))):=by
 have e2:([.i .i64, .i .i64]:List Leaf)=L2:=rfl
 rcases find_updG f x z t 0 with⟨h1,h2⟩|⟨j,u,h1,h2⟩
 ·have h3:lcat (entsG f t) [(boardV x,f z)]=entsG f (updG t x z):=by rw[h2,lcat_eq];simp[entsG]
  simp only[aop,hm,hk,hv,hr,e2,keyOk_board,h1,cond_true,h3]
 ·rw[Nat.zero_add]at h1
  simp only[aop,hm,hk,hv,hr,e2,keyOk_board,h1,cond_true,←h2]
theorem look_updG{x:Nat×Nat}{v:α}:∀(t:TabG α) (y:Int×Int),lookG d (updG t x v) y=if y=((x.1:Int),(x.2:Int))then v else lookG d t y
 |[],y=>by
  have e1:isKeyG y x=decide (y=((x.1:Int),(x.2:Int))):=by
   unfold isKeyG
   exact decide_eq_decide.2 ⟨fun q=>Prod.ext q.1 q.2,fun q=>by rw[q];exact⟨rfl,rfl⟩⟩
  simp only[updG,lookG]
  rw[e1]
  by_cases h:y=((x.1:Int),(x.2:Int))
  ·simp[h]
  ·simp[h]
 |e::t,y=>by
  simp only[updG]
  by_cases hk:isKeyG (x.1,x.2) e.1=true
  ·rw[if_pos hk]
   simp only[lookG]
   simp only[isKeyG,decide_eq_true_eq]at hk
   have e1:isKeyG y x=decide (y=((x.1:Int),(x.2:Int))):=by
    unfold isKeyG
    exact decide_eq_decide.2 ⟨fun q=>Prod.ext q.1 q.2,fun q=>by rw[q];exact⟨rfl,rfl⟩⟩
   have e2:isKeyG y e.1=decide (y=((x.1:Int),(x.2:Int))):=by
    unfold isKeyG
    exact decide_eq_decide.2 ⟨fun q=>Prod.ext (q.1.trans hk.1.symm) (q.2.trans hk.2.symm),fun q=>by rw[q];exact hk⟩
   rw[e1,e2]
   by_cases h:y=((x.1:Int),(x.2:Int))
   ·simp[h]
   ·simp[h]
  ·rw[if_neg hk]
   simp only[lookG]
   rw[look_updG t y]
   by_cases h:y=((x.1:Int),(x.2:Int))
   ·have:isKeyG y e.1=false:=by rw[h];simpa using hk
    simp[h,this]
    intro q
    rw[h]at this
    rw[this]at q;cases q
   ·simp[h]
end
end Go.A.Pk
end
section
set_option maxRecDepth 100000
namespace Go.A.Pk
variable {T:Nat→Option AFunc}
def mn(a b:Int):Int:=if b<a then b else a
theorem a_min{base:Nat}{h:Heap}{e:Env}{x y:Operand}{a b:Int}(hx:ev h e x=some (.int .i64 a))(hy:ev h e y=some (.int .i64 b)):aop h base e (.minmax false [x,y])=some (.val (.int .i64 (mn a b)) h):=by
 simp only[aop,evs,hx,hy,mmA,if_true,bindV,mn];rfl
def addS(b:Int)(st:(Int×Int)×Bool)(w:Int)(o:Int×Int):(Int×Int)×Bool:=
 if w=b then(if st.2=true then((mn st.1.1 o.1,mx st.1.2 o.2),true)else(o,true))else st
theorem add103(hp:primAS T)(hf:T 103=some f103){h:Heap}(hr:Rdy h){p2 p3 p4 p5 mb:Nat}{t:Tab}{x:Int×Int}{st:(Int×Int)×Bool}{w:Int}{o:Int×Int}
 (g2:h.get p2=some (.cells [.map (some mb)] true 1))(gm:h.get mb=some (.map (ents t)))(g3:h.get p3=some (.cells [.int .i64 x.1, .int .i64 x.2] true 1))(g4:h.get p4=some (.cells [.bool st.2] true 1))(g5:h.get p5=some (.cells [.int .i64 st.1.1, .int .i64 st.1.2] true 1))(h45:p4≠p5):
 Gs T 103 [.int .i64 w, .agg #[.int .i64 o.1, .int .i64 o.2], .pointer (some ⟨p2,0,none⟩), .pointer (some ⟨p3,0,none⟩), .pointer (some ⟨p4,0,none⟩), .pointer (some ⟨p5,0,none⟩)] h (fun z=>z=p4∨z=p5)
  fun v h'=>v= .tuple #[]∧h'.get p4=some (.cells [.bool (addS (look t x) st w o).2] true 1)∧h'.get p5=some (.cells [.int .i64 (addS (look t x) st w o).1.1, .int .i64 (addS (look t x) st w o).1.2] true 1):=by
 have k2:=WF.get_lt hr.wf g2
 have k3:=WF.get_lt hr.wf g3
 have k4:=WF.get_lt hr.wf g4
 have k5:=WF.get_lt hr.wf g5
 have km:=WF.get_lt hr.wf gm
 have l0:∀{o:AObj},∀z∈(h.push o).log,z=p4∨z=p5:=fun z hz=>by
  rw[Heap.log_push,hr.log]at hz;cases hz
 refine .of hp hf (fun v h1 h2 _ hn ha q=>⟨q.1,(ha _ k4).trans q.2.1,(ha _ k5).trans q.2.2⟩) ?_
 obtain⟨⟨s1,s2⟩,s3⟩:=st
 refine y4 ?_;refine yB ?_;refine y3 ?_;refine wE_block ?_;refine y4 ?_;refine yM ?_
 refine yL ?_
 refine yN ?_
 refine wO_val (a_lookup (x:=x) (by exact rfl) (by exact rfl) (by(simp(disch:=first|omega|(simp only[z1,z2];omega))only[z3,z4,z5,z6,z7,z1,z2, *];exact rfl))) ?_
 unfold addS
 by_cases hw:w=look t x
 ·simp only[if_pos hw]
  cases s3 with
  |false=>
   simp only[Bool.false_eq_true,if_false]
   refine yf ?_;refine yM ?_;refine y3 ?_;refine yX ?_;refine y4 ?_
   refine yL ?_;refine yA ?_;refine yM ?_;refine y3 ?_;refine yY ?_;refine wE_region ?_
   refine yN ?_
   refine yS ?_
   refine yS ?_;refine wO_nil ?_
   refine y1 ?_;refine kB_n ?_
   refine endS_end (vs:=[]) (wr_log (wr_log l0 (.inr rfl)) (.inl rfl)) rfl ⟨rfl,?_,?_⟩
   ·(simp(disch:=first|omega|(simp only[z1,z2];omega))only[z3,z4,z5,z6,z7,z1,z2, *];exact rfl)
   ·(simp(disch:=first|omega|(simp only[z1,z2];omega))only[z3,z4,z5,z6,z7,z1,z2, *];exact rfl)
  |true=>
   simp only[if_true]
   refine yf ?_;refine yM ?_;refine y3 ?_;refine yX ?_;refine y4 ?_
   refine yL ?_;refine yA ?_;refine yM ?_;refine y3 ?_;refine yX ?_;refine wE_region ?_;refine yF ?_
   refine yL ?_;refine yF ?_
   refine yL ?_
   refine wO_val (a_min (by exact rfl) (by exact rfl)) ?_
   refine yF ?_;refine yL ?_;refine yF ?_
   refine yL ?_
   refine wO_val (a_max (by exact rfl) (by exact rfl)) ?_
   refine wO_val (a_build (by exact rfl)) ?_;refine yS ?_;refine wO_nil ?_
   refine y1 ?_;refine kB_n ?_
   refine endS_end (vs:=[]) (wr_log l0 (.inr rfl)) rfl ⟨rfl,?_,?_⟩
   ·(simp(disch:=first|omega|(simp only[z1,z2];omega))only[z3,z4,z5,z6,z7,z1,z2, *];done)
   ·(simp(disch:=first|omega|(simp only[z1,z2];omega))only[z3,z4,z5,z6,z7,z1,z2, *];exact rfl)
 ·simp only[if_neg hw]
  refine yt ?_;refine yM ?_;refine y3 ?_;refine yY ?_;refine wE_skip ?_;refine kB_n ?_
  refine endS_end (vs:=[]) l0 rfl ⟨rfl,?_,?_⟩
  ·(simp(disch:=first|omega|(simp only[z1,z2];omega))only[z3,z4,z5,z6,z7,z1,z2, *];done)
  ·(simp(disch:=first|omega|(simp only[z1,z2];omega))only[z3,z4,z5,z6,z7,z1,z2, *];done)
end Go.A.Pk
end
section
set_option maxRecDepth 100000
namespace Go.A.Pk
variable {T:Nat→Option AFunc}
def asg46a:ACode:=(.region [g 14 (.new [(.int .i64 0),(.int .i64 0)]),⟨none, .store 2 (t 14) (t 47),none⟩] [7,11,12,13,14])
def body46a:ACode:=(.block 1 (.seq (.region [g 48 (.build [(.int .i64 0),(.int .i64 0)] []),g 15 (.new [(.int .i64 0),(.int .i64 0)]),g 16 (.new [(.bool false)]),⟨none, .store 2 (t 15) (t 48),none⟩,⟨none, .store 1 (t 16) (.const (.bool false)),none⟩] [7,11,12,13,14,15,16])
 (.seq (.region [g 49 (.mkFunc (.func 103) [] [(t 12),(t 14),(t 16),(t 15)]),g 17 (.new [.nilFunc]),⟨none, .store 1 (t 17) (t 49),none⟩] [7,11,12,13,14,15,17])
 (.seq (.region [g 50 (.load none (t 17)),g 51 (.build [(.int .i64 0),(.int .i64 0)] []),g 52 (.call (t 50) [(.const (.int .i64 0)),(t 51)])] [7,11,12,13,14,15,17])
 (.seq (.seq (.region [g 53 (.load none (t 11)),g 54 (.load (some 2) (t 14)),g 55 (.call (.func 104) [(t 53),(t 54)])] [7,11,12,13,14,15,17,55])
 (.block 2 (.rangeFunc (t 55) [56] (.region [g 18 (.new [(.int .u8 0),(.int .i64 0)]),⟨none, .store 2 (t 18) (t 56),none⟩] [7,11,17,18]) (.block 3 (.seq (.region [g 57 (.build [(.int .i64 0),(.int .i64 0)] []),g 19 (.new [(.int .i64 0),(.int .i64 0)]),⟨none, .store 2 (t 19) (t 57),none⟩] [7,11,17,18,19])
 (.seq (.seq (.region [g 58 (.faddr 1 (t 18)),g 59 (.load none (t 58)),g 60 (.load none (t 7)),g 61 (.bin (.num .eql) (t 59) (t 60))] [11,17,18,19,61])
 (.cond (t 61) (.region [g 62 (.build [(.int .i64 0),(.int .i64 0)] [(0,1,(.const (.int .i64 1))),(1,1,(.const (.int .i64 1)))]),⟨none, .store 2 (t 19) (t 62),none⟩] [11,17,18,19]) .skip))
 (.draw [g 63 (.load none (t 17)),g 64 (.load none (t 11)),g 65 (.nilchk (t 64)),g 66 (.faddr 2 (t 65)),g 67 (.load none (t 66)),g 68 (.faddr 1 (t 18)),g 69 (.load none (t 68)),g 70 (.iaddrS 1 (t 67) (t 69)),g 71 (.load none (t 70)),g 72 (.load (some 2) (t 19)),g 73 (.call (t 63) [(t 71),(t 72)])] [0,1,2,3,4,5,6,7,8,9,10] [0,0,2,6,14,0,32,126,254,0,1023] [])))))))
 (.seq (.seq (.region [g 74 (.load none (t 11)),g 75 (.load (some 2) (t 14)),g 76 (.call (.func 105) [(t 74),(t 75)])] [11,12,13,14,15,17,76])
 (.block 4 (.rangeFunc (t 76) [77] (.region [g 20 (.new [(.int .u8 0),(.int .i64 0)]),⟨none, .store 2 (t 20) (t 77),none⟩] [11,12,13,14,17,20]) (.block 5 (.seq (.region [g 79 (.load none (t 11)),g 80 (.load (some 2) (t 14)),g 81 (.load (some 2) (t 20)),g 82 (.call (.func 106) [(t 79),(t 80),(t 81)]),g 78 (.mov (t 82)),g 83 (.extract (t 78) 0),g 84 (.extract (t 78) 1),g 21 (.new [(.int .i64 0),(.int .i64 0)]),g 22 (.new [(.int .i64 0),(.int .i64 0)]),⟨none, .store 2 (t 21) (t 83),none⟩,⟨none, .store 2 (t 22) (t 84),none⟩] [12,13,17,21,22])
 (.draw [g 85 (.load none (t 17)),g 86 (.load none (t 12)),g 87 (.load (some 2) (t 21)),g 88 (.lookup true [.i .i64, .i .i64] (.int .i64 0) false (t 86) (t 87)),g 89 (.load none (t 12)),g 90 (.load (some 2) (t 22)),g 91 (.lookup true [.i .i64, .i .i64] (.int .i64 0) false (t 89) (t 90)),g 92 (.bin (.num .add) (t 88) (t 91)),g 93 (.load none (t 13)),g 94 (.load (some 2) (t 21)),g 95 (.lookup true [.i .i64, .i .i64] (.agg #[(.int .i64 0),(.int .i64 0)]) false (t 93) (t 94)),g 96 (.field 0 none (t 95)),g 97 (.load none (t 13)),g 98 (.load (some 2) (t 22)),g 99 (.lookup true [.i .i64, .i .i64] (.agg #[(.int .i64 0),(.int .i64 0)]) false (t 97) (t 98)),g 100 (.field 0 none (t 99)),g 101 (.bin (.num .add) (t 96) (t 100)),g 102 (.load none (t 13)),g 103 (.load (some 2) (t 21)),g 104 (.lookup true [.i .i64, .i .i64] (.agg #[(.int .i64 0),(.int .i64 0)]) false (t 102) (t 103)),g 105 (.field 1 none (t 104)),g 106 (.load none (t 13)),g 107 (.load (some 2) (t 22)),g 108 (.lookup true [.i .i64, .i .i64] (.agg #[(.int .i64 0),(.int .i64 0)]) false (t 106) (t 107)),g 109 (.field 1 none (t 108)),g 110 (.bin (.num .add) (t 105) (t 109)),g 111 (.build [(.int .i64 0),(.int .i64 0)] [(0,1,(t 101)),(1,1,(t 110))]),g 112 (.call (t 85) [(t 92),(t 111)])] [0,1,2,3,4,5,6,7,8,9,10,11,12,13,14,15,16,17,18,19,20,21,22,23,24,25,26,27] [0,0,0,6,0,0,48,126,0,0,768,1792,0,0,12288,28672,65280,0,0,393216,917504,0,0,6291456,14680064,33423360,67108608,134217727] []))))))
 (.region [g 113 (.load none (t 13)),g 114 (.load (some 2) (t 14)),g 115 (.load (some 2) (t 15)),⟨none, .mapUp true [.i .i64, .i .i64] (t 113) (t 114) (t 115),none⟩] [])))))))
def asg46b:ACode:=(.region [g 18 (.new [(.int .u8 0),(.int .i64 0)]),⟨none, .store 2 (t 18) (t 56),none⟩] [7,11,17,18])
def body46b:ACode:=(.block 3 (.seq (.region [g 57 (.build [(.int .i64 0),(.int .i64 0)] []),g 19 (.new [(.int .i64 0),(.int .i64 0)]),⟨none, .store 2 (t 19) (t 57),none⟩] [7,11,17,18,19])
 (.seq (.seq (.region [g 58 (.faddr 1 (t 18)),g 59 (.load none (t 58)),g 60 (.load none (t 7)),g 61 (.bin (.num .eql) (t 59) (t 60))] [11,17,18,19,61])
 (.cond (t 61) (.region [g 62 (.build [(.int .i64 0),(.int .i64 0)] [(0,1,(.const (.int .i64 1))),(1,1,(.const (.int .i64 1)))]),⟨none, .store 2 (t 19) (t 62),none⟩] [11,17,18,19]) .skip))
 (.draw [g 63 (.load none (t 17)),g 64 (.load none (t 11)),g 65 (.nilchk (t 64)),g 66 (.faddr 2 (t 65)),g 67 (.load none (t 66)),g 68 (.faddr 1 (t 18)),g 69 (.load none (t 68)),g 70 (.iaddrS 1 (t 67) (t 69)),g 71 (.load none (t 70)),g 72 (.load (some 2) (t 19)),g 73 (.call (t 63) [(t 71),(t 72)])] [0,1,2,3,4,5,6,7,8,9,10] [0,0,2,6,14,0,32,126,254,0,1023] []))))
def asg46c:ACode:=(.region [g 20 (.new [(.int .u8 0),(.int .i64 0)]),⟨none, .store 2 (t 20) (t 77),none⟩] [11,12,13,14,17,20])
def body46c:ACode:=(.block 5 (.seq (.region [g 79 (.load none (t 11)),g 80 (.load (some 2) (t 14)),g 81 (.load (some 2) (t 20)),g 82 (.call (.func 106) [(t 79),(t 80),(t 81)]),g 78 (.mov (t 82)),g 83 (.extract (t 78) 0),g 84 (.extract (t 78) 1),g 21 (.new [(.int .i64 0),(.int .i64 0)]),g 22 (.new [(.int .i64 0),(.int .i64 0)]),⟨none, .store 2 (t 21) (t 83),none⟩,⟨none, .store 2 (t 22) (t 84),none⟩] [12,13,17,21,22])
 (.draw [g 85 (.load none (t 17)),g 86 (.load none (t 12)),g 87 (.load (some 2) (t 21)),g 88 (.lookup true [.i .i64, .i .i64] (.int .i64 0) false (t 86) (t 87)),g 89 (.load none (t 12)),g 90 (.load (some 2) (t 22)),g 91 (.lookup true [.i .i64, .i .i64] (.int .i64 0) false (t 89) (t 90)),g 92 (.bin (.num .add) (t 88) (t 91)),g 93 (.load none (t 13)),g 94 (.load (some 2) (t 21)),g 95 (.lookup true [.i .i64, .i .i64] (.agg #[(.int .i64 0),(.int .i64 0)]) false (t 93) (t 94)),g 96 (.field 0 none (t 95)),g 97 (.load none (t 13)),g 98 (.load (some 2) (t 22)),g 99 (.lookup true [.i .i64, .i .i64] (.agg #[(.int .i64 0),(.int .i64 0)]) false (t 97) (t 98)),g 100 (.field 0 none (t 99)),g 101 (.bin (.num .add) (t 96) (t 100)),g 102 (.load none (t 13)),g 103 (.load (some 2) (t 21)),g 104 (.lookup true [.i .i64, .i .i64] (.agg #[(.int .i64 0),(.int .i64 0)]) false (t 102) (t 103)),g 105 (.field 1 none (t 104)),g 106 (.load none (t 13)),g 107 (.load (some 2) (t 22)),g 108 (.lookup true [.i .i64, .i .i64] (.agg #[(.int .i64 0),(.int .i64 0)]) false (t 106) (t 107)),g 109 (.field 1 none (t 108)),g 110 (.bin (.num .add) (t 105) (t 109)),g 111 (.build [(.int .i64 0),(.int .i64 0)] [(0,1,(t 101)),(1,1,(t 110))]),g 112 (.call (t 85) [(t 92),(t 111)])] [0,1,2,3,4,5,6,7,8,9,10,11,12,13,14,15,16,17,18,19,20,21,22,23,24,25,26,27] [0,0,0,6,0,0,48,126,0,0,768,1792,0,0,12288,28672,65280,0,0,393216,917504,0,0,6291456,14680064,33423360,67108608,134217727] [])))
def isL:AObj→Bool
 | .loop .. =>true
 |_=>false
structure AddAt (H:Heap) (p12 p14 p15 p17 mb:Nat) (u:Tab) (a b:Nat) (st:(Int×Int)×Bool):Prop where
 g12:H.get p12=some (.cells [.map (some mb)] true 1)
 gm:H.get mb=some (.map (ents u))
 g14:H.get p14=some (.cells [.int .i64 a, .int .i64 b] true 1)
 g15:H.get p15=some (.cells [.int .i64 st.1.1, .int .i64 st.1.2] true 1)
 g16:H.get (p15+1)=some (.cells [.bool st.2] true 1)
 g17:H.get p17=some (.cells [.func (.func 103) #[] #[.pointer (some ⟨p12,0,none⟩), .pointer (some ⟨p14,0,none⟩), .pointer (some ⟨p15+1,0,none⟩), .pointer (some ⟨p15,0,none⟩)]] true 1)
theorem AddAt.agree{H H':Heap}{p12 p14 p15 p17 mb:Nat}{u:Tab}{a b:Nat}{st:(Int×Int)×Bool}(A:AddAt H p12 p14 p15 p17 mb u a b st)(h:∀z o,H.get z=some o→isL o=false→H'.get z=some o):AddAt H' p12 p14 p15 p17 mb u a b st:=
 ⟨h _ _ A.g12 rfl,h _ _ A.gm rfl,h _ _ A.g14 rfl,h _ _ A.g15 rfl,h _ _ A.g16 rfl,h _ _ A.g17 rfl⟩
theorem AddAt.log{H:Heap}{p12 p14 p15 p17 mb:Nat}{u:Tab}{a b:Nat}{st:(Int×Int)×Bool}{m:List Nat}(A:AddAt H p12 p14 p15 p17 mb u a b st):AddAt {H with log:=m} p12 p14 p15 p17 mb u a b st:=⟨A.g12,A.gm,A.g14,A.g15,A.g16,A.g17⟩
theorem AddAt.call(hp:primAS T)(hf:T 103=some f103){h:Heap}(hr:Rdy h){p12 p14 p15 p17 mb:Nat}{u:Tab}{a b:Nat}{st:(Int×Int)×Bool}(A:AddAt h p12 p14 p15 p17 mb u a b st)(w:Int)(o:Int×Int):
 Gs T 103 [.int .i64 w, .agg #[.int .i64 o.1, .int .i64 o.2], .pointer (some ⟨p12,0,none⟩), .pointer (some ⟨p14,0,none⟩), .pointer (some ⟨p15+1,0,none⟩), .pointer (some ⟨p15,0,none⟩)] h (fun z=>p15≤z∧z<p15+2)
  fun v h'=>v= .tuple #[]∧h'.get (p15+1)=some (.cells [.bool (addS (look u (a,b)) st w o).2] true 1)∧h'.get p15=some (.cells [.int .i64 (addS (look u (a,b)) st w o).1.1, .int .i64 (addS (look u (a,b)) st w o).1.2] true 1):=by
 refine CW.mono (add103 hp hf hr (x:=((a:Int),(b:Int))) A.g12 A.gm A.g14 A.g16 A.g15 (by omega) (w:=w) (o:=o)) ?_
 rintro r h' ⟨hw,q⟩
 exact⟨⟨hw.next,fun z hz=>(hw.log z hz).imp id fun e=>by omega,fun z hz hn=>hw.old z hz (fun e=>hn (by omega)),hw.wf⟩,q⟩
def leafO(ws:List Int)(kind:Int)(x:Nat×Nat):Int×(Int×Int):=(ws.getD x.2 0,if(x.2:Int)=kind then(1,1)else(0,0))
set_option maxHeartbeats 4000000 in
theorem leaf_add(hp:primAS T)(hf:T 103=some f103){H:Heap}(hr:Rdy H){p7 p11 p12 p14 p15 p17 bb mb l2 n wc a b:Nat}{kind:Int}{x12 x13 x14 x15 fv s1 s2:Value}{wa:Option Addr}{own:Bool}{ws:List Int}{u:Tab}{st:(Int×Int)×Bool}{x:Nat×Nat}(hx:x.2<n)
 (gl:H.get l2=some (.loop [(7, .pointer (some ⟨p7,0,none⟩)),(11, .pointer (some ⟨p11,0,none⟩)),(12,x12),(13,x13),(14,x14),(15,x15),(17, .pointer (some ⟨p17,0,none⟩)),(55,fv)] [56] asg46b body46b 0 .normal))
 (g7:H.get p7=some (.cells [.int .i64 kind] true 1))(g11:H.get p11=some (.cells [.pointer (some ⟨bb,0,none⟩)] true 1))(gb:H.get bb=some (.cells [s1,s2, .slice wa n wc] own 1))(hws:SliceOf H 1 (.slice wa n wc) n (ints ws))(A:AddAt H p12 p14 p15 p17 mb u a b st):
 FW T (.yield l2) [nodeV x] H fun r H'=>r= .ret (.bool true)∧(∀z∈H'.log,p15≤z∧z<p15+2)∧(∀z,z<H.next→¬ (p15≤z∧z<p15+2)→H'.get z=H.get z)∧
  H'.get (p15+1)=some (.cells [.bool (addS (look u (a,b)) st (leafO ws kind x).1 (leafO ws kind x).2).2] true 1)∧H'.get p15=some (.cells [.int .i64 (addS (look u (a,b)) st (leafO ws kind x).1 (leafO ws kind x).2).1.1, .int .i64 (addS (look u (a,b)) st (leafO ws kind x).1 (leafO ws kind x).2).1.2] true 1):=by
 have hlen:ws.length=n:=by have:=hws.len;simp[ints]at this;omega
 rcases hws.inv with⟨_,_,h0,_⟩|⟨b0,o0,cap,hv,s,hcap⟩
 ·omega
 cases hv
 obtain⟨vs,own',t0,g5,g6⟩:=slice_elem1 s (ints_get (l:=ws) (i:=x.2) (by omega))
 clear s
 have n1:=ne_loop g7 gl
 have n2:=ne_loop g11 gl
 have n3:=ne_loop gb gl
 have n4:=ne_loop g5 gl
 have n5:=ne_loop A.g12 gl
 have n6:=ne_loop A.g14 gl
 have n7:=ne_loop A.g15 gl
 have n8:=ne_loop A.g16 gl
 have n9:=ne_loop A.g17 gl
 have nm:=ne_map A.gm gl
 have k1:=WF.get_lt hr.wf g7
 have k2:=WF.get_lt hr.wf g11
 have k3:=WF.get_lt hr.wf gb
 have k4:=WF.get_lt hr.wf g5
 have kl:=WF.get_lt hr.wf gl
 have k5:=WF.get_lt hr.wf A.g12
 have k6:=WF.get_lt hr.wf A.g14
 have k7:=WF.get_lt hr.wf A.g15
 have k8:=WF.get_lt hr.wf A.g16
 have k9:=WF.get_lt hr.wf A.g17
 have km:=WF.get_lt hr.wf A.gm
 have g17:=A.g17
 refine FW.mono' (FW.yieldN hp (lo:=p15) (N:=p15+2) (R:=fun H'=>(∀z,z<H.next→¬ (p15≤z∧z<p15+2)→H'.get z=H.get z)∧H'.get (p15+1)=some (.cells [.bool (addS (look u (a,b)) st (leafO ws kind x).1 (leafO ws kind x).2).2] true 1)∧H'.get p15=some (.cells [.int .i64 (addS (look u (a,b)) st (leafO ws kind x).1 (leafO ws kind x).2).1.1, .int .i64 (addS (look u (a,b)) st (leafO ws kind x).1 (leafO ws kind x).2).1.2] true 1)) gl rfl kl ?_) fun r H' q=>q
 have fin:∀(E:Heap) (w:Int) (o:Int×Int) (lg:List Nat) (h':Heap),(∀z,z<H.next→z≠l2→E.get z=H.get z)→E.get l2=some (.loop [(7, .pointer (some ⟨p7,0,none⟩)),(11, .pointer (some ⟨p11,0,none⟩)),(12,x12),(13,x13),(14,x14),(15,x15),(17, .pointer (some ⟨p17,0,none⟩)),(55,fv)] [56] asg46b body46b 1 .normal)→E.log=[]→H.next≤E.next→Ws (fun z=>p15≤z∧z<p15+2) E h'→
  h'.get (p15+1)=some (.cells [.bool (addS (look u (a,b)) st w o).2] true 1)∧h'.get p15=some (.cells [.int .i64 (addS (look u (a,b)) st w o).1.1, .int .i64 (addS (look u (a,b)) st w o).1.2] true 1)→(w,o)=leafO ws kind x→
  ∀e ds,YQ l2 (.loop [(7, .pointer (some ⟨p7,0,none⟩)),(11, .pointer (some ⟨p11,0,none⟩)),(12,x12),(13,x13),(14,x14),(15,x15),(17, .pointer (some ⟨p17,0,none⟩)),(55,fv)] [56] asg46b body46b 0 .normal) p15 (p15+2) H.next (fun H'=>(∀z,z<H.next→¬ (p15≤z∧z<p15+2)→H'.get z=H.get z)∧H'.get (p15+1)=some (.cells [.bool (addS (look u (a,b)) st (leafO ws kind x).1 (leafO ws kind x).2).2] true 1)∧H'.get p15=some (.cells [.int .i64 (addS (look u (a,b)) st (leafO ws kind x).1 (leafO ws kind x).2).1.1, .int .i64 (addS (look u (a,b)) st (leafO ws kind x).1 (leafO ws kind x).2).1.2] true 1)) .normal e ds h':=by
  intro E w o lg h' hE hEl hlog hn hw hq hwo e ds
  rw[←hwo]
  refine⟨rfl,⟨_,(hw.old l2 (by omega) (by omega)).trans hEl,rfl⟩,fun z hz=> ?_,fun h5 hn5 hag hl5=>⟨fun z hz hne=> ?_,(hag _ k8 n8).trans hq.1,(hag _ k7 n7).trans hq.2⟩⟩
  ·rcases hw.log z hz with q|q
   ·rw[hlog]at q;cases q
   ·exact q
  ·by_cases hz2:z=l2
   ·rw[hz2];exact hl5.trans gl.symm
   ·exact(hag z hz hz2).trans ((hw.old z (by omega) hne).trans (hE z hz hz2))
 unfold asg46b nodeV
 refine wE_region ?_;refine wO_val a_new ?_;refine yS ?_;refine wO_nil ?_
 refine y1 ?_
 refine⟨rfl,by(simp(disch:=first|omega|(simp only[z1,z2];omega))only[z3,z4,z5,z6,z7,z1,z2, *];exact rfl),?_⟩
 unfold body46b
 by_cases hk:¬ (x.2:Int)≠kind
 ·refine wE_block ?_;refine y4 ?_;refine wO_val (a_build (by exact rfl)) ?_;refine wO_val a_new ?_
  refine yS ?_;refine y3 ?_;refine wE_seq ?_;refine y4 ?_;refine yF ?_
  refine yL ?_
  refine yL ?_;refine yt ?_;refine y3 ?_;refine yY ?_;refine wE_region ?_;refine wO_val (a_build (by exact rfl)) ?_
  refine yS ?_;refine y3 ?_;refine wE_draw ?_
  refine qL ?_
  refine qL ?_
  refine wD_quiet rfl rfl rfl (by exact rfl) (by exact rfl) (by exact rfl) (a_nilchk (by exact rfl)) ?_;refine qF ?_
  refine qL ?_
  refine qF ?_
  refine qL ?_
  refine wD_quiet rfl rfl rfl (by exact rfl) (by exact rfl) (by exact rfl) (a_iaddrS (by exact rfl) (by exact rfl) (by omega)) ?_
  refine wD_quiet rfl rfl rfl (by exact rfl) (by exact rfl) (by exact rfl) (a_load (by exact rfl) (by(simp(disch:=first|omega|(simp only[z1,z2];omega))only[z3,z4,z5,z6,z7,z1,z2, *];exact rfl)) (by assumption)) ?_
  refine qN ?_
  refine WD.gen ?_
  intro hA hAe
  have A1:∀z,z<H.next→z≠l2→hA.get z=H.get z:=fun z hz hne=>by rw[hAe];simp(disch:=first|omega|(simp only[z1,z2];omega))only[z5,z4]
  have A2:hA.get l2=some (.loop [(7, .pointer (some ⟨p7,0,none⟩)),(11, .pointer (some ⟨p11,0,none⟩)),(12,x12),(13,x13),(14,x14),(15,x15),(17, .pointer (some ⟨p17,0,none⟩)),(55,fv)] [56] asg46b body46b 1 .normal):=by rw[hAe];(simp(disch:=first|omega|(simp only[z1,z2];omega))only[z3,z4,z5,z6,z7,z1,z2, *];exact rfl)
  have A5:hA.next=H.next+2:=by rw[hAe];rfl
  have A6:hA.log=[]:=by rw[hAe];simp(disch:=first|omega|(simp only[z1,z2];omega))only[Heap.log_wr_new,Heap.log_push];exact hr.log
  have A7:WF hA:=by rw[hAe];exact(((((((hr.wf.push _).as (AS.wr _ _ _ _)).as (AS.wr _ _ _ _)).push _).as (AS.wr _ _ _ _)).as (AS.wr _ _ _ _)))
  have A8:AddAt hA p12 p14 p15 p17 mb u a b st:=A.agree fun z o hz ho=>(A1 z (WF.get_lt hr.wf hz) (fun e=>by rw[e,gl]at hz;cases hz;cases ho)).trans hz
  clear hAe
  refine qC ?_
  refine FW.gsD (A8.log.call hp hf (.of A7) (ws.getD x.2 0) (1,1)) (fun _ _ _ q=>q) ?_
  rintro _ h' lg hw hlg ⟨rfl,q⟩
  refine⟨_,by apply ra_dropC rfl;apply ra_dropC rfl;apply ra_dropC rfl;apply ra_dropC rfl;apply ra_dropC rfl;apply ra_dropC rfl;apply ra_dropC rfl;apply ra_dropC rfl;apply ra_dropC rfl;apply ra_dropC rfl;exact ra_nil,?_⟩
  refine wD_nil ?_;refine y1 ?_;refine kB_n ?_
  exact fin hA (ws.getD x.2 0) (1,1) lg h' A1 A2 A6 (by omega) hw q (by unfold leafO;rw[if_pos (by omega)]) _ _
 ·refine wE_block ?_;refine y4 ?_;refine wO_val (a_build (by exact rfl)) ?_;refine wO_val a_new ?_
  refine yS ?_;refine y3 ?_;refine wE_seq ?_;refine y4 ?_;refine yF ?_
  refine yL ?_
  refine yL ?_;refine yf ?_;refine y3 ?_;refine yX ?_;refine wE_skip ?_;refine kS_n ?_;refine wE_draw ?_
  refine qL ?_
  refine qL ?_
  refine wD_quiet rfl rfl rfl (by exact rfl) (by exact rfl) (by exact rfl) (a_nilchk (by exact rfl)) ?_;refine qF ?_
  refine qL ?_
  refine qF ?_
  refine qL ?_
  refine wD_quiet rfl rfl rfl (by exact rfl) (by exact rfl) (by exact rfl) (a_iaddrS (by exact rfl) (by exact rfl) (by omega)) ?_
  refine wD_quiet rfl rfl rfl (by exact rfl) (by exact rfl) (by exact rfl) (a_load (by exact rfl) (by(simp(disch:=first|omega|(simp only[z1,z2];omega))only[z3,z4,z5,z6,z7,z1,z2, *];exact rfl)) (by assumption)) ?_
  refine qN ?_
  refine WD.gen ?_
  intro hA hAe
  have A1:∀z,z<H.next→z≠l2→hA.get z=H.get z:=fun z hz hne=>by rw[hAe];simp(disch:=first|omega|(simp only[z1,z2];omega))only[z5,z4]
  have A2:hA.get l2=some (.loop [(7, .pointer (some ⟨p7,0,none⟩)),(11, .pointer (some ⟨p11,0,none⟩)),(12,x12),(13,x13),(14,x14),(15,x15),(17, .pointer (some ⟨p17,0,none⟩)),(55,fv)] [56] asg46b body46b 1 .normal):=by rw[hAe];(simp(disch:=first|omega|(simp only[z1,z2];omega))only[z3,z4,z5,z6,z7,z1,z2, *];exact rfl)
  have A5:hA.next=H.next+2:=by rw[hAe];rfl
  have A6:hA.log=[]:=by rw[hAe];simp(disch:=first|omega|(simp only[z1,z2];omega))only[Heap.log_wr_new,Heap.log_push];exact hr.log
  have A7:WF hA:=by rw[hAe];exact((((((hr.wf.push _).as (AS.wr _ _ _ _)).as (AS.wr _ _ _ _)).push _).as (AS.wr _ _ _ _)))
  have A8:AddAt hA p12 p14 p15 p17 mb u a b st:=A.agree fun z o hz ho=>(A1 z (WF.get_lt hr.wf hz) (fun e=>by rw[e,gl]at hz;cases hz;cases ho)).trans hz
  clear hAe
  refine qC ?_
  refine FW.gsD (A8.log.call hp hf (.of A7) (ws.getD x.2 0) (0,0)) (fun _ _ _ q=>q) ?_
  rintro _ h' lg hw hlg ⟨rfl,q⟩
  refine⟨_,by apply ra_dropC rfl;apply ra_dropC rfl;apply ra_dropC rfl;apply ra_dropC rfl;apply ra_dropC rfl;apply ra_dropC rfl;apply ra_dropC rfl;apply ra_dropC rfl;apply ra_dropC rfl;apply ra_dropC rfl;exact ra_nil,?_⟩
  refine wD_nil ?_;refine y1 ?_;refine kB_n ?_
  exact fin hA (ws.getD x.2 0) (0,0) lg h' A1 A2 A6 (by omega) hw q (by unfold leafO;rw[if_neg (by omega)]) _ _
end Go.A.Pk
end
section
set_option maxRecDepth 100000
namespace Go.A.Pk
variable {T:Nat→Option AFunc}
def oV(p:Int×Int):Value:= .agg #[.int .i64 p.1, .int .i64 p.2]
abbrev TabO:=TabG (Int×Int)
def cutO(kerf:Int)(u:Tab)(t:TabO)(a b:Nat)(x:Nat×Nat):Int×(Int×Int):=
 (look u (oneB x a b)+look u (twoB kerf x a b),((lookG (0,0) t (oneB x a b)).1+(lookG (0,0) t (twoB kerf x a b)).1,(lookG (0,0) t (oneB x a b)).2+(lookG (0,0) t (twoB kerf x a b)).2))
def CutOk(kerf:Int)(u:Tab)(t:TabO)(a b:Nat)(x:Nat×Nat):Prop:=
 (-4611686018427387904≤look u (oneB x a b)+look u (twoB kerf x a b)∧look u (oneB x a b)+look u (twoB kerf x a b)≤4611686018427387904)∧
 (-4611686018427387904≤(lookG (0,0) t (oneB x a b)).1+(lookG (0,0) t (twoB kerf x a b)).1∧(lookG (0,0) t (oneB x a b)).1+(lookG (0,0) t (twoB kerf x a b)).1≤4611686018427387904)∧
 (-4611686018427387904≤(lookG (0,0) t (oneB x a b)).2+(lookG (0,0) t (twoB kerf x a b)).2∧(lookG (0,0) t (oneB x a b)).2+(lookG (0,0) t (twoB kerf x a b)).2≤4611686018427387904)
set_option maxHeartbeats 8000000 in
theorem cut_add(hp:primAS T)(hf:T 103=some f103)(f106:T 106=some f106){H:Heap}(hr:Rdy H){p11 p12 p13 p14 p15 p17 bb mb mo l2 a b:Nat}{kerf:Int}{x15 fv s1 s2:Value}{own:Bool}{u:Tab}{t:TabO}{st:(Int×Int)×Bool}{x:Nat×Nat}(hx:x.1=3∨x.1=4)(hx2:x.2<1000)(ha:a<1000)(hb:b<1000)(hk:0≤kerf∧kerf≤100)(hsum:CutOk kerf u t a b x)
 (gl:H.get l2=some (.loop [(11, .pointer (some ⟨p11,0,none⟩)),(12, .pointer (some ⟨p12,0,none⟩)),(13, .pointer (some ⟨p13,0,none⟩)),(14, .pointer (some ⟨p14,0,none⟩)),(15,x15),(17, .pointer (some ⟨p17,0,none⟩)),(76,fv)] [77] asg46c body46c 0 .normal))
 (g11:H.get p11=some (.cells [.pointer (some ⟨bb,0,none⟩)] true 1))(gb:H.get bb=some (.cells [s1, .int .i64 kerf,s2] own 1))(g13:H.get p13=some (.cells [.map (some mo)] true 1))(go:H.get mo=some (.map (entsG oV t)))(A:AddAt H p12 p14 p15 p17 mb u a b st):
 FW T (.yield l2) [nodeV x] H fun r H'=>r= .ret (.bool true)∧(∀z∈H'.log,p15≤z∧z<p15+2)∧(∀z,z<H.next→¬ (p15≤z∧z<p15+2)→H'.get z=H.get z)∧H'.get (p15+1)=some (.cells [.bool (addS (look u (a,b)) st (cutO kerf u t a b x).1 (cutO kerf u t a b x).2).2] true 1)∧H'.get p15=some (.cells [.int .i64 (addS (look u (a,b)) st (cutO kerf u t a b x).1 (cutO kerf u t a b x).2).1.1, .int .i64 (addS (look u (a,b)) st (cutO kerf u t a b x).1 (cutO kerf u t a b x).2).1.2] true 1):=by
 have n2:=ne_loop g11 gl
 have n3:=ne_loop gb gl
 have n4:=ne_loop g13 gl
 have n10:=ne_map go gl
 have n5:=ne_loop A.g12 gl
 have n6:=ne_loop A.g14 gl
 have n7:=ne_loop A.g15 gl
 have n8:=ne_loop A.g16 gl
 have n9:=ne_loop A.g17 gl
 have nm:=ne_map A.gm gl
 have k2:=WF.get_lt hr.wf g11
 have k3:=WF.get_lt hr.wf gb
 have k4:=WF.get_lt hr.wf g13
 have k10:=WF.get_lt hr.wf go
 have kl:=WF.get_lt hr.wf gl
 have k5:=WF.get_lt hr.wf A.g12
 have k6:=WF.get_lt hr.wf A.g14
 have k7:=WF.get_lt hr.wf A.g15
 have k8:=WF.get_lt hr.wf A.g16
 have k9:=WF.get_lt hr.wf A.g17
 have km:=WF.get_lt hr.wf A.gm
 have g17:=A.g17
 have g12:=A.g12
 have g14:=A.g14
 have gm:=A.gm
 obtain⟨hs1,hs2,hs3⟩:=hsum
 refine FW.mono' (FW.yieldN hp (lo:=p15) (N:=p15+2) (R:=fun H'=>(∀z,z<H.next→¬ (p15≤z∧z<p15+2)→H'.get z=H.get z)∧H'.get (p15+1)=some (.cells [.bool (addS (look u (a,b)) st (cutO kerf u t a b x).1 (cutO kerf u t a b x).2).2] true 1)∧H'.get p15=some (.cells [.int .i64 (addS (look u (a,b)) st (cutO kerf u t a b x).1 (cutO kerf u t a b x).2).1.1, .int .i64 (addS (look u (a,b)) st (cutO kerf u t a b x).1 (cutO kerf u t a b x).2).1.2] true 1)) gl rfl kl ?_) fun r H' q=>q
 unfold asg46c nodeV
 refine wE_region ?_;refine wO_val a_new ?_;refine yS ?_;refine wO_nil ?_
 refine y1 ?_
 refine⟨rfl,by(simp(disch:=first|omega|(simp only[z1,z2];omega))only[z3,z4,z5,z6,z7,z1,z2, *];exact rfl),?_⟩
 unfold body46c
 refine wE_block ?_;refine y4 ?_;refine yL ?_
 refine yN ?_
 refine yN ?_
 refine WO.gen ?_
 intro hA hAe
 have A1:∀z,z<H.next→z≠l2→hA.get z=H.get z:=fun z hz hne=>by rw[hAe];simp(disch:=first|omega|(simp only[z1,z2];omega))only[z5,z4]
 have A2:hA.get l2=some (.loop [(11, .pointer (some ⟨p11,0,none⟩)),(12, .pointer (some ⟨p12,0,none⟩)),(13, .pointer (some ⟨p13,0,none⟩)),(14, .pointer (some ⟨p14,0,none⟩)),(15,x15),(17, .pointer (some ⟨p17,0,none⟩)),(76,fv)] [77] asg46c body46c 1 .normal):=by rw[hAe];(simp(disch:=first|omega|(simp only[z1,z2];omega))only[z3,z4,z5,z6,z7,z1,z2, *];exact rfl)
 have A5:hA.next=H.next+1:=by rw[hAe];rfl
 have A6:hA.log=[]:=by rw[hAe];simp(disch:=first|omega|(simp only[z1,z2];omega))only[Heap.log_wr_new,Heap.log_push];exact hr.log
 have A7:WF hA:=by rw[hAe];exact(((hr.wf.push _).as (AS.wr _ _ _ _)).as (AS.wr _ _ _ _))
 clear hAe
 have B11:=(A1 _ k2 n2).trans g11
 have Bb:=(A1 _ k3 n3).trans gb
 have B13:=(A1 _ k4 n4).trans g13
 have Bo:=(A1 _ k10 n10).trans go
 have B17:=(A1 _ k9 n9).trans g17
 have B12:=(A1 _ k5 n5).trans g12
 have B14:=(A1 _ k6 n6).trans g14
 have Bm:=(A1 _ km nm).trans gm
 have A8:AddAt hA p12 p14 p15 p17 mb u a b st:=A.agree fun z o hz ho=>(A1 z (WF.get_lt hr.wf hz) (fun e=>by rw[e,gl]at hz;cases hz;cases ho)).trans hz
 refine yC ?_
 refine FW.pu (split106 hp f106 (.of A7) Bb (by show bb<hA.next;omega) hk hx hx2 ha hb) ?_
 refine yM ?_;refine yE ?_;refine yE ?_;refine wO_val a_new ?_;refine wO_val a_new ?_
 refine yS ?_
 refine yS ?_;refine y3 ?_;refine wE_draw ?_
 refine qL ?_
 refine qL ?_
 refine qN ?_
 refine wD_quiet rfl rfl rfl (by exact rfl) (by exact rfl) (by exact rfl) (a_lookup (x:=oneB x a b) (by exact rfl) (by exact rfl) (by(simp(disch:=first|omega|(simp only[z1,z2];omega))only[z3,z4,z5,z6,z7,z1,z2, *];exact rfl))) ?_
 refine qL ?_
 refine qN ?_
 refine wD_quiet rfl rfl rfl (by exact rfl) (by exact rfl) (by exact rfl) (a_lookup (x:=twoB kerf x a b) (by exact rfl) (by exact rfl) (by(simp(disch:=first|omega|(simp only[z1,z2];omega))only[z3,z4,z5,z6,z7,z1,z2, *];exact rfl))) ?_
 refine wD_quiet rfl rfl rfl (by exact rfl) (by exact rfl) (by exact rfl) (a_num (by exact rfl) (by exact rfl) (by exact m_add (wrapA_i64 (by omega) (by omega)))) ?_
 refine qL ?_
 refine qN ?_
 refine wD_quiet rfl rfl rfl (by exact rfl) (by exact rfl) (by exact rfl) (a_lookupG oV (0,0) (x:=oneB x a b) (by exact rfl) (by exact rfl) (by(simp(disch:=first|omega|(simp only[z1,z2];omega))only[z3,z4,z5,z6,z7,z1,z2, *];exact rfl)) rfl) ?_
 refine wD_quiet rfl rfl rfl (by exact rfl) (by exact rfl) (by exact rfl) (a_field (by exact rfl) (by exact rfl)) ?_
 refine qL ?_
 refine qN ?_
 refine wD_quiet rfl rfl rfl (by exact rfl) (by exact rfl) (by exact rfl) (a_lookupG oV (0,0) (x:=twoB kerf x a b) (by exact rfl) (by exact rfl) (by(simp(disch:=first|omega|(simp only[z1,z2];omega))only[z3,z4,z5,z6,z7,z1,z2, *];exact rfl)) rfl) ?_
 refine wD_quiet rfl rfl rfl (by exact rfl) (by exact rfl) (by exact rfl) (a_field (by exact rfl) (by exact rfl)) ?_;refine wD_quiet rfl rfl rfl (by exact rfl) (by exact rfl) (by exact rfl) (a_num (by exact rfl) (by exact rfl) (by exact m_add (wrapA_i64 (by omega) (by omega)))) ?_
 refine qL ?_
 refine qN ?_
 refine wD_quiet rfl rfl rfl (by exact rfl) (by exact rfl) (by exact rfl) (a_lookupG oV (0,0) (x:=oneB x a b) (by exact rfl) (by exact rfl) (by(simp(disch:=first|omega|(simp only[z1,z2];omega))only[z3,z4,z5,z6,z7,z1,z2, *];exact rfl)) rfl) ?_
 refine wD_quiet rfl rfl rfl (by exact rfl) (by exact rfl) (by exact rfl) (a_field (by exact rfl) (by exact rfl)) ?_
 refine qL ?_
 refine qN ?_
 refine wD_quiet rfl rfl rfl (by exact rfl) (by exact rfl) (by exact rfl) (a_lookupG oV (0,0) (x:=twoB kerf x a b) (by exact rfl) (by exact rfl) (by(simp(disch:=first|omega|(simp only[z1,z2];omega))only[z3,z4,z5,z6,z7,z1,z2, *];exact rfl)) rfl) ?_
 refine wD_quiet rfl rfl rfl (by exact rfl) (by exact rfl) (by exact rfl) (a_field (by exact rfl) (by exact rfl)) ?_;refine wD_quiet rfl rfl rfl (by exact rfl) (by exact rfl) (by exact rfl) (a_num (by exact rfl) (by exact rfl) (by exact m_add (wrapA_i64 (by omega) (by omega)))) ?_;refine wD_quiet rfl rfl rfl (by exact rfl) (by exact rfl) (by exact rfl) (a_build (by exact rfl)) ?_
 refine WD.gen ?_
 intro hB hBe
 have C1:∀z,z<hA.next→hB.get z=hA.get z:=fun z hz=>by rw[hBe];simp(disch:=first|omega|(simp only[z1,z2];omega))only[z5,z4]
 have C5:hB.next=hA.next+2:=by rw[hBe];rfl
 have C6:hB.log=[]:=by rw[hBe];simp(disch:=first|omega|(simp only[z1,z2];omega))only[Heap.log_wr_new,Heap.log_push];exact A6
 have C7:WF hB:=by rw[hBe];exact((((A7.push _).push _).as (AS.wr _ _ _ _)).as (AS.wr _ _ _ _))
 have C8:AddAt hB p12 p14 p15 p17 mb u a b st:=A8.agree fun z o hz ho=>(C1 z (WF.get_lt A7 hz)).trans hz
 clear hBe
 refine qC ?_
 refine FW.gsD (C8.log.call hp hf (.of C7) (look u (oneB x a b)+look u (twoB kerf x a b)) ((lookG (0,0) t (oneB x a b)).1+(lookG (0,0) t (twoB kerf x a b)).1,(lookG (0,0) t (oneB x a b)).2+(lookG (0,0) t (twoB kerf x a b)).2)) (fun _ _ _ q=>q) ?_
 rintro _ h' lg hw hlg ⟨rfl,q⟩
 refine⟨_,by apply ra_dropC rfl;apply ra_dropC rfl;apply ra_dropC rfl;apply ra_dropC rfl;apply ra_dropC rfl;apply ra_dropC rfl;apply ra_dropC rfl;apply ra_dropC rfl;apply ra_dropC rfl;apply ra_dropC rfl;apply ra_dropC rfl;apply ra_dropC rfl;apply ra_dropC rfl;apply ra_dropC rfl;apply ra_dropC rfl;apply ra_dropC rfl;apply ra_dropC rfl;apply ra_dropC rfl;apply ra_dropC rfl;apply ra_dropC rfl;apply ra_dropC rfl;apply ra_dropC rfl;apply ra_dropC rfl;apply ra_dropC rfl;apply ra_dropC rfl;apply ra_dropC rfl;apply ra_dropC rfl;exact ra_nil,?_⟩
 refine wD_nil ?_;refine y1 ?_;refine kB_n ?_
 refine⟨rfl,⟨_,(hw.old l2 (by omega) (by omega)).trans ((C1 l2 (by omega)).trans A2),rfl⟩,fun z hz=> ?_,fun h5 hn5 hag hl5=>⟨fun z hz hne=> ?_,(hag _ k8 n8).trans q.1,(hag _ k7 n7).trans q.2⟩⟩
 ·rcases hw.log z hz with q|q
  ·rw[C6]at q;cases q
  ·exact q
 ·by_cases hz2:z=l2
  ·rw[hz2];exact hl5.trans gl.symm
  ·exact(hag z hz hz2).trans ((hw.old z (by omega) hne).trans ((C1 z (by omega)).trans (A1 z hz hz2)))
end Go.A.Pk
end
section
set_option maxRecDepth 100000
namespace Go.A.Pk
variable {T:Nat→Option AFunc}
theorem FW.gs0{base:Nat}{Q:XQ}{e:Env}{ds:Dfs}{h:Heap}{f:Nat}{args:List Value}{S:Nat→Prop}{Q':Value→Heap→Prop}{K:Env→Dfs→Heap→Prop}{dst:Option Nat}(H:Gs T f args {h with log:=[]} S Q')(hlog:∀v (h':Heap) l,Q' v h'→Q' v {h' with log:=l})(hS:∀z,S z→base≤z)(hK:∀v h',h.next≤h'.next→h'.log=h.log→(∀z,z<h.next→¬S z→h'.get z=h.get z)→(WF h→WF h')→Q' v h'→K (dstE e dst v) ds h'):
 FW T (.func f) args {h with log:=[]} (KO K Q base dst e ds h.log):=by
 refine .func (CW.mono H ?_)
 rintro r h2 ⟨hx,v,rfl,hq⟩
 exact⟨hK v _ hx.next (mergeLog_ge fun z hz=>hS z ((hx.log z hz).elim (fun q=>by cases q) id)) hx.old (fun w=>(hx.wf (w.log [])).log _) (hlog v h2 _ hq)⟩
def addL(b:Int)(f:Nat×Nat→Int×(Int×Int))(xs:List (Nat×Nat))(st:(Int×Int)×Bool):(Int×Int)×Bool:=xs.foldl (fun st x=>addS b st (f x).1 (f x).2) st
theorem addL_snoc(b:Int)(f:Nat×Nat→Int×(Int×Int))(xs:List (Nat×Nat))(x:Nat×Nat)(st:(Int×Int)×Bool):addL b f (xs++[x]) st=addS b (addL b f xs st) (f x).1 (f x).2:=by simp[addL]
def oftenS(kerf:Int)(ws:List Int)(kl:List Kd)(kind:Int)(u:Tab)(t:TabO)(a b:Nat):(Int×Int)×Bool:=
 addL (look u (a,b)) (cutO kerf u t a b) (cutsL a b) (addL (look u (a,b)) (leafO ws kind) (leavesL a b kl 0) (addS (look u (a,b)) ((0,0),false) 0 (0,0)))
structure FnsO2 (T:Nat→Option AFunc):Prop extends FnsV T where
 f103:T 103=some f103
set_option maxHeartbeats 16000000 in
theorem often_round(F:FnsO2 T){H:Heap}(hr:Rdy H){p7 p11 p12 p13 mb mo bb l n c wc a b:Nat}{sa wa:Option Addr}{v1 v2 fv:Value}{kerf kind:Int}{ws:List Int}{kl:List Kd}{u:Tab}{t:TabO}(ha:a<1000)(hb:b<1000)(hn:n<1000)(hk:0≤kerf∧kerf≤100)
 (hsum:∀x∈cutsL a b,CutOk kerf u t a b x)(gl:H.get l=some (.loop [(1,v1),(2,v2),(7, .pointer (some ⟨p7,0,none⟩)),(11, .pointer (some ⟨p11,0,none⟩)),(12, .pointer (some ⟨p12,0,none⟩)),(13, .pointer (some ⟨p13,0,none⟩)),(46,fv)] [47] asg46a body46a 0 .normal))
 (g7:H.get p7=some (.cells [.int .i64 kind] true 1))(g11:H.get p11=some (.cells [.pointer (some ⟨bb,0,none⟩)] true 1))(g12:H.get p12=some (.cells [.map (some mb)] true 1))(g13:H.get p13=some (.cells [.map (some mo)] true 1))(gu:H.get mb=some (.map (ents u)))(go:H.get mo=some (.map (entsG oV t)))(gb:H.get bb=some (.cells [.slice sa n c, .int .i64 kerf, .slice wa n wc] true 1))(hks:SliceOf H 5 (.slice sa n c) n (kcs kl))(hws:SliceOf H 1 (.slice wa n wc) n (ints ws))(hmm:mb≠mo):
 FW T (.yield l) [boardV (a,b)] H fun r H'=>r= .ret (.bool true)∧(∀z∈H'.log,mo≤z∧z<mo+1)∧(∀z,z<H.next→z≠mo→H'.get z=H.get z)∧H'.get mo=some (.map (entsG oV (updG t (a,b) (oftenS kerf ws kl kind u t a b).1))):=by
 have n7:=ne_loop g7 gl
 have n11:=ne_loop g11 gl
 have n12:=ne_loop g12 gl
 have n13:=ne_loop g13 gl
 have nb:=ne_loop gb gl
 have nu:=ne_map gu gl
 have no:=ne_map go gl
 have m7:=ne_cm g7 go
 have m11:=ne_cm g11 go
 have m12:=ne_cm g12 go
 have m13:=ne_cm g13 go
 have mB:=ne_cm gb go
 have k7:=WF.get_lt hr.wf g7
 have k11:=WF.get_lt hr.wf g11
 have k12:=WF.get_lt hr.wf g12
 have k13:=WF.get_lt hr.wf g13
 have kb:=WF.get_lt hr.wf gb
 have ku:=WF.get_lt hr.wf gu
 have ko:=WF.get_lt hr.wf go
 have kl':=WF.get_lt hr.wf gl
 refine FW.yieldN F.p (R:=fun H'=>(∀z,z<H.next→z≠mo→H'.get z=H.get z)∧H'.get mo=some (.map (entsG oV (updG t (a,b) (oftenS kerf ws kl kind u t a b).1)))) gl rfl kl' ?_
 unfold asg46a
 refine wE_region ?_;refine wO_val a_new ?_;refine yS ?_;refine wO_nil ?_
 refine y1 ?_
 refine⟨rfl,by(simp(disch:=first|omega|(simp only[z1,z2];omega))only[z3,z4,z5,z6,z7,z1,z2, *];exact rfl),?_⟩
 unfold body46a
 refine wE_block ?_;refine y4 ?_;refine wO_val (a_build (by exact rfl)) ?_;refine wO_val a_new ?_;refine wO_val a_new ?_
 refine yS ?_
 refine yS ?_;refine y3 ?_;refine y4 ?_;refine wO_val (a_mkFunc (by exact rfl) (by exact rfl)) ?_;refine wO_val a_new ?_
 refine yS ?_;refine y3 ?_;refine y4 ?_
 refine yL ?_;refine wO_val (a_build (by exact rfl)) ?_
 refine WO.gen ?_
 intro hA hAe
 have A1:∀z,z<H.next→z≠l→hA.get z=H.get z:=fun z hz hne=>by rw[hAe];simp(disch:=first|omega|(simp only[z1,z2];omega))only[z5,z4]
 have A2:hA.get l=some (.loop [(1,v1),(2,v2),(7, .pointer (some ⟨p7,0,none⟩)),(11, .pointer (some ⟨p11,0,none⟩)),(12, .pointer (some ⟨p12,0,none⟩)),(13, .pointer (some ⟨p13,0,none⟩)),(46,fv)] [47] asg46a body46a 1 .normal):=by rw[hAe];(simp(disch:=first|omega|(simp only[z1,z2];omega))only[z3,z4,z5,z6,z7,z1,z2, *];exact rfl)
 have A14:hA.get H.next=some (.cells [.int .i64 a, .int .i64 b] true 1):=by rw[hAe];(simp(disch:=first|omega|(simp only[z1,z2];omega))only[z3,z4,z5,z6,z7,z1,z2, *];exact rfl)
 have A15:hA.get (H.next+1)=some (.cells [.int .i64 0, .int .i64 0] true 1):=by rw[hAe];(simp(disch:=first|omega|(simp only[z1,z2];omega)|(simp only[z1,z2];done)|fail)only[z8,z4,z5,z9,z7,z1,z2, *];exact rfl)
 have A16:hA.get (H.next+2)=some (.cells [.bool false] true 1):=by rw[hAe];(simp(disch:=first|omega|(simp only[z1,z2];omega)|(simp only[z1,z2];done)|fail)only[z8,z4,z5,z9,z7,z1,z2, *];exact rfl)
 have A17:hA.get (H.next+3)=some (.cells [.func (.func 103) #[] #[.pointer (some ⟨p12,0,none⟩), .pointer (some ⟨H.next,0,none⟩), .pointer (some ⟨H.next+2,0,none⟩), .pointer (some ⟨H.next+1,0,none⟩)]] true 1):=by rw[hAe];(simp(disch:=first|omega|(simp only[z1,z2];omega)|(simp only[z1,z2];done)|fail)only[z8,z4,z5,z9,z7,z1,z2, *];exact rfl)
 have A5:hA.next=H.next+4:=by rw[hAe];rfl
 have A6:hA.log=[]:=by rw[hAe];simp(disch:=first|omega|(simp only[z1,z2];omega))only[Heap.log_wr_new,Heap.log_push];exact hr.log
 have A7:WF hA:=by rw[hAe];exact((((((((((hr.wf.push _).as (AS.wr _ _ _ _)).as (AS.wr _ _ _ _)).push _).push _).as (AS.wr _ _ _ _)).as (AS.wr _ _ _ _)).push _).as (AS.wr _ _ _ _)))
 clear hAe
 have AA:AddAt hA p12 H.next (H.next+1) (H.next+3) mb u a b ((0,0),false):=⟨(A1 _ k12 n12).trans g12,(A1 _ ku nu).trans gu,A14,A15,A16,A17⟩
 refine yC ?_
 refine FW.gs0 (AA.log.call F.p F.f103 (.of A7) 0 (0,0)) (fun _ _ _ q=>q) (fun z hz=>by omega) ?_
 rintro _ hB hBn hBl hBo hBw ⟨rfl,hB16,hB15⟩
 have B1:∀z,z<H.next→z≠l→hB.get z=H.get z:=fun z hz hne=>(hBo z (by omega) (by omega)).trans (A1 z hz hne)
 have B2:=(hBo l (by omega) (by omega)).trans A2
 have B14:=(hBo H.next (by omega) (by omega)).trans A14
 have B17:=(hBo (H.next+3) (by omega) (by omega)).trans A17
 have B6:=hBl.trans A6
 have B7:=hBw A7
 clear hBo hBl hBw AA A1 A2 A14 A15 A16 A17 A6 A7
 generalize hst0:addS (look u (a,b)) ((0,0),false) 0 (0,0)=st0 at hB16 hB15
 have B11:=(B1 _ k11 n11).trans g11
 refine y3 ?_;refine wE_seq ?_;refine y4 ?_;refine yL ?_;refine yN ?_
 refine yC ?_
 refine FW.al (leaves104 F.p F.f104 (.of B7) bb a b) (fun _ _ _ q=>q) ?_
 rintro _ h1 hx1 ⟨rfl,hn1,gp,gx⟩
 have eB:({hB with log:=[]}:Heap).next=hB.next:=rfl
 rw[eB]at hn1 gp gx
 rw[eB]
 have C1:∀z,z<H.next→z≠l→h1.get z=H.get z:=fun z hz hne=>(hx1.old z (by omega)).trans (B1 z hz hne)
 have C2:=(hx1.old l (by omega)).trans B2
 have C14:=(hx1.old H.next (by omega)).trans B14
 have C15:=(hx1.old (H.next+1) (by omega)).trans hB15
 have C16:=(hx1.old (H.next+2) (by omega)).trans hB16
 have C17:=(hx1.old (H.next+3) (by omega)).trans B17
 have C6:h1.log=[]:=hx1.log.trans B6
 have C7:WF h1:=hx1.wf B7
 have hlen:kl.length=n:=by have:=hks.len;rw[kcs_length]at this;omega
 clear hx1 B1 B2 B14 hB15 hB16 B17 B6 B7 B11
 refine y3 ?_;refine wE_block ?_
 refine inner_rangeS (lo:=H.next+1) (S:=fun z=>H.next+1≤z∧z<H.next+3) (all:=leavesL a b kl 0) (P0:=fun d H'=>H'.get (H.next+2)=some (.cells [.bool (addL (look u (a,b)) (leafO ws kind) d st0).2] true 1)∧H'.get (H.next+1)=some (.cells [.int .i64 (addL (look u (a,b)) (leafO ws kind) d st0).1.1, .int .i64 (addL (look u (a,b)) (leafO ws kind) d st0).1.2] true 1)) (round_ok C2) (by rfl) (by rw[F.f140];rfl) (by omega) (by omega) C6 C7 (fun x hx=>by omega) (fun d H1 H2 h q=>⟨(h _ (by omega)).trans q.1,(h _ (by omega)).trans q.2⟩) ?_ ?_
 ·refine leaves140 F.p F.f140 (.of (C7.push _)) (pb:=hB.next) (bb:=bb) (px:=hB.next+1) (l':=h1.next) (N:=h1.next+1) (lo:=H.next+1) (a:=a) (b:=b) (n:=n) (c:=c) (sa:=sa) (l:=kl) (v1:= .int .i64 kerf) (v2:= .slice wa n wc) (Nat.le_refl _) (by show H.next+1≤h1.next+1;omega) hn
   (PWS.yld F.p (fun x hx=>by omega) (fun d H1 H2 h q=>⟨(h _ (by omega)).trans q.1,(h _ (by omega)).trans q.2⟩) fun done x H' hx hr' hlt hP=> ?_) ((z4 (by omega)).trans gp) ((z4 (by omega)).trans ((C1 bb kb nb).trans gb)) (fun d H' hP=> ?_) (fun d H' hP=>(hP.old _ (by omega) (by omega)).trans gx) ⟨fun z hz _=>z4 hz,⟨(z4 (by omega)).trans C16,(z4 (by omega)).trans C15⟩,z3 _ _,Nat.lt_succ_self _⟩
  ·have hO:∀z,z<H.next→z≠l→H'.get z=H.get z:=fun z hz hne=>(hP.old z (by omega) (by omega)).trans (C1 z hz hne)
   refine FW.mono' (leaf_add F.p F.f103 hr' (x:=x) (n:=n) (p15:=H.next+1) (a:=a) (b:=b) (st:=addL (look u (a,b)) (leafO ws kind) done st0) (by have:=leaves_idx x hx;omega) hP.loop ((hO _ k7 n7).trans g7) ((hO _ k11 n11).trans g11) ((hO _ kb nb).trans gb) (SliceOf.agree hws (by omega) fun b0 vs o t hb he=>hO b0 hb (ne_loop he gl)) ⟨(hO _ k12 n12).trans g12,(hO _ ku nu).trans gu,(hP.old H.next (by omega) (by omega)).trans C14,hP.obj.2,hP.obj.1,(hP.old (H.next+3) (by omega) (by omega)).trans C17⟩) ?_
   rintro r H'' ⟨q1,q2,q3,q4⟩
   exact⟨q1,q2,q3,by rw[addL_snoc];exact q4⟩
  ·have:=hP.nx
   exact SliceOf.agree hks (by omega) fun b0 vs o t hb he=>(hP.old b0 (by omega) (by omega)).trans (C1 b0 hb (ne_loop he gl))
 intro h3 c1 c2 c3 c4 c5
 have D1:∀z,z<H.next→z≠l→h3.get z=H.get z:=fun z hz hne=>(c4 z (by omega) (by omega)).trans (C1 z hz hne)
 have D2:=(c4 l (by omega) (by omega)).trans C2
 have D14:=(c4 H.next (by omega) (by omega)).trans C14
 have D17:=(c4 (H.next+3) (by omega) (by omega)).trans C17
 have D11:=(D1 _ k11 n11).trans g11
 clear C1 C2 C14 C15 C16 C17 C6 C7 c4 gp gx
 obtain⟨d16,d15⟩:=c5
 generalize hst1:addL (look u (a,b)) (leafO ws kind) (leavesL a b kl 0) st0=st1 at d16 d15
 refine kB_n ?_;refine kS_n ?_;refine wE_seq ?_;refine y4 ?_;refine yL ?_;refine yN ?_
 refine yC ?_
 refine FW.al (cuts105 F.p F.f105 (.of c2) _ a b) (fun _ _ _ q=>q) ?_
 rintro _ h4 hx4 ⟨rfl,hn4,gx4⟩
 have e3:({h3 with log:=[]}:Heap).next=h3.next:=rfl
 rw[e3]at hn4 gx4
 rw[e3]
 have E1:∀z,z<H.next→z≠l→h4.get z=H.get z:=fun z hz hne=>(hx4.old z (by omega)).trans (D1 z hz hne)
 have E2:=(hx4.old l (by omega)).trans D2
 have E14:=(hx4.old H.next (by omega)).trans D14
 have E15:=(hx4.old (H.next+1) (by omega)).trans d15
 have E16:=(hx4.old (H.next+2) (by omega)).trans d16
 have E17:=(hx4.old (H.next+3) (by omega)).trans D17
 have E6:h4.log=[]:=hx4.log.trans c1
 have E7:WF h4:=hx4.wf c2
 clear hx4 D1 D2 D14 D17 D11 d15 d16 c1 c2
 refine y3 ?_;refine wE_block ?_
 refine inner_rangeS (lo:=H.next+1) (S:=fun z=>H.next+1≤z∧z<H.next+3) (all:=cutsL a b) (P0:=fun d H'=>H'.get (H.next+2)=some (.cells [.bool (addL (look u (a,b)) (cutO kerf u t a b) d st1).2] true 1)∧H'.get (H.next+1)=some (.cells [.int .i64 (addL (look u (a,b)) (cutO kerf u t a b) d st1).1.1, .int .i64 (addL (look u (a,b)) (cutO kerf u t a b) d st1).1.2] true 1)) (round_ok E2) (by rfl) (by rw[F.f141];rfl) (by omega) (by omega) E6 E7 (fun x hx=>by omega) (fun d H1 H2 h q=>⟨(h _ (by omega)).trans q.1,(h _ (by omega)).trans q.2⟩) ?_ ?_
 ·refine cuts141 F.p F.f141 (.of (E7.push _)) (bx:=h3.next) (l:=h4.next) (N:=h4.next+1) (lo:=H.next+1) (a:=a) (b:=b) (Nat.le_refl _) (by show H.next+1≤h4.next+1;omega) ha hb
   (PWS.yld F.p (fun x hx=>by omega) (fun d H1 H2 h q=>⟨(h _ (by omega)).trans q.1,(h _ (by omega)).trans q.2⟩) fun done x H' hx hr' hlt hP=> ?_) (fun d H' hP=>(hP.old _ (by omega) (by omega)).trans gx4) ⟨fun z hz _=>z4 hz,⟨(z4 (by omega)).trans E16,(z4 (by omega)).trans E15⟩,z3 _ _,Nat.lt_succ_self _⟩
  have hxc:=cuts_of hx
  have hO:∀z,z<H.next→z≠l→H'.get z=H.get z:=fun z hz hne=>(hP.old z (by omega) (by omega)).trans (E1 z hz hne)
  refine FW.mono' (cut_add F.p F.f103 F.f106 hr' (x:=x) (p15:=H.next+1) (a:=a) (b:=b) (kerf:=kerf) (t:=t) (st:=addL (look u (a,b)) (cutO kerf u t a b) done st1) (by omega) (by omega) ha hb hk (hsum x hx) hP.loop ((hO _ k11 n11).trans g11) ((hO _ kb nb).trans gb) ((hO _ k13 n13).trans g13) ((hO _ ko no).trans go) ⟨(hO _ k12 n12).trans g12,(hO _ ku nu).trans gu,(hP.old H.next (by omega) (by omega)).trans E14,hP.obj.2,hP.obj.1,(hP.old (H.next+3) (by omega) (by omega)).trans E17⟩) ?_
  rintro r H'' ⟨q1,q2,q3,q4⟩
  exact⟨q1,q2,q3,by rw[addL_snoc];exact q4⟩
 intro h5 c1 c2 c3 c4 c5
 have G1:∀z,z<H.next→z≠l→h5.get z=H.get z:=fun z hz hne=>(c4 z (by omega) (by omega)).trans (E1 z hz hne)
 have G2:=(c4 l (by omega) (by omega)).trans E2
 have G14:=(c4 H.next (by omega) (by omega)).trans E14
 have G13:h5.get p13=some (.cells [.map (some mo)] true 1):=(G1 _ k13 n13).trans g13
 have G8:h5.get mo=some (.map (entsG oV t)):=(G1 _ ko no).trans go
 obtain⟨d16,d15⟩:=c5
 clear E1 E2 E14 E15 E16 E17 E6 E7 c4 gx4
 have hS:oftenS kerf ws kl kind u t a b=addL (look u (a,b)) (cutO kerf u t a b) (cutsL a b) st1:=by unfold oftenS;rw[hst0,hst1]
 rw[←hS]at d16 d15
 refine kB_n ?_;refine kS_n ?_;refine wE_region ?_;refine yL ?_;refine yN ?_;refine yN ?_
 refine wO_val (a_mapUpG oV (x:=(a,b)) (z:=(oftenS kerf ws kl kind u t a b).1) (by exact rfl) (by exact rfl) (by exact rfl) G8) ?_
 refine wO_nil ?_;refine y1 ?_;refine kB_n ?_
 refine⟨rfl,⟨_,by(simp(disch:=first|omega|(simp only[z1,z2];omega))only[z3,z4,z5,z6,z7,z1,z2, *];exact rfl),rfl⟩,?_,?_⟩
 ·intro z hz
  rw[log_wr_q c1 ko]at hz
  simp at hz;omega
 ·intro h6 hn6 hag hl6
  refine⟨fun z hz hne=> ?_,(hag mo ko no).trans (Heap.get_wr_new G8)⟩
  by_cases hz2:z=l
  ·rw[hz2];exact hl6.trans gl.symm
  ·exact(hag z hz hz2).trans ((z5 hne).trans (G1 z hz hz2))
end Go.A.Pk
end
section
namespace Go.A.Pk
def tab1(t:TabO):Tab:=t.map fun e=>(e.1,e.2.1)
def tab2(t:TabO):Tab:=t.map fun e=>(e.1,e.2.2)
theorem look_tab1(x:Int×Int):∀t:TabO,look (tab1 t) x=(lookG (0,0) t x).1
 |[]=>rfl
 |e::t=>by
  show(if isKey x (e.1,e.2.1)=true then e.2.1 else look (tab1 t) x)=(if isKeyG x e.1=true then e.2 else lookG (0,0) t x).1
  rw[look_tab1 x t]
  have:isKey x (e.1,e.2.1)=isKeyG x e.1:=rfl
  rw[this]
  split<;>rfl
theorem look_tab2(x:Int×Int):∀t:TabO,look (tab2 t) x=(lookG (0,0) t x).2
 |[]=>rfl
 |e::t=>by
  show(if isKey x (e.1,e.2.2)=true then e.2.2 else look (tab2 t) x)=(if isKeyG x e.1=true then e.2 else lookG (0,0) t x).2
  rw[look_tab2 x t]
  have:isKey x (e.1,e.2.2)=isKeyG x e.1:=rfl
  rw[this]
  split<;>rfl
theorem tab1_upd(x:Nat×Nat)(v:Int×Int):∀t:TabO,tab1 (updG t x v)=upd (tab1 t) x v.1
 |[]=>rfl
 |e::t=>by
  show tab1 (if isKeyG (x.1,x.2) e.1=true then(x,v)::t else e::updG t x v)=(if isKey (x.1,x.2) (e.1,e.2.1)=true then(x,v.1)::tab1 t else(e.1,e.2.1)::upd (tab1 t) x v.1)
  have:isKey ((x.1:Int),(x.2:Int)) (e.1,e.2.1)=isKeyG (x.1,x.2) e.1:=rfl
  rw[this]
  split
  ·rfl
  ·show(e.1,e.2.1)::tab1 (updG t x v)=_
   rw[tab1_upd x v t]
theorem tab2_upd(x:Nat×Nat)(v:Int×Int):∀t:TabO,tab2 (updG t x v)=upd (tab2 t) x v.2
 |[]=>rfl
 |e::t=>by
  show tab2 (if isKeyG (x.1,x.2) e.1=true then(x,v)::t else e::updG t x v)=(if isKey (x.1,x.2) (e.1,e.2.2)=true then(x,v.2)::tab2 t else(e.1,e.2.2)::upd (tab2 t) x v.2)
  have:isKey ((x.1:Int),(x.2:Int)) (e.1,e.2.2)=isKeyG (x.1,x.2) e.1:=rfl
  rw[this]
  split
  ·rfl
  ·show(e.1,e.2.2)::tab2 (updG t x v)=_
   rw[tab2_upd x v t]
def BdO(t:TabO):Prop:=Bd 1 (tab1 t)∧Bd 1 (tab2 t)
def In(B:Int)(p:Int×Int):Prop:=(0≤p.1∧p.1≤B)∧(0≤p.2∧p.2≤B)
theorem addS_in{B b w:Int}{st:(Int×Int)×Bool}{o:Int×Int}(h1:In B st.1)(h2:In B o):In B (addS b st w o).1:=by
 unfold addS
 split
 ·split
  ·unfold In mn mx at*
   constructor
   ·show 0≤(if o.1<st.1.1 then o.1 else st.1.1)∧(if o.1<st.1.1 then o.1 else st.1.1)≤B
    split<;>omega
   ·show 0≤(if o.2>st.1.2 then o.2 else st.1.2)∧(if o.2>st.1.2 then o.2 else st.1.2)≤B
    split<;>omega
  ·exact h2
 ·exact h1
theorem addL_in{B b:Int}{f:Nat×Nat→Int×(Int×Int)}:∀{xs:List (Nat×Nat)} {st:(Int×Int)×Bool},In B st.1→(∀x∈xs,In B (f x).2)→In B (addL b f xs st).1
 |[],_,h,_=>h
 |x::xs,st,h,hx=>addL_in (xs:=xs) (st:=addS b st (f x).1 (f x).2) (addS_in h (hx x (List.mem_cons_self ..))) fun y hy=>hx y (List.mem_cons_of_mem _ hy)
theorem cutO_bd{kerf:Int}{u:Tab}{t:TabO}{W:Int}(hW:0≤W∧W≤1000000000)(hk:0≤kerf)(hu:Bd W u)(ht:BdO t){a b:Nat}(ha:a<1000)(hb:b<1000){x:Nat×Nat}(hx:x∈cutsL a b):CutOk kerf u t a b x∧In ((a:Int)*(b:Int)) (cutO kerf u t a b x).2:=by
 have h1:=cut_bd hW.1 hk hu hx
 have h2:=cut_bd (W:=1) (by omega) hk ht.1 hx
 have h3:=cut_bd (W:=1) (by omega) hk ht.2 hx
 rw[look_tab1,look_tab1]at h2
 rw[look_tab2,look_tab2]at h3
 have h4:W*((a:Int)*(b:Int))≤1000000000*(1000*1000):=Int.le_trans (area_mono (W:=W) (a:=a) (b:=b) (c:=1000) (d:=1000) hW.1 (by omega) (by omega) (by omega) (by omega)) (Int.mul_le_mul_of_nonneg_right hW.2 (by omega))
 have h5:1*((a:Int)*(b:Int))≤1*(1000*1000):=area_mono (W:=1) (a:=a) (b:=b) (c:=1000) (d:=1000) (by omega) (by omega) (by omega) (by omega) (by omega)
 unfold CutOk In cutO
 refine⟨⟨⟨by omega,by omega⟩,⟨by omega,by omega⟩,⟨by omega,by omega⟩⟩,⟨h2.1,by simpa using h2.2⟩,⟨h3.1,by simpa using h3.2⟩⟩
theorem oftenS_bd{kerf kind:Int}{ws:List Int}{kl:List Kd}{u:Tab}{t:TabO}{W:Int}(hW:0≤W∧W≤1000000000)(hk:0≤kerf)(hu:Bd W u)(ht:BdO t){a b:Nat}(ha:a<1000)(hb:b<1000)(ha1:1≤a)(hb1:1≤b):In ((a:Int)*(b:Int)) (oftenS kerf ws kl kind u t a b).1:=by
 have hp:(1:Int)≤(a:Int)*(b:Int):=by
  have:=area_mono (W:=1) (a:=1) (b:=1) (c:=a) (d:=b) (by omega) (by omega) (by omega) (by omega) (by omega)
  omega
 refine addL_in (addL_in (addS_in ⟨by simp;omega,by simp;omega⟩ ⟨by simp;omega,by simp;omega⟩) fun x _=> ?_) fun x hx=>(cutO_bd hW hk hu ht ha hb hx).2
 unfold leafO In
 split<;>simp<;>omega
theorem BdO.upd{t:TabO}{x:Nat×Nat}{v:Int×Int}(h:BdO t)(hx:1≤x.1∧1≤x.2)(hv:In ((x.1:Int)*(x.2:Int)) v):BdO (updG t x v):=by
 unfold BdO
 rw[tab1_upd,tab2_upd]
 exact⟨upd_bd hx ⟨hv.1.1,by have:=hv.1.2;omega⟩ h.1,upd_bd hx ⟨hv.2.1,by have:=hv.2.2;omega⟩ h.2⟩
def oftenL(kerf:Int)(ws:List Int)(kl:List Kd)(kind:Int)(u:Tab)(done:List (Nat×Nat)):TabO:=done.foldl (fun t x=>updG t x (oftenS kerf ws kl kind u t x.1 x.2).1) []
theorem oftenL_snoc(kerf:Int)(ws:List Int)(kl:List Kd)(kind:Int)(u:Tab)(done:List (Nat×Nat))(x:Nat×Nat):oftenL kerf ws kl kind u (done++[x])=updG (oftenL kerf ws kl kind u done) x (oftenS kerf ws kl kind u (oftenL kerf ws kl kind u done) x.1 x.2).1:=by simp[oftenL]
def padd(p q:Int×Int):Int×Int:=(p.1+q.1,p.2+q.2)
def OF(kerf:Int)(ws:List Int)(kl:List Kd)(kind:Int):Nat→Int×Int→Int×Int
 |0,_=>(0,0)
 |n+1,p=>if 1≤p.1∧1≤p.2 then
   (addL (V kerf ws kl p) (fun x=>(V kerf ws kl (oneB x p.1.toNat p.2.toNat)+V kerf ws kl (twoB kerf x p.1.toNat p.2.toNat),padd (OF kerf ws kl kind n (oneB x p.1.toNat p.2.toNat)) (OF kerf ws kl kind n (twoB kerf x p.1.toNat p.2.toNat)))) (cutsL p.1.toNat p.2.toNat)
     (addL (V kerf ws kl p) (leafO ws kind) (leavesL p.1.toNat p.2.toNat kl 0) (addS (V kerf ws kl p) ((0,0),false) 0 (0,0)))).1 else(0,0)
variable {kerf:Int} {ws:List Int} {kl:List Kd} {kind:Int}
theorem addL_congr{b:Int}{f g:Nat×Nat→Int×(Int×Int)}:∀{xs:List (Nat×Nat)} {st:(Int×Int)×Bool},(∀x∈xs,f x=g x)→addL b f xs st=addL b g xs st
 |[],_,_=>rfl
 |x::xs,st,h=>by
  show addL b f xs (addS b st (f x).1 (f x).2)=addL b g xs (addS b st (g x).1 (g x).2)
  rw[h x (List.mem_cons_self ..),addL_congr fun y hy=>h y (List.mem_cons_of_mem _ hy)]
theorem OF_succ(hk:0≤kerf):∀{n:Nat} {p:Int×Int},sz p≤n→OF kerf ws kl kind (n+1) p=OF kerf ws kl kind n p
 |0,p,h=>by
  unfold sz at h
  simp only[OF]
  rw[if_neg (by omega)]
 |n+1,p,h=>by
  rw[OF,OF]
  split
  ·refine congrArg (·.1) (addL_congr fun x hx=> ?_)
   have:=cut_lt hk hx
   unfold sz at h
   rw[OF_succ hk (by omega),OF_succ hk (by omega)]
  ·rfl
theorem OF_ge(hk:0≤kerf){n:Nat}{p:Int×Int}(h:sz p≤n):∀{m:Nat},n≤m→OF kerf ws kl kind m p=OF kerf ws kl kind n p:=by
 intro m hm
 induction m with
 |zero=>obtain rfl:n=0:=by omega
        rfl
 |succ m ih=>
  by_cases e:n=m+1
  ·rw[e]
  ·rw[OF_succ hk (by omega),ih (by omega)]
def Of(kerf:Int)(ws:List Int)(kl:List Kd)(kind:Int)(p:Int×Int):Int×Int:=OF kerf ws kl kind (sz p) p
theorem Of_out{p:Int×Int}(h:¬ (1≤p.1∧1≤p.2)):Of kerf ws kl kind p=(0,0):=by
 unfold Of
 cases sz p with
 |zero=>rfl
 |succ n=>rw[OF,if_neg h]
def cutP(kerf:Int)(ws:List Int)(kl:List Kd)(kind:Int)(a b:Nat)(x:Nat×Nat):Int×(Int×Int):=(V kerf ws kl (oneB x a b)+V kerf ws kl (twoB kerf x a b),padd (Of kerf ws kl kind (oneB x a b)) (Of kerf ws kl kind (twoB kerf x a b)))
theorem Of_eq(hk:0≤kerf){a b:Nat}(ha:1≤a)(hb:1≤b):Of kerf ws kl kind ((a:Int),(b:Int))=(addL (V kerf ws kl ((a:Int),(b:Int))) (cutP kerf ws kl kind a b) (cutsL a b) (addL (V kerf ws kl ((a:Int),(b:Int))) (leafO ws kind) (leavesL a b kl 0) (addS (V kerf ws kl ((a:Int),(b:Int))) ((0,0),false) 0 (0,0)))).1:=by
 have hs:sz ((a:Int),(b:Int))=a+b:=by simp[sz]
 unfold Of
 rw[hs]
 obtain⟨n,hn⟩:∃n,a+b=n+1:=⟨a+b-1,by omega⟩
 rw[hn,OF,if_pos ⟨by show(1:Int)≤a;omega,by show(1:Int)≤b;omega⟩]
 refine congrArg (·.1) (addL_congr fun x hx=> ?_)
 have:sz (oneB x a b)<a+b∧sz (twoB kerf x a b)<a+b:=cut_lt hk hx
 show(V kerf ws kl (oneB x a b)+V kerf ws kl (twoB kerf x a b),padd (OF kerf ws kl kind n (oneB x a b)) (OF kerf ws kl kind n (twoB kerf x a b)))=_
 rw[OF_ge hk (n:=sz (oneB x a b)) (Nat.le_refl _) (by omega),OF_ge hk (n:=sz (twoB kerf x a b)) (Nat.le_refl _) (by omega)]
 rfl
theorem often_look(hk:0≤kerf){u:Tab}{w h:Nat}(hu:∀z:Int×Int,(1≤z.1∧1≤z.2→z.1≤w∧z.2≤h)→look u z=V kerf ws kl z):∀(i j:Nat),j≤h→i≤w→(j=0∨i<w)→∀y:Int×Int,lookG (0,0) (oftenL kerf ws kl kind u (boardsL i h++row (i+1) j)) y=
 if(1≤y.1∧y.1≤i∧1≤y.2∧y.2≤h)∨(y.1=(i:Int)+1∧1≤y.2∧y.2≤j)then Of kerf ws kl kind y else(0,0)
 |0,0,_,_,_,y=>by
  rw[if_neg (by omega)]
  rfl
 |i+1,0,hj,hi,_,y=>by
  have e:boardsL (i+1) h++row (i+1+1) 0=boardsL i h++row (i+1) h:=by simp[boardsL,row]
  rw[e,often_look hk hu i h (Nat.le_refl _) (by omega) (.inr (by omega)) y]
  have:((1≤y.1∧y.1≤i∧1≤y.2∧y.2≤h)∨(y.1=(i:Int)+1∧1≤y.2∧y.2≤h))↔((1≤y.1∧y.1≤(i+1:Nat)∧1≤y.2∧y.2≤h)∨(y.1=((i+1:Nat):Int)+1∧1≤y.2∧y.2≤(0:Nat))):=by omega
  by_cases hc:(1≤y.1∧y.1≤i∧1≤y.2∧y.2≤h)∨(y.1=(i:Int)+1∧1≤y.2∧y.2≤h)
  ·rw[if_pos hc,if_pos (this.1 hc)]
  ·rw[if_neg hc,if_neg (fun q=>hc (this.2 q))]
 |i,j+1,hj,hi,hij,y=>by
  have ih:=often_look hk hu i j (by omega) hi (by omega)
  rw[row_succ,←List.append_assoc,oftenL_snoc,look_updG,ih y]
  have hval:(oftenS kerf ws kl kind u (oftenL kerf ws kl kind u (boardsL i h++row (i+1) j)) (i+1) (j+1)).1=Of kerf ws kl kind (((i+1:Nat):Int),((j+1:Nat):Int)):=by
   have hV:=hu (((i+1:Nat):Int),((j+1:Nat):Int)) (by simp;omega)
   rw[Of_eq hk (by omega) (by omega)]
   unfold oftenS
   rw[hV]
   refine congrArg (·.1) (addL_congr fun x hx=> ?_)
   have key:∀z:Int×Int,(1≤z.1∧1≤z.2→((1≤z.1∧z.1≤i∧1≤z.2∧z.2≤h)∨(z.1=(i:Int)+1∧1≤z.2∧z.2≤j)))→lookG (0,0) (oftenL kerf ws kl kind u (boardsL i h++row (i+1) j)) z=Of kerf ws kl kind z:=fun z hz=>by
    rw[ih]
    by_cases hc:1≤z.1∧1≤z.2
    ·rw[if_pos (hz hc)]
    ·rw[if_neg (by omega),Of_out hc]
   unfold cutO cutP padd
   rcases cuts_of hx with⟨e3,hl,hu'⟩|⟨e4,hl,hu'⟩
   ·rw[key (oneB x (i+1) (j+1)) (by simp only[oneB,e3,if_true];omega),key (twoB kerf x (i+1) (j+1)) (by simp only[twoB,e3,if_true];omega),hu (twoB kerf x (i+1) (j+1)) (by simp only[twoB,e3,if_true];omega),hu (oneB x (i+1) (j+1)) (by simp only[oneB,e3,if_true];omega)]
   ·have n3:¬x.1=3:=by omega
    rw[key (oneB x (i+1) (j+1)) (by simp only[oneB,if_neg n3];omega),key (twoB kerf x (i+1) (j+1)) (by simp only[twoB,if_neg n3];omega),hu (twoB kerf x (i+1) (j+1)) (by simp only[twoB,if_neg n3];omega),hu (oneB x (i+1) (j+1)) (by simp only[oneB,if_neg n3];omega)]
  by_cases he:y=(((i+1:Nat):Int),((j+1:Nat):Int))
  ·rw[if_pos he,hval,if_pos (by rw[he];simp;omega),he]
  ·rw[if_neg he]
   have hne:¬ (y.1=((i+1:Nat):Int)∧y.2=((j+1:Nat):Int)):=fun q=>he (Prod.ext q.1 q.2)
   by_cases hc:(1≤y.1∧y.1≤i∧1≤y.2∧y.2≤h)∨(y.1=(i:Int)+1∧1≤y.2∧y.2≤j)
   ·rw[if_pos hc,if_pos (by omega)]
   ·rw[if_neg hc,if_neg (by omega)]
theorem often_Of(hk:0≤kerf){w h:Nat}(hw:1≤w)(hh:1≤h):lookG (0,0) (oftenL kerf ws kl kind (tabL kerf ws kl (boardsL w h)) (boardsL w h)) ((w:Int),(h:Int))=Of kerf ws kl kind ((w:Int),(h:Int)):=by
 have:=often_look hk (ws:=ws) (kl:=kl) (kind:=kind) (tab_V (ws:=ws) (kl:=kl) hk (w:=w) (h:=h)) w 0 (Nat.zero_le _) (Nat.le_refl _) (.inl rfl) ((w:Int),(h:Int))
 rw[show boardsL w h++row (w+1) 0=boardsL w h by simp[row]]at this
 rw[this,if_pos (by simp;omega)]
end Go.A.Pk
end
section
set_option maxRecDepth 100000
namespace Go.A.Pk
variable {T:Nat→Option AFunc}
structure FnsO3 (T:Nat→Option AFunc):Prop extends FnsW T,FnsO2 T where
 f46:T 46=some f46
def ofP(kerf:Int)(l:List Kd)(w ht kind:Int):Int×Int:=if askK kerf l w ht kind=0 then Of kerf (wsOf l) l kind (w,ht)else(0,0)
def ofR(kerf:Int)(l:List Kd)(w ht kind:Int):Value:= .tuple #[.int .i64 (ofP kerf l w ht kind).1, .int .i64 (ofP kerf l w ht kind).2, .int .i64 (askK kerf l w ht kind)]
theorem SliceOf.ints_wr{base:Nat}{h:Heap}{n q s0:Nat}{v p:Value}{xs:List Int}{o0:Bool}{o:AObj}(s:SliceOf h 1 v n (ints xs))(hq:h.get q=some (.cells [p] o0 s0))(hp:∀z,p≠ .int .i64 z)(h0:n≠0):SliceOf (h.wr base q o) 1 v n (ints xs):=by
 rcases s.inv with⟨_,_,e,_⟩|⟨b,o',cap,rfl,s',hc⟩
 ·exact(h0 e).elim
 ·obtain⟨vs,own,t,h1,h2⟩:=s'.obj
  have hne:b≠q:=fun e=>by
   subst e
   rw[hq]at h1
   cases h1
   have hl:=s'.len
   rw[ltake_eq,ldrop_eq]at h2
   rw[←h2,List.length_take,List.length_drop]at hl
   have e1:o'=0:=by simp at hl;omega
   have e2:n=1:=by simp at hl;omega
   subst e1 e2
   cases xs with
   |nil=>simp[ints]at h2
   |cons x xs=>simp[ints]at h2;exact hp x h2.1
  exact .mem ⟨s'.lt,⟨vs,own,t,(z5 hne).trans h1,h2⟩,s'.len⟩ hc
set_option maxHeartbeats 8000000 in
theorem often46(F:FnsO3 T){h:Heap}(hr:Rdy h){a:Option Addr}{n c:Nat}{l:List Kd}(hs:SliceOf h 5 (.slice a n c) n (kcs l))(kerf:Int)(hn:n<1000000)(w ht kind:Int):Pu T 46 [.agg #[.slice a n c, .int .i64 kerf], .int .i64 w, .int .i64 ht, .int .i64 kind] h (ofR kerf l w ht kind):=by
 have hp:=F.toFnsO2.toFnsV.p
 refine .of hp F.f46 hr rfl ?_
 have hx:Ext h (((h.push (.cells [.slice a n c, .int .i64 kerf] true 1)).push (.cells [.int .i64 kind] true 1)).push (.cells [.pointer none] true 1)):=(((Ext.refl h).push _).push _).push _
 obtain rfl:n=l.length:=by have:=hs.len;rw[kcs_length]at this;omega
 refine y4 ?_;refine yB ?_;refine yB ?_;refine yM ?_;refine yM ?_;refine yM ?_;refine y3 ?_;refine wE_seq ?_;refine wE_draw ?_
 refine qN ?_
 refine qM ?_;refine qM ?_
 refine qN ?_
 refine qL ?_
 refine wD_new rfl rfl rfl (by exact rfl) (by exact rfl) (by exact rfl) a_new (by refine rs_cons (rq_quiet rfl (a_load (by exact rfl) (by(simp(disch:=first|omega|(simp only[z1,z2];omega)|(simp only[z1,z2];done)|fail)only[z8,z4,z5,z9,z7,z1,z2, *];exact rfl)) (by exact rfl)) (by exact sv_int _ _)) ?_;refine rs_cons (rq_quiet rfl (a_loadN (by exact rfl) (by(simp(disch:=first|omega|(simp only[z1,z2];omega))only[z3,z4,z5,z6,z7,z1,z2, *];exact rfl)) (by exact rfl) (by exact rfl)) (by exact sv_agg (by refine sl_cons (s1_slice _ _ _) ?_;refine sl_cons (s1_int _ _) ?_;exact sl_nil))) ?_;refine rs_cons (rq_quiet rfl (a_mov (by exact rfl)) (by exact sv_int _ _)) ?_;refine rs_cons (rq_quiet rfl (a_mov (by exact rfl)) (by exact sv_int _ _)) ?_;refine rs_cons (rq_quiet rfl (a_loadN (by exact rfl) (by(simp(disch:=first|omega|(simp only[z1,z2];omega))only[z3,z4,z5,z6,z7,z1,z2, *];exact rfl)) (by exact rfl) (by exact rfl)) (by exact sv_agg (by refine sl_cons (s1_slice _ _ _) ?_;refine sl_cons (s1_int _ _) ?_;exact sl_nil))) ?_;exact rs_nil) ?_
 refine qC ?_
 refine FW.puD (board76 F.toFnsW (.of (hx.wf hr.wf)) w ht) (by apply ra_keepC rfl (rq_made rfl) (by rfl);apply ra_keepC rfl (rq_quiet rfl (a_load (by exact rfl) (by(simp(disch:=first|omega|(simp only[z1,z2];omega)|(simp only[z1,z2];done)|fail)only[z8,z4,z5,z9,z7,z1,z2, *];exact rfl)) (by exact rfl)) (by exact sv_int _ _)) rfl;apply ra_keepC rfl (rq_quiet rfl (a_loadN (by exact rfl) (by(simp(disch:=first|omega|(simp only[z1,z2];omega))only[z3,z4,z5,z6,z7,z1,z2, *];exact rfl)) (by exact rfl) (by exact rfl)) (by exact sv_agg (by refine sl_cons (s1_slice _ _ _) ?_;refine sl_cons (s1_int _ _) ?_;exact sl_nil))) rfl;apply ra_dropC rfl;apply ra_dropC rfl;apply ra_keepC rfl (rq_quiet rfl (a_loadN (by exact rfl) (by(simp(disch:=first|omega|(simp only[z1,z2];omega))only[z3,z4,z5,z6,z7,z1,z2, *];exact rfl)) (by exact rfl) (by exact rfl)) (by exact sv_agg (by refine sl_cons (s1_slice _ _ _) ?_;refine sl_cons (s1_int _ _) ?_;exact sl_nil))) rfl;exact ra_nil) ?_
 skip
 refine qC ?_
 refine FW.puD (isKind97 F.toFnsW.toFnsE.toFnsC (.of (hx.wf hr.wf)) kerf kind hn) (by apply ra_keepC rfl (rq_made rfl) (by rfl);apply ra_dropC rfl;apply ra_dropC rfl;apply ra_keepC rfl (rq_quiet rfl (a_loadN (by exact rfl) (by(simp(disch:=first|omega|(simp only[z1,z2];omega))only[z3,z4,z5,z6,z7,z1,z2, *];exact rfl)) (by exact rfl) (by exact rfl)) (by exact sv_agg (by refine sl_cons (s1_slice _ _ _) ?_;refine sl_cons (s1_int _ _) ?_;exact sl_nil))) rfl;exact ra_nil) ?_
 refine wD_new rfl rfl rfl (by exact rfl) (by exact rfl) (by exact rfl) (a_bslice (by exact rfl) (by exact rfl)) (by refine rs_cons (rq_made rfl) ?_;refine rs_cons (rq_quiet rfl (a_loadN (by exact rfl) (by(simp(disch:=first|omega|(simp only[z1,z2];omega))only[z3,z4,z5,z6,z7,z1,z2, *];exact rfl)) (by exact rfl) (by exact rfl)) (by exact sv_agg (by refine sl_cons (s1_slice _ _ _) ?_;refine sl_cons (s1_int _ _) ?_;exact sl_nil))) ?_;exact rs_nil) ?_
 refine qC ?_
 have hx2:=hx.push (.cells [.bool (decide (OnB w ht)), .bool (decide (0≤kind∧kind<(l.length:Int)))] true 1)
 refine FW.alD (startedB75 F.toFnsW.toFnsE (.of (hx2.wf hr.wf)) ((hs.ext hx2).log []) kerf hn (bl:=[decide (OnB w ht),decide (0≤kind∧kind<(l.length:Int))]) (m:=2) (.mem ⟨Nat.lt_succ_self _,⟨_,_,_,z3 _ _,rfl⟩,rfl⟩ (Nat.le_refl _)) (by omega)) (fun v h' m q=>StartQ.logs v h' m q) ?_
 rintro _ h1 hx3 ⟨p,rfl,hst⟩
 have e0:startE kerf l [decide (OnB w ht),decide (0≤kind∧kind<(l.length:Int))]=askK kerf l w ht kind:=startE_two ..
 rw[e0]at hst
 rw[e0]
 have kN:h.next+4≤h1.next:=hx3.next
 have G7:h1.get (h.next+1)=some (.cells [.int .i64 kind] true 1):=by rw[hx3.old _ (by(simp only[z1,z2];omega))];(simp(disch:=first|omega|(simp only[z1,z2];omega)|(simp only[z1,z2];done)|fail)only[z8,z4,z5,z9,z7,z1,z2, *];exact rfl)
 have G11:h1.get (h.next+2)=some (.cells [.pointer none] true 1):=by rw[hx3.old _ (by(simp only[z1,z2];omega))];(simp(disch:=first|omega|(simp only[z1,z2];omega)|(simp only[z1,z2];done)|fail)only[z8,z4,z5,z9,z7,z1,z2, *];done)
 have w1:WF h1:=hx3.wf (hx2.wf hr.wf)
 have hx13:Ext h h1:=hx2.trans hx3
 have hl1:h1.log=[]:=hx13.log.trans hr.log
 refine⟨_,by apply ra_dropC rfl;apply ra_keepC rfl (rq_made rfl) (by rfl);apply ra_dropC rfl;exact ra_nil,?_⟩
 by_cases ha:askK kerf l w ht kind=0
 ·obtain⟨bb,wa,wc,rfl,gb,hws⟩:=hst ha
  obtain⟨hc,hb,k,rfl,hk⟩:=askK_zero ha
  obtain⟨q1,q2,q3,q4⟩:=chk_iff.1 hc
  have hb0:=hb
  obtain⟨⟨e1,e2⟩,e3,e4⟩:=hb0
  have kb:=WF.get_lt w1 gb
  have nb:bb≠h.next+2:=fun e=>by
   rw[e,G11]at gb
   cases gb
  have hwsb:=wsOf_bd hc
  obtain⟨w,rfl⟩:=Int.eq_ofNat_of_zero_le (show 0≤w by omega)
  obtain⟨ht,rfl⟩:=Int.eq_ofNat_of_zero_le (show 0≤ht by omega)
  unfold ofR ofP
  simp only[if_pos ha]
  clear hst e0
  refine qM ?_;refine qE ?_;refine qE ?_
  refine wD_store rfl rfl rfl (by exact rfl) (by exact rfl) (by exact rfl) (by assumption) (by exact rfl) (by exact rfl) (by(simp only[z1,z2];omega)) (by(simp only[z1,z2];omega)) (by apply ra_keepC rfl (rq_quiet rfl (a_extract (by exact rfl) (by exact rfl)) (by exact sv_int _ _)) rfl;apply ra_dropC rfl;apply ra_dropC rfl;apply ra_dropC rfl;exact ra_nil) ?_
  refine qM ?_;refine wD_nil ?_;refine y1 ?_;refine kS_n ?_;refine wE_seq ?_;refine y4 ?_;refine yM ?_
  refine yf ?_;refine y3 ?_;refine yX ?_;refine wE_skip ?_;refine kS_n ?_;refine y4 ?_
  refine yL ?_;refine yM ?_;refine yM ?_
  refine WO.gen ?_
  intro hA hAe
  have hxA:Ext h hA:=by rw[hAe];exact hx13.wr (by(simp only[z1,z2];omega)) (by(simp only[z1,z2];omega))
  have A11:hA.get (h.next+2)=some (.cells [.pointer (some ⟨bb,0,none⟩)] true 1):=by rw[hAe];exact Heap.get_wr_new G11
  have A1:∀z,z<h1.next→z≠h.next+2→hA.get z=h1.get z:=fun z hz hne=>by rw[hAe];exact z5 hne
  have A5:hA.next=h1.next:=by rw[hAe];rfl
  have A7:=(A1 (h.next+1) (by omega) (by omega)).trans G7
  have wA:=hxA.wf hr.wf
  have lA:=hxA.log.trans hr.log
  have hwA:SliceOf hA 1 (.slice wa l.length wc) l.length (ints (wsOf l)):=by
   rw[hAe];exact SliceOf.ints_wr hws G11 (fun z q=>by cases q) (by omega)
  clear hAe G7 G11
  have hks:=hs.ext hxA
  have gbA:=(A1 _ kb nb).trans gb
  refine yC ?_
  refine FW.al (best83 F.toFnsW.toFnsV (.of wA) (w:=w) (ht:=ht) (W:=1000000) (ws:=wsOf l) (by omega) (by omega) (by omega) ⟨by omega,by omega⟩ (by omega) hwsb gbA (hks.log []) (hwA.log [])) (fun _ _ _ q=>q) ?_
  rintro _ h2 hx4 ⟨r,rfl,gr⟩
  refine wO_val a_new ?_;refine yS ?_;refine y3 ?_;refine y4 ?_
  refine wO_val a_mkMap ?_
  refine wO_val a_new ?_;refine yS ?_
  refine y3 ?_;refine wE_seq ?_;refine y4 ?_;refine yM ?_;refine yM ?_
  refine WO.gen ?_
  intro hB hBe
  have k2:=hx4.next
  have B1:∀z,z<h2.next→hB.get z=h2.get z:=fun z hz=>by rw[hBe];simp(disch:=first|omega|(simp only[z1,z2];omega))only[z5,z4]
  have B12:hB.get h2.next=some (.cells [.map (some r)] true 1):=by rw[hBe];(simp(disch:=first|omega|(simp only[z1,z2];omega))only[z3,z4,z5,z6,z7,z1,z2, *];exact rfl)
  have Bm:hB.get (h2.next+1)=some (.map []):=by rw[hBe];(simp(disch:=first|omega|(simp only[z1,z2];omega)|(simp only[z1,z2];done)|fail)only[z8,z4,z5,z9,z7,z1,z2, *];done)
  have B13:hB.get (h2.next+2)=some (.cells [.map (some (h2.next+1))] true 1):=by rw[hBe];(simp(disch:=first|omega|(simp only[z1,z2];omega)|(simp only[z1,z2];done)|fail)only[z8,z4,z5,z9,z7,z1,z2, *];exact rfl)
  have B5:hB.next=h2.next+3:=by rw[hBe];rfl
  have B6:hB.log=[]:=by rw[hBe];simp(disch:=first|omega|(simp only[z1,z2];omega))only[Heap.log_wr_new,Heap.log_push];exact hx4.log.trans lA
  have B7:WF hB:=by rw[hBe];exact((((((hx4.wf wA).push _).as (AS.wr _ _ _ _)).push _).push _).as (AS.wr _ _ _ _))
  clear hBe
  have Bk:=(B1 (h.next+1) (by omega)).trans ((hx4.old _ (by omega)).trans A7)
  have B11:=(B1 (h.next+2) (by omega)).trans ((hx4.old _ (by omega)).trans A11)
  have Bb:=(B1 bb (by omega)).trans ((hx4.old bb (by omega)).trans gbA)
  have kr:=WF.get_lt (hx4.wf wA) gr
  have Br:=(B1 r kr).trans gr
  have Bks:SliceOf hB 5 (.slice a l.length c) l.length (kcs l):=SliceOf.agree (hks.ext hx4) (by omega) fun b vs o t hb _=>B1 b hb
  have Bws:SliceOf hB 1 (.slice wa l.length wc) l.length (ints (wsOf l)):=SliceOf.agree (hwA.ext hx4) (by omega) fun b vs o t hb _=>B1 b hb
  refine yC ?_
  refine FW.al (boards94 F.toFnsO2.toFnsV.p F.toFnsO2.toFnsV.f94 (.of B7) w ht) (fun _ _ _ q=>q) ?_
  rintro _ h3 hx5 ⟨rfl,hn3,gp,gx⟩
  have eB:({hB with log:=[]}:Heap).next=h2.next+3:=B5
  rw[eB]at hn3 gp gx
  rw[eB]
  have C1:∀z,z<h2.next+3→h3.get z=hB.get z:=fun z hz=>hx5.old z (by omega)
  have Ck:=(C1 _ (by omega)).trans Bk
  have C11:=(C1 _ (by omega)).trans B11
  have C12:=(C1 _ (by omega)).trans B12
  have C13:=(C1 _ (by omega)).trans B13
  have Cm:=(C1 _ (by omega)).trans Bm
  have Cb:=(C1 bb (by omega)).trans Bb
  have Cr:=(C1 r (by omega)).trans Br
  have C6:h3.log=[]:=hx5.log.trans B6
  have C7:WF h3:=hx5.wf B7
  have Cks:=Bks.ext hx5
  have Cws:=Bws.ext hx5
  clear hx5 B1 Bk B11 B12 B13 Bm Bb Br B6 B7 Bks Bws gr
  refine y3 ?_;refine wE_block ?_
  refine inner_range (q:=h2.next+1) (all:=boardsL w ht) (O:=fun d=> .map (entsG oV (oftenL kerf (wsOf l) l k (tabL kerf (wsOf l) l (boardsL w ht)) d))) rfl (by rfl) (by rw[F.toFnsO2.toFnsV.f136];rfl) (by omega) (by omega) C6 C7 ?_ (by omega) ?_
  ·have Y:Yld T (h2.next+1) (h3.next+1) h3.next boardV (boardsL w ht) fun d H=>PW h3.next (h2.next+1) h3 (.loop [(1, .int .i64 w),(2, .int .i64 ht),(7, .pointer (some ⟨h.next+1,0,none⟩)),(11, .pointer (some ⟨h.next+2,0,none⟩)),(12, .pointer (some ⟨h2.next,0,none⟩)),(13, .pointer (some ⟨h2.next+2,0,none⟩)),(46,fn2 136 (h2.next+3) (h2.next+4))] [47] asg46a body46a 0 .normal) (fun d=> .map (entsG oV (oftenL kerf (wsOf l) l k (tabL kerf (wsOf l) l (boardsL w ht)) d))) d H∧BdO (oftenL kerf (wsOf l) l k (tabL kerf (wsOf l) l (boardsL w ht)) d):=by
    refine⟨fun done x H hx hrH hN hP=> ?_,fun d H H' hP hN hag=>⟨PW.stable (by omega) d H H' hP.1 hN hag,hP.2⟩⟩
    obtain⟨hP,hB⟩:=hP
    have hxb:=boards_of hx
    have hU:Bd 1000000 (tabL kerf (wsOf l) l (boardsL w ht)):=tabL_bd (by omega) q2.1 hwsb _ _ (fun x hx=>by have:=boards_of hx;omega) (fun e he=>by cases he)
    obtain⟨x1,x2⟩:=x
    simp only at hxb
    have hO:=oftenS_bd (kind:=(k:Int)) (ws:=wsOf l) (kl:=l) (W:=1000000) (by omega) q2.1 hU hB (a:=x1) (b:=x2) (by omega) (by omega) hxb.1 hxb.2.2.1
    have hO2:∀z,z<h3.next→z≠h2.next+1→H.get z=h3.get z:=fun z hz hne=>hP.old z hz hne
    refine FW.mono' (FW.withAS F.toFnsO2.toFnsV.p (often_round F.toFnsO2 hrH (a:=x1) (b:=x2) (n:=l.length) (by omega) (by omega) (by omega) ⟨by omega,by omega⟩ (fun y hy=>(cutO_bd (W:=1000000) (by omega) q2.1 hU hB (by omega) (by omega) hy).1) hP.loop ((hO2 _ (by omega) (by omega)).trans Ck) ((hO2 _ (by omega) (by omega)).trans C11) ((hO2 _ (by omega) (by omega)).trans C12) ((hO2 _ (by omega) (by omega)).trans C13) ((hO2 r (by omega) (by omega)).trans Cr) hP.obj ((hO2 bb (by omega) (by omega)).trans Cb) (SliceOf.agree Cks (by omega) fun b0 vs o t hb he=>hO2 b0 hb (fun e=>by rw[e,Cm]at he;cases he)) (SliceOf.agree Cws (by omega) fun b0 vs o t hb he=>hO2 b0 hb (fun e=>by rw[e,Cm]at he;cases he)) (by omega)) hrH.log) ?_
    rintro r' H' ⟨hA',q1,q2',q3,q4⟩
    refine⟨q1,fun z hz=>by have:=q2' z hz;omega,⟨fun y hy hne=>(q3 y (by omega) hne).trans (hP.old y hy hne),by rw[oftenL_snoc];exact q4,(q3 _ (by omega) (by omega)).trans hP.loop,Nat.lt_of_lt_of_le hP.nx hA'.next⟩,?_⟩
    rw[oftenL_snoc]
    exact hB.upd ⟨hxb.1,hxb.2.2.1⟩ hO
   refine CW.mono (boards136 F.toFnsO2.toFnsV.p F.toFnsO2.toFnsV.f136 (.of (C7.push _)) (bw:=h2.next+3) (bh:=h2.next+4) (l:=h3.next) (N:=h3.next+1) (lo:=h2.next+1) (w:=w) (ht:=ht) (Nat.le_refl _) (by show h2.next+1≤h3.next+1;omega) (by omega) (by omega) Y (fun d H hP=>(hP.1.old _ (by omega) (by omega)).trans gp) (fun d H hP=>(hP.1.old _ (by omega) (by omega)).trans gx)
    ⟨⟨fun z hz _=>z4 hz,(z4 (by omega)).trans Cm,z3 _ _,Nat.lt_succ_self _⟩,⟨fun e he=>(by cases he),fun e he=>(by cases he)⟩⟩) ?_
   rintro r' h4 ⟨q1,v,q2',q3,q4,_⟩
   exact⟨q1,v,q2',q3,q4⟩
  intro h5 c1 c2 c3 c4 c5
  have D13:h5.get (h2.next+2)=some (.cells [.map (some (h2.next+1))] true 1):=(c4 _ (by omega) (by omega)).trans C13
  refine kB_n ?_;refine kS_n ?_;refine y4 ?_;refine yL ?_;refine yM ?_;refine yM ?_;refine wO_val (a_build (by exact rfl)) ?_
  refine wO_val (a_lookupG oV (0,0) (x:=((w:Int),(ht:Int))) (by exact rfl) (by exact rfl) c5 rfl) ?_
  rw[often_Of (by omega) (by omega) (by omega)]
  refine wO_val a_new ?_;refine yS ?_;refine y3 ?_;refine wE_seq ?_;refine wE_draw ?_;refine qF ?_
  refine qL ?_
  refine qF ?_
  refine qL ?_
  refine qM ?_;refine qM ?_;refine qM ?_;refine wD_nil ?_
  refine y1 ?_;refine kS_n ?_;refine wE_ret ?_
  rw[ha]
  refine endP_ret ((Heap.log_wr_new (by omega)).trans c1) rfl rfl
 ·unfold ofR ofP
  simp only[if_neg ha]
  refine qM ?_;refine qE ?_;refine qE ?_
  refine wD_store rfl rfl rfl (by exact rfl) (by exact rfl) (by exact rfl) (by assumption) (by exact rfl) (by exact rfl) (by(simp only[z1,z2];omega)) (by(simp only[z1,z2];omega)) (by apply ra_keepC rfl (rq_quiet rfl (a_extract (by exact rfl) (by exact rfl)) (by exact sv_int _ _)) rfl;apply ra_dropC rfl;apply ra_dropC rfl;apply ra_dropC rfl;exact ra_nil) ?_
  refine qM ?_;refine wD_nil ?_;refine y1 ?_;refine kS_n ?_;refine wE_seq ?_;refine y4 ?_;refine yM ?_
  refine yt ?_;refine y3 ?_;refine yY ?_;refine y4 ?_;refine yM ?_;refine yM ?_
  refine yM ?_;refine yM ?_;refine y3 ?_;refine wE_ret ?_;refine kS_r ?_
  exact endP_ret ((Heap.log_wr_new (by(simp only[z1,z2];omega))).trans hl1) rfl rfl
end Go.A.Pk
end
section
namespace Go.A.Pk
def foldO(b:Int)(os:List (Int×(Int×Int)))(st:(Int×Int)×Bool):(Int×Int)×Bool:=os.foldl (fun st o=>addS b st o.1 o.2) st
theorem addL_foldO(b:Int)(f:Nat×Nat→Int×(Int×Int))(xs:List (Nat×Nat))(st:(Int×Int)×Bool):addL b f xs st=foldO b (xs.map f) st:=by
 unfold addL foldO
 rw[List.foldl_map]
structure InvO (b:Int) (done:List (Int×(Int×Int))) (st:(Int×Int)×Bool):Prop where
 some:st.2=true↔ ∃o∈done,o.1=b
 least:st.2=true→(∃o∈done,o.1=b∧st.1.1=o.2.1)∧∀o∈done,o.1=b→st.1.1≤o.2.1
 most:st.2=true→(∃o∈done,o.1=b∧st.1.2=o.2.2)∧∀o∈done,o.1=b→o.2.2≤st.1.2
theorem InvO.step{b:Int}{done:List (Int×(Int×Int))}{st:(Int×Int)×Bool}(I:InvO b done st)(o:Int×(Int×Int)):InvO b (done++[o]) (addS b st o.1 o.2):=by
 unfold addS
 have hmem:∀x,x∈done++[o]↔x∈done∨x=o:=fun x=>by simp
 by_cases ho:o.1=b
 ·rw[if_pos ho]
  by_cases hs:st.2=true
  ·rw[if_pos hs]
   obtain⟨⟨l1,l2,l3,l4⟩,l5⟩:=I.least hs
   obtain⟨⟨m1,m2,m3,m4⟩,m5⟩:=I.most hs
   refine⟨⟨fun _=>⟨o,(hmem o).2 (.inr rfl),ho⟩,fun _=>rfl⟩,fun _=>⟨?_,fun x hx hb=> ?_⟩,fun _=>⟨?_,fun x hx hb=> ?_⟩⟩
   ·show∃x∈done++[o],x.1=b∧mn st.1.1 o.2.1=x.2.1
    unfold mn
    split
    ·exact⟨o,(hmem o).2 (.inr rfl),ho,rfl⟩
    ·exact⟨l1,(hmem l1).2 (.inl l2),l3,l4⟩
   ·show mn st.1.1 o.2.1≤x.2.1
    rcases(hmem x).1 hx with hx|rfl
    ·have:=l5 x hx hb;unfold mn;split<;>omega
    ·unfold mn;split<;>omega
   ·show∃x∈done++[o],x.1=b∧mx st.1.2 o.2.2=x.2.2
    unfold mx
    split
    ·exact⟨o,(hmem o).2 (.inr rfl),ho,rfl⟩
    ·exact⟨m1,(hmem m1).2 (.inl m2),m3,m4⟩
   ·show x.2.2≤mx st.1.2 o.2.2
    rcases(hmem x).1 hx with hx|rfl
    ·have:=m5 x hx hb;unfold mx;split<;>omega
    ·unfold mx;split<;>omega
  ·rw[if_neg hs]
   have hno:∀x∈done,x.1≠b:=fun x hx hb=>hs (I.some.2 ⟨x,hx,hb⟩)
   refine⟨⟨fun _=>⟨o,(hmem o).2 (.inr rfl),ho⟩,fun _=>rfl⟩,fun _=>⟨⟨o,(hmem o).2 (.inr rfl),ho,rfl⟩,fun x hx hb=> ?_⟩,fun _=>⟨⟨o,(hmem o).2 (.inr rfl),ho,rfl⟩,fun x hx hb=> ?_⟩⟩
   ·rcases(hmem x).1 hx with hx|rfl
    ·exact(hno x hx hb).elim
    ·exact Int.le_refl _
   ·rcases(hmem x).1 hx with hx|rfl
    ·exact(hno x hx hb).elim
    ·exact Int.le_refl _
 ·rw[if_neg ho]
  refine⟨⟨fun h=> ?_,fun⟨x,hx,hb⟩=> ?_⟩,fun h=> ?_,fun h=> ?_⟩
  ·obtain⟨x,hx,hb⟩:=I.some.1 h
   exact⟨x,(hmem x).2 (.inl hx),hb⟩
  ·rcases(hmem x).1 hx with hx|rfl
   ·exact I.some.2 ⟨x,hx,hb⟩
   ·exact(ho hb).elim
  ·obtain⟨⟨x,hx,hb,e⟩,l⟩:=I.least h
   refine⟨⟨x,(hmem x).2 (.inl hx),hb,e⟩,fun y hy hb=> ?_⟩
   rcases(hmem y).1 hy with hy|rfl
   ·exact l y hy hb
   ·exact(ho hb).elim
  ·obtain⟨⟨x,hx,hb,e⟩,l⟩:=I.most h
   refine⟨⟨x,(hmem x).2 (.inl hx),hb,e⟩,fun y hy hb=> ?_⟩
   rcases(hmem y).1 hy with hy|rfl
   ·exact l y hy hb
   ·exact(ho hb).elim
theorem foldO_inv{b:Int}:∀{os done:List (Int×(Int×Int))} {st:(Int×Int)×Bool},InvO b done st→InvO b (done++os) (foldO b os st)
 |[],done,st,I=>by rw[List.append_nil];exact I
 |o::os,done,st,I=>by
  have:=foldO_inv (os:=os) (I.step o)
  rw[List.append_assoc]at this
  exact this
variable {kerf:Int} {ws ws':List Int} {kl kl':List Kd} {kind:Int}
def optsO(kerf:Int)(ws:List Int)(kl:List Kd)(kind:Int)(a b:Nat):List (Int×(Int×Int)):=(0,(0,0))::((leavesL a b kl 0).map (leafO ws kind)++(cutsL a b).map (cutP kerf ws kl kind a b))
theorem Of_fold(hk:0≤kerf){a b:Nat}(ha:1≤a)(hb:1≤b):Of kerf ws kl kind ((a:Int),(b:Int))=(foldO (V kerf ws kl ((a:Int),(b:Int))) (optsO kerf ws kl kind a b) ((0,0),false)).1:=by
 rw[Of_eq hk ha hb,addL_foldO,addL_foldO]
 unfold optsO foldO
 rw[List.foldl_cons,List.foldl_append]
theorem opts_some(hk:0≤kerf){a b:Nat}(ha:1≤a)(hb:1≤b):∃o∈optsO kerf ws kl kind a b,o.1=V kerf ws kl ((a:Int),(b:Int)):=by
 unfold optsO
 rcases V_of hk (ws:=ws) (kl:=kl) ha hb with h|⟨x,hx,h⟩|⟨x,hx,h⟩
 ·exact⟨_,List.mem_cons_self ..,h.symm⟩
 ·exact⟨leafO ws kind x,List.mem_cons_of_mem _ (List.mem_append_left _ (List.mem_map_of_mem hx)),h.symm⟩
 ·exact⟨cutP kerf ws kl kind a b x,List.mem_cons_of_mem _ (List.mem_append_right _ (List.mem_map_of_mem hx)),h.symm⟩
theorem Of_spec(hk:0≤kerf){a b:Nat}(ha:1≤a)(hb:1≤b):
 ((∃o∈optsO kerf ws kl kind a b,o.1=V kerf ws kl ((a:Int),(b:Int))∧(Of kerf ws kl kind ((a:Int),(b:Int))).1=o.2.1)∧∀o∈optsO kerf ws kl kind a b,o.1=V kerf ws kl ((a:Int),(b:Int))→(Of kerf ws kl kind ((a:Int),(b:Int))).1≤o.2.1)∧
 ((∃o∈optsO kerf ws kl kind a b,o.1=V kerf ws kl ((a:Int),(b:Int))∧(Of kerf ws kl kind ((a:Int),(b:Int))).2=o.2.2)∧∀o∈optsO kerf ws kl kind a b,o.1=V kerf ws kl ((a:Int),(b:Int))→o.2.2≤(Of kerf ws kl kind ((a:Int),(b:Int))).2):=by
 have I:InvO (V kerf ws kl ((a:Int),(b:Int))) ([]++optsO kerf ws kl kind a b) (foldO (V kerf ws kl ((a:Int),(b:Int))) (optsO kerf ws kl kind a b) ((0,0),false)):=
  foldO_inv ⟨⟨fun h=>(by cases h),fun⟨x,hx,_⟩=>(by cases hx)⟩,fun h=>(by cases h),fun h=>(by cases h)⟩
 rw[List.nil_append]at I
 have hs:=I.some.2 (opts_some hk ha hb)
 rw[Of_fold hk ha hb]
 exact⟨I.least hs,I.most hs⟩
theorem opts_cases{a b:Nat}{o:Int×(Int×Int)}(h:o∈optsO kerf ws kl kind a b):o=(0,(0,0))∨(∃x∈leavesL a b kl 0,o=leafO ws kind x)∨∃x∈cutsL a b,o=cutP kerf ws kl kind a b x:=by
 unfold optsO at h
 rcases List.mem_cons.1 h with h|h
 ·exact .inl h
 ·rcases List.mem_append.1 h with h|h
  ·obtain⟨x,hx,e⟩:=List.mem_map.1 h
   exact .inr (.inl ⟨x,hx,e.symm⟩)
  ·obtain⟨x,hx,e⟩:=List.mem_map.1 h
   exact .inr (.inr ⟨x,hx,e.symm⟩)
theorem Of_le(hk:0≤kerf)(p:Int×Int):0≤(Of kerf ws kl kind p).1∧(Of kerf ws kl kind p).1≤(Of kerf ws kl kind p).2:=by
 refine board_ind hk (P:=fun p=>0≤(Of kerf ws kl kind p).1∧(Of kerf ws kl kind p).1≤(Of kerf ws kl kind p).2) (fun p h=> ?_) (fun a b ha hb ih=> ?_) p
 ·show 0≤(Of kerf ws kl kind p).1∧_
  rw[Of_out h];simp
 ·obtain⟨⟨⟨o,ho,hv,he⟩,_⟩,_,hm⟩:=Of_spec hk (ws:=ws) (kl:=kl) (kind:=kind) ha hb
  have h1:=hm o ho hv
  have h2:0≤o.2.1∧o.2.1≤o.2.2:=by
   rcases opts_cases ho with rfl|⟨x,hx,rfl⟩|⟨x,hx,rfl⟩
   ·simp
   ·unfold leafO;split<;>simp
   ·have:=ih x hx
    unfold cutP padd
    simp only at this⊢
    omega
  show 0≤(Of kerf ws kl kind _).1∧(Of kerf ws kl kind _).1≤(Of kerf ws kl kind _).2
  omega
end Go.A.Pk
end
section
namespace Go.A.Pk
theorem oftenL_bd{kerf kind:Int}{ws:List Int}{kl:List Kd}{u:Tab}{W:Int}(hW:0≤W∧W≤1000000000)(hk:0≤kerf)(hu:Bd W u):∀(xs:List (Nat×Nat)) (t:TabO),(∀x∈xs,(1≤x.1∧x.1<1000)∧(1≤x.2∧x.2<1000))→BdO t→BdO (xs.foldl (fun t x=>updG t x (oftenS kerf ws kl kind u t x.1 x.2).1) t)
 |[],_,_,ht=>ht
 |x::xs,t,hx,ht=>by
  have h:=hx x (List.mem_cons_self ..)
  exact oftenL_bd hW hk hu xs _ (fun y hy=>hx y (List.mem_cons_of_mem _ hy)) (ht.upd ⟨h.1.1,h.2.1⟩ (oftenS_bd hW hk hu ht h.1.2 h.2.2 h.1.1 h.2.1))
theorem Of_bd{kerf kind:Int}{l:List Kd}(hc:chk kerf l=0){w ht:Int}(hb:OnB w ht):0≤(Of kerf (wsOf l) l kind (w,ht)).1∧(Of kerf (wsOf l) l kind (w,ht)).1≤(Of kerf (wsOf l) l kind (w,ht)).2∧(Of kerf (wsOf l) l kind (w,ht)).2≤256:=by
 obtain⟨q1,q2,q3,q4⟩:=chk_iff.1 hc
 obtain⟨⟨e1,e2⟩,e3,e4⟩:=hb
 obtain⟨w,rfl⟩:=Int.eq_ofNat_of_zero_le (show 0≤w by omega)
 obtain⟨ht,rfl⟩:=Int.eq_ofNat_of_zero_le (show 0≤ht by omega)
 have h1:=Of_le q2.1 (ws:=wsOf l) (kl:=l) (kind:=kind) ((w:Int),(ht:Int))
 refine⟨h1.1,h1.2,?_⟩
 have hU:Bd 1000000 (tabL kerf (wsOf l) l (boardsL w ht)):=tabL_bd (by omega) q2.1 (wsOf_bd hc) _ _ (fun x hx=>by have:=boards_of hx;omega) (fun e he=>by cases he)
 have hB:BdO (oftenL kerf (wsOf l) l kind (tabL kerf (wsOf l) l (boardsL w ht)) (boardsL w ht)):=oftenL_bd (W:=1000000) (by omega) q2.1 hU (boardsL w ht) [] (fun x hx=>by have:=boards_of hx;omega) ⟨fun e he=>(by cases he),fun e he=>(by cases he)⟩
 have h2:=look_bd ((w:Int),(ht:Int)) hB.2
 rw[look_tab2,often_Of q2.1 (by omega) (by omega)]at h2
 have h3:=area_mono (W:=1) (a:=(w:Int)) (b:=(ht:Int)) (c:=16) (d:=16) (by omega) (by omega) (by omega) (by omega) (by omega)
 rcases h2 with h2|h2
 ·omega
 ·have:=h2.2.2.2
  simp only at this
  omega
end Go.A.Pk
end
section
set_option maxRecDepth 100000
namespace Go.A.Pk
variable {T:Nat→Option AFunc}
def grid(f:Nat→Nat→Int):List Int:=(List.range 289).map fun i=>f (i / 17) (i % 17)
def updF(f:Nat→Nat→Int)(a b:Nat)(z:Int)(x y:Nat):Int:=if x=a∧y=b then z else f x y
theorem grid_len(f:Nat→Nat→Int):(grid f).length=289:=by simp[grid]
theorem grid_congr{f g:Nat→Nat→Int}(h:∀x y,x<17→y<17→f x y=g x y):grid f=grid g:=by
 unfold grid
 apply List.map_congr_left
 intro i hi
 have:=List.mem_range.1 hi
 exact h _ _ (by omega) (by omega)
theorem grid_get{f:Nat→Nat→Int}{a b:Nat}(ha:a<17)(hb:b<17):lget (ints (grid f)) (0+a*17+b*1)=some (.int .i64 (f a b)):=by
 rw[lget_eq]
 have h:(ints (grid f))[a*17+b]? =some (.int .i64 (f a b)):=by
  unfold ints grid
  rw[List.getElem?_map,List.getElem?_map,List.getElem?_range (by omega)]
  have e1:(a*17+b) / 17=a:=by omega
  have e2:(a*17+b) % 17=b:=by omega
  simp only[z7,e1,e2]
 rw[show 0+a*17+b*1=a*17+b by omega]
 exact h
theorem grid_set{f:Nat→Nat→Int}{a b:Nat}(hb:b<17)(z:Int):(grid f).set (a*17+b) z=grid (updF f a b z):=by
 apply List.ext_getElem?
 intro i
 unfold grid
 rw[List.getElem?_set,List.getElem?_map,List.getElem?_map]
 by_cases hi:i<289
 ·rw[List.getElem?_range hi]
  unfold updF
  by_cases e:a*17+b=i
  ·rw[if_pos e,if_pos (by simp;omega)]
   simp only[z7]
   rw[if_pos (by omega)]
  ·rw[if_neg e]
   simp only[z7]
   rw[if_neg (by omega)]
 ·have hn:(List.range 289)[i]? =none:=List.getElem?_eq_none (by simp;omega)
  rw[hn]
  by_cases e:a*17+b=i
  ·rw[if_pos e,if_neg (by simp;omega)];rfl
  ·rw[if_neg e];rfl
theorem grid_put{f:Nat→Nat→Int}{a b:Nat}(hb:b<17)(z:Int):lputs (ints (grid f)) (0+a*17+b*1) (cellsOf (.int .i64 z))=ints (grid (updF f a b z)):=by
 rw[←grid_set hb]
 simp[cellsOf,lputs,lset_eq,ints,List.map_set]
theorem grid_st{f:Nat→Nat→Int}{a b:Nat}{z:Int}(ha:a<17)(hb:b<17):(Nat.beq (llen (cellsOf (.int .i64 z))) 1&&Nat.ble (0+a*17+b*1+1) (llen (ints (grid f)))&&ones (cellsOf (.int .i64 z)))=true:=by
 have h1:(ints (grid f)).length=289:=by rw[ints_len,grid_len]
 simp[cellsOf,ones,llen_eq,h1]
 omega
theorem grid_zero:lrep 289 (Value.int .i64 0)=ints (grid fun _ _=>0):=by
 have h:∀n,lrep n (Value.int .i64 0)=ints ((List.range n).map fun _=>(0:Int)):=by
  intro n
  induction n with
  |zero=>rfl
  |succ n ih=>
   rw[lrep,ih]
   simp[ints,List.range_succ_eq_map]
 exact h 289
theorem leaves_at{a b:Nat}:∀{l:List Kd} {i:Nat} {x:Nat×Nat},x∈leavesL a b l i→i≤x.2∧∃k,l[x.2-i]? =some k∧x∈leafAt k x.2 a b
 |[],_,_,h=>by cases h
 |k::l,i,x,h=>by
  simp only[leavesL,List.mem_append]at h
  rcases h with h|h
  ·have e:=leafAt_idx x h
   refine⟨by omega,k,by rw[e,Nat.sub_self];rfl,by rw[e];exact h⟩
  ·obtain⟨h1,k',h2,h3⟩:=leaves_at h
   refine⟨by omega,k',?_,h3⟩
   rw[show x.2-i=(x.2-(i+1))+1 by omega]
   exact h2
def plankB(k:Kd)(a b:Nat):Bool:=decide (k.w=a∧k.h=b∨k.turn=true∧k.h=a∧k.w=b)
set_option maxHeartbeats 4000000 in
theorem plank112(hp:primAS T)(hf:T 112=some f112){h:Heap}(hr:Rdy h)(k:Kd)(a b:Nat):Pu T 112 [.agg (kc k).toArray, .int .i64 a, .int .i64 b] h (.bool (plankB k a b)):=by
 refine .of hp hf hr rfl ?_
 obtain⟨id,kw,kh,wo,tu⟩:=k
 unfold plankB kc
 simp only
 by_cases c1:¬kw≠a
 ·by_cases c2:¬kh≠b
  ·rw[decide_eq_true (by omega)]
   refine y4 ?_;refine yB ?_;refine yM ?_;refine y3 ?_;refine y4 ?_;refine yF ?_
   refine yL ?_;refine yM ?_
   refine yt ?_;refine yM ?_;refine yO ?_;refine yF ?_;refine yO ?_
   refine yL ?_;refine yO ?_;refine yM ?_;refine yO ?_
   refine yt ?_;refine yT ?_;refine yM ?_;refine yP ?_;refine yP ?_;refine yP ?_;refine wO_off2 (by exact rfl) ?_;refine wO_off2 (by exact rfl) ?_
   refine wO_off2 (by exact rfl) ?_;refine wO_off2 (by exact rfl) ?_;refine yP ?_;refine yP ?_;refine wO_off2 (by exact rfl) ?_;refine wO_off2 (by exact rfl) ?_;refine wO_off2 (by exact rfl) ?_;refine wO_off2 (by exact rfl) ?_;refine yP ?_
   refine yT ?_;refine yM ?_;refine y3 ?_;refine wE_ret ?_
   exact endP_ret hr.log rfl rfl
  ·cases tu with
   |false=>
    rw[decide_eq_false (by simp;omega)]
    refine y4 ?_;refine yB ?_;refine yM ?_;refine y3 ?_;refine y4 ?_;refine yF ?_
    refine yL ?_;refine yM ?_
    refine yt ?_;refine yM ?_;refine yO ?_;refine yF ?_;refine yO ?_
    refine yL ?_;refine yO ?_;refine yM ?_;refine yO ?_
    refine yf ?_;refine yT ?_;refine yM ?_;refine yO ?_;refine yF ?_;refine yO ?_
    refine yL ?_;refine yO ?_;refine yM ?_
    refine yP ?_;refine yP ?_;refine yP ?_;refine yP ?_;refine yO ?_;refine yU ?_;refine yO ?_;refine yM ?_;refine yP ?_
    refine yP ?_;refine yP ?_;refine yP ?_;refine yO ?_;refine yU ?_;refine yU ?_;refine yM ?_;refine y3 ?_;refine wE_ret ?_
    exact endP_ret hr.log rfl rfl
   |true=>
    by_cases c3:¬kh≠a
    ·by_cases c4:¬kw≠b
     ·rw[decide_eq_true (by simp;omega)]
      refine y4 ?_;refine yB ?_;refine yM ?_;refine y3 ?_;refine y4 ?_;refine yF ?_
      refine yL ?_;refine yM ?_
      refine yt ?_;refine yM ?_;refine yO ?_;refine yF ?_;refine yO ?_
      refine yL ?_;refine yO ?_
      refine yM ?_;refine yO ?_;refine yt ?_;refine yT ?_;refine yM ?_;refine yP ?_;refine yP ?_;refine yP ?_
      refine wO_off2 (by exact rfl) ?_;refine wO_off2 (by exact rfl) ?_;refine wO_off2 (by exact rfl) ?_;refine wO_off2 (by exact rfl) ?_;refine yP ?_;refine yP ?_;refine wO_off2 (by exact rfl) ?_;refine wO_off2 (by exact rfl) ?_;refine wO_off2 (by exact rfl) ?_;refine wO_off2 (by exact rfl) ?_
      refine yP ?_;refine yT ?_;refine yM ?_;refine y3 ?_;refine wE_ret ?_
      exact endP_ret hr.log rfl rfl
     ·rw[decide_eq_false (by simp;omega)]
      refine y4 ?_;refine yB ?_;refine yM ?_;refine y3 ?_;refine y4 ?_;refine yF ?_
      refine yL ?_;refine yM ?_
      refine yt ?_;refine yM ?_;refine yO ?_;refine yF ?_;refine yO ?_
      refine yL ?_;refine yO ?_;refine yM ?_;refine yO ?_
      refine yf ?_;refine yT ?_;refine yM ?_;refine yO ?_;refine yF ?_;refine yO ?_
      refine yL ?_;refine yO ?_;refine yM ?_;refine yO ?_
      refine yF ?_;refine yO ?_;refine yL ?_;refine yO ?_
      refine yM ?_;refine yO ?_;refine yt ?_;refine yO ?_;refine yT ?_;refine yO ?_;refine yM ?_;refine yO ?_;refine yF ?_
      refine yO ?_;refine yL ?_;refine yO ?_;refine yM ?_
      refine yO ?_;refine yf ?_;refine yO ?_;refine yT ?_;refine yU ?_;refine yM ?_;refine y3 ?_;refine wE_ret ?_
      exact endP_ret hr.log rfl rfl
    ·rw[decide_eq_false (by simp;omega)]
     refine y4 ?_;refine yB ?_;refine yM ?_;refine y3 ?_;refine y4 ?_;refine yF ?_
     refine yL ?_;refine yM ?_
     refine yt ?_;refine yM ?_;refine yO ?_;refine yF ?_;refine yO ?_
     refine yL ?_;refine yO ?_;refine yM ?_;refine yO ?_
     refine yf ?_;refine yT ?_;refine yM ?_;refine yO ?_;refine yF ?_;refine yO ?_
     refine yL ?_;refine yO ?_;refine yM ?_;refine yO ?_
     refine yF ?_;refine yO ?_;refine yL ?_;refine yO ?_
     refine yM ?_;refine yO ?_;refine yf ?_;refine yO ?_;refine yT ?_;refine yO ?_;refine yM ?_;refine yP ?_
     refine yP ?_;refine yP ?_;refine yP ?_;refine yO ?_;refine yU ?_;refine yU ?_;refine yM ?_;refine y3 ?_;refine wE_ret ?_
     exact endP_ret hr.log rfl rfl
 ·cases tu with
  |false=>
   rw[decide_eq_false (by simp;omega)]
   refine y4 ?_;refine yB ?_;refine yM ?_;refine y3 ?_;refine y4 ?_;refine yF ?_
   refine yL ?_;refine yM ?_
   refine yf ?_;refine yM ?_;refine yP ?_;refine yP ?_;refine yP ?_;refine yP ?_;refine yU ?_
   refine yM ?_;refine yO ?_;refine yF ?_;refine yO ?_
   refine yL ?_;refine yO ?_;refine yM ?_
   refine yP ?_;refine yP ?_;refine yP ?_;refine yP ?_;refine yO ?_;refine yU ?_;refine yO ?_;refine yM ?_;refine yP ?_
   refine yP ?_;refine yP ?_;refine yP ?_;refine yO ?_;refine yU ?_;refine yU ?_;refine yM ?_;refine y3 ?_;refine wE_ret ?_
   exact endP_ret hr.log rfl rfl
  |true=>
   by_cases c3:¬kh≠a
   ·by_cases c4:¬kw≠b
    ·rw[decide_eq_true (by simp;omega)]
     refine y4 ?_;refine yB ?_;refine yM ?_;refine y3 ?_;refine y4 ?_;refine yF ?_
     refine yL ?_;refine yM ?_
     refine yf ?_;refine yM ?_;refine yP ?_;refine yP ?_;refine yP ?_;refine yP ?_;refine yU ?_
     refine yM ?_;refine yO ?_;refine yF ?_;refine yO ?_
     refine yL ?_;refine yO ?_;refine yM ?_;refine yO ?_
     refine yF ?_;refine yO ?_;refine yL ?_;refine yO ?_
     refine yM ?_;refine yO ?_;refine yt ?_;refine yO ?_;refine yT ?_;refine yO ?_;refine yM ?_;refine yO ?_;refine yF ?_
     refine yO ?_;refine yL ?_;refine yO ?_;refine yM ?_
     refine yO ?_;refine yt ?_;refine yO ?_;refine yT ?_;refine yU ?_;refine yM ?_;refine y3 ?_;refine wE_ret ?_
     exact endP_ret hr.log rfl rfl
    ·rw[decide_eq_false (by simp;omega)]
     refine y4 ?_;refine yB ?_;refine yM ?_;refine y3 ?_;refine y4 ?_;refine yF ?_
     refine yL ?_;refine yM ?_
     refine yf ?_;refine yM ?_;refine yP ?_;refine yP ?_;refine yP ?_;refine yP ?_;refine yU ?_
     refine yM ?_;refine yO ?_;refine yF ?_;refine yO ?_
     refine yL ?_;refine yO ?_;refine yM ?_;refine yO ?_
     refine yF ?_;refine yO ?_;refine yL ?_;refine yO ?_
     refine yM ?_;refine yO ?_;refine yt ?_;refine yO ?_;refine yT ?_;refine yO ?_;refine yM ?_;refine yO ?_;refine yF ?_
     refine yO ?_;refine yL ?_;refine yO ?_;refine yM ?_
     refine yO ?_;refine yf ?_;refine yO ?_;refine yT ?_;refine yU ?_;refine yM ?_;refine y3 ?_;refine wE_ret ?_
     exact endP_ret hr.log rfl rfl
   ·rw[decide_eq_false (by simp;omega)]
    refine y4 ?_;refine yB ?_;refine yM ?_;refine y3 ?_;refine y4 ?_;refine yF ?_
    refine yL ?_;refine yM ?_
    refine yf ?_;refine yM ?_;refine yP ?_;refine yP ?_;refine yP ?_;refine yP ?_;refine yU ?_
    refine yM ?_;refine yO ?_;refine yF ?_;refine yO ?_
    refine yL ?_;refine yO ?_;refine yM ?_;refine yO ?_
    refine yF ?_;refine yO ?_;refine yL ?_;refine yO ?_
    refine yM ?_;refine yO ?_;refine yf ?_;refine yO ?_;refine yT ?_;refine yO ?_;refine yM ?_;refine yP ?_
    refine yP ?_;refine yP ?_;refine yP ?_;refine yO ?_;refine yU ?_;refine yU ?_;refine yM ?_;refine y3 ?_;refine wE_ret ?_
    exact endP_ret hr.log rfl rfl
end Go.A.Pk
end
section
set_option maxRecDepth 100000
namespace Go.A.Pk
variable {T:Nat→Option AFunc}
theorem V_bd{kerf W:Int}{ws:List Int}{kl:List Kd}(hk:0≤kerf)(hW:0≤W)(hws:∀x∈ws,0≤x∧x≤W)(x y:Nat):0≤V kerf ws kl ((x:Int),(y:Int))∧V kerf ws kl ((x:Int),(y:Int))≤W*((x:Int)*(y:Int)):=by
 refine⟨V_nonneg hk _,?_⟩
 have hU:Bd W (tabL kerf ws kl (boardsL x y)):=tabL_bd hW hk hws _ _ (fun x hx=>by have:=boards_of hx;omega) (fun e he=>by cases he)
 have h1:=look_bd ((x:Int),(y:Int)) hU
 rw[tab_V hk ((x:Int),(y:Int)) (fun _=>⟨Int.le_refl _,Int.le_refl _⟩)]at h1
 rcases h1 with h1|h1
 ·rw[h1];exact Int.mul_nonneg hW (Int.mul_nonneg (by omega) (by omega))
 ·exact h1.2.2.2
theorem a_max0{base:Nat}{h:Heap}{e:Env}{x y:Operand}{z:Int}{r:Nat}(hx:ev h e x=some (.int .i64 0))(hy:ev h e y=some (.int .i64 z))(hr:mx 0 z=r):aop h base e (.minmax true [x,y])=some (.val (.int .i64 (r:Int)) h):=by
 rw[←hr];exact a_max hx hy
structure Vt (q:Nat) (hA h':Heap) (f:Nat→Nat→Int):Prop where
 old:∀z,z<q→h'.get z=hA.get z
 obj:h'.get q=some (.cells (ints (grid f)) true 1)
 log:h'.log=[]
 wf:WF h'
 nx:q<h'.next
theorem Vt.wr{q:Nat}{hA h':Heap}{f:Nat→Nat→Int}(v:Vt q hA h' f){base a b:Nat}(z:Int)(hb:base≤q):Vt q hA (h'.wr base q (.cells (ints (grid (updF f a b z))) true 1)) (updF f a b z):=
 ⟨fun y hy=>(z5 (by omega)).trans (v.old y hy),Heap.get_wr_new v.obj,(Heap.log_wr_new hb).trans v.log,v.wf.as (AS.wr _ _ _ _),v.nx⟩
theorem Vt.congr{q:Nat}{hA h':Heap}{f g:Nat→Nat→Int}(v:Vt q hA h' f)(h:∀x y,x<17→y<17→f x y=g x y):Vt q hA h' g:=
 ⟨v.old,by rw[←grid_congr h];exact v.obj,v.log,v.wf,v.nx⟩
def doneF(g:Nat→Nat→Int)(a b x y:Nat):Int:=if x<a∨(x=a∧y<b)then g x y else 0
def Vf(kerf:Int)(ws:List Int)(kl:List Kd)(x y:Nat):Int:=V kerf ws kl ((x:Int),(y:Int))
theorem updF_self(f:Nat→Nat→Int)(a b:Nat)(z:Int):updF f a b z a b=z:=by unfold updF;rw[if_pos ⟨rfl,rfl⟩]
theorem updF_upd(f:Nat→Nat→Int)(a b:Nat)(z u:Int):updF (updF f a b z) a b u=updF f a b u:=by
 funext x y;unfold updF;split<;>rfl
theorem updF_left{g:Nat→Nat→Int}{a b n:Nat}(z:Int)(hn:n<a):updF (doneF g a b) a b z n b=g n b:=by
 unfold updF doneF;rw[if_neg (by omega),if_pos (by omega)]
theorem updF_up{g:Nat→Nat→Int}{a b n:Nat}(z:Int)(hn:n<b):updF (doneF g a b) a b z a n=g a n:=by
 unfold updF doneF;rw[if_neg (by omega),if_pos (by omega)]
theorem doneF_next{g:Nat→Nat→Int}{a b:Nat}:updF (doneF g a b) a b (g a b)=doneF g a (b+1):=by
 funext x y
 unfold updF doneF
 by_cases h:x=a∧y=b
 ·rw[if_pos h,if_pos (by omega),h.1,h.2]
 ·rw[if_neg h]
  by_cases h2:x<a∨(x=a∧y<b)
  ·rw[if_pos h2,if_pos (by omega)]
  ·rw[if_neg h2,if_neg (by omega)]
theorem leafM_kind{ws:List Int}{l:List Kd}{i a b:Nat}{k:Kd}(hk:l[i]? =some k)(m:Int):leafM ws (leavesL a b (l.take (i+1)) 0) m=if plankB k a b=true then mx (leafM ws (leavesL a b (l.take i) 0) m) (ws.getD i 0)else leafM ws (leavesL a b (l.take i) 0) m:=by
 rw[leaves_succ hk]
 unfold leafM
 rw[List.foldl_append]
 generalize List.foldl (fun m x=>mx m (ws.getD x.2 0)) m (leavesL a b (l.take i) 0)=u
 have hm:∀u w:Int,mx (mx u w) w=mx u w:=fun u w=>by
  unfold mx
  by_cases h:w>u
  ·rw[if_pos h,if_neg (by omega)]
  ·rw[if_neg h,if_neg h]
 unfold leafAt plankB
 by_cases h1:(a:Int)=k.w∧(b:Int)=k.h
 ·by_cases h2:k.turn=true∧(a:Int)=k.h∧(b:Int)=k.w
  ·rw[if_pos h1,if_pos h2,if_pos (by simp;omega)]
   show mx (mx u (ws.getD i 0)) (ws.getD i 0)=_
   exact hm _ _
  ·rw[if_pos h1,if_neg h2,if_pos (by simp;omega)];rfl
 ·by_cases h2:k.turn=true∧(a:Int)=k.h∧(b:Int)=k.w
  ·rw[if_neg h1,if_pos h2,if_pos (by simp only[decide_eq_true_eq];exact .inr ⟨h2.1,h2.2.1.symm,h2.2.2.symm⟩)];rfl
  ·rw[if_neg h1,if_neg h2,if_neg (by simp only[decide_eq_true_eq];rintro(q|q);exact h1 ⟨q.1.symm,q.2.symm⟩;exact h2 ⟨q.1,q.2.1.symm,q.2.2.symm⟩)];rfl
theorem foldM_row{f:Nat×Nat→Int}{c n:Nat}{m:Int}:foldM f (row c (n+1)) m=mx (foldM f (row c n) m) (f (c,n+1)):=by
 rw[row_succ];unfold foldM;rw[List.foldl_append];rfl
theorem cut_left{kerf:Int}{ws:List Int}{kl:List Kd}{a b n r:Nat}(hn:n≤a)(hr:mx 0 ((a:Int)-n-kerf)=r):V kerf ws kl (oneB (3,n) a b)+V kerf ws kl (twoB kerf (3,n) a b)=Vf kerf ws kl n b+Vf kerf ws kl r b:=by
 unfold oneB twoB Vf
 simp only[if_true]
 congr 1
 unfold mx at hr
 split at hr
 ·rw[hr]
 ·rw[V_out (by simp;omega),V_out (by simp;omega)]
theorem cut_up{kerf:Int}{ws:List Int}{kl:List Kd}{a b n r:Nat}(hn:n≤b)(hr:mx 0 ((b:Int)-n-kerf)=r):V kerf ws kl (oneB (4,n) a b)+V kerf ws kl (twoB kerf (4,n) a b)=Vf kerf ws kl a n+Vf kerf ws kl a r:=by
 unfold oneB twoB Vf
 simp only[show¬ (4:Nat)=3 by omega,if_false]
 congr 1
 unfold mx at hr
 split at hr
 ·rw[hr]
 ·rw[V_out (by simp;omega),V_out (by simp;omega)]
theorem ws_at{l:List Kd}{i:Nat}{k:Kd}(h:l[i]? =some k):(wsOf l).getD i 0=k.worth:=by simp[wsOf,List.getD,h]
structure FnsRB (T:Nat→Option AFunc):Prop where
 p:primAS T
 f93:T 93=some f93
 f112:T 112=some f112
theorem scalL_ints:∀xs:List Int,scalL (ints xs)=true
 |[]=>rfl
 |x::xs=>scalL_ints xs
theorem ones_ints:∀xs:List Int,ones (ints xs)=true
 |[]=>rfl
 |x::xs=>ones_ints xs
set_option maxHeartbeats 16000000 in
theorem rbest93(F:FnsRB T){h:Heap}(hr:Rdy h){a0:Option Addr}{n c:Nat}{l:List Kd}{kerf W:Int}(hs:SliceOf h 5 (.slice a0 n c) n (kcs l))(hn:n<1000)(hk:0≤kerf∧kerf≤100)(hW:0≤W∧W≤1000000000)(hws:∀x∈wsOf l,0≤x∧x≤W):
 Pu T 93 [.agg #[.slice a0 n c, .int .i64 kerf]] h (.agg (ints (grid (Vf kerf (wsOf l) l))).toArray):=by
 refine .of F.p F.f93 hr (scalL_ints _) ?_
 obtain rfl:n=l.length:=by have:=hs.len;rw[kcs_length]at this;omega
 have hVb:∀x y:Nat,x≤16→y≤16→0≤Vf kerf (wsOf l) l x y∧Vf kerf (wsOf l) l x y≤256000000000:=fun x y hx hy=>by
  have h1:=V_bd (kl:=l) hk.1 hW.1 hws x y
  have h2:=area_mono (W:=W) (a:=x) (b:=y) (c:=16) (d:=16) hW.1 (by omega) (by omega) (by omega) (by omega)
  unfold Vf
  refine⟨h1.1,?_⟩
  omega
 generalize hG:Vf kerf (wsOf l) l=G at*
 refine y4 ?_;refine yB ?_;refine wO_val a_new ?_;refine y3 ?_;refine y4 ?_;refine wO_val a_new ?_;refine y3 ?_;refine wE_seq ?_;refine y4 ?_;refine yM ?_;refine y3 ?_;refine wE_block ?_
 refine WE.gen ?_
 intro hA hAe
 have A1:hA.get h.next=some (.cells [.slice a0 l.length c, .int .i64 kerf] true 1):=by rw[hAe];(simp(disch:=first|omega|(simp only[z1,z2];omega))only[z3,z4,z5,z6,z7,z1,z2, *];exact rfl)
 have A2:hA.get (h.next+1)=some (.cells (ints (grid fun _ _=>0)) true 1):=by rw[hAe,←grid_zero];(simp(disch:=first|omega|(simp only[z1,z2];omega)|(simp only[z1,z2];done)|fail)only[z8,z4,z5,z9,z7,z1,z2, *];done)
 have A3:hA.get (h.next+2)=some (.cells (ints (grid fun _ _=>0)) true 1):=by rw[hAe,←grid_zero];(simp(disch:=first|omega|(simp only[z1,z2];omega)|(simp only[z1,z2];done)|fail)only[z8,z4,z5,z9,z7,z1,z2, *];done)
 have A0:∀z,z<h.next→hA.get z=h.get z:=fun z hz=>by rw[hAe];simp(disch:=first|omega|(simp only[z1,z2];omega))only[z5,z4]
 have A5:hA.next=h.next+3:=by rw[hAe];rfl
 have A6:hA.log=[]:=by rw[hAe];exact hr.log
 have A7:WF hA:=by rw[hAe];exact((hr.wf.push _).push _).push _
 clear hAe
 refine wE_loop (fun m e ds h'=>∃a:Nat,1≤a∧a≤17∧m=17-a∧e=[(1, .pointer (some ⟨h.next,0,none⟩)),(2, .pointer (some ⟨h.next+1,0,none⟩)),(3, .pointer (some ⟨h.next+2,0,none⟩)),(4, .int .i64 a)]∧ds=[]∧Vt (h.next+2) hA h' (doneF G a 1))
  ⟨1,by omega,by omega,rfl,rfl,rfl,⟨fun _ _=>rfl,by rw[A3];refine congrArg (fun q=>some (AObj.cells (ints q) true 1)) (grid_congr fun x y hx hy=> ?_);unfold doneF;split;rw[←hG];unfold Vf;rw[V_out (by simp;omega)];rfl,A6,A7,by omega⟩⟩ ?_
 rintro m e ds h4 ⟨a,ha1,ha2,rfl,rfl,rfl,w4⟩
 by_cases hlt4:a<17
 ·refine wE_seq ?_;refine y4 ?_;refine yM ?_;refine yt ?_;refine y3 ?_;refine yY ?_;refine wE_skip ?_;refine kS_n ?_
  refine wE_seq ?_;refine wE_block ?_;refine y4 ?_;refine yM ?_;refine y3 ?_;refine wE_block ?_
  refine wE_loop (fun m e ds h'=>∃b:Nat,1≤b∧b≤17∧m=17-b∧e=[(1, .pointer (some ⟨h.next,0,none⟩)),(2, .pointer (some ⟨h.next+1,0,none⟩)),(3, .pointer (some ⟨h.next+2,0,none⟩)),(4, .int .i64 a),(5, .int .i64 b)]∧ds=[]∧Vt (h.next+2) hA h' (doneF G a b))
   ⟨1,by omega,by omega,rfl,rfl,rfl,w4⟩ ?_
  rintro m e ds h5 ⟨b,hb1,hb2,rfl,rfl,rfl,w5⟩
  by_cases hlt5:b<17
  ·refine wE_seq ?_;refine y4 ?_;refine yM ?_;refine yt ?_;refine y3 ?_;refine yY ?_;refine wE_skip ?_;refine kS_n ?_
   refine wE_seq ?_;refine wE_block ?_;refine wE_seq ?_;refine y4 ?_;refine yM ?_;refine y3 ?_;refine wE_block ?_
   refine wE_loop (fun m e ds h'=>∃i:Nat,i≤l.length∧m=l.length-i∧e=[(1, .pointer (some ⟨h.next,0,none⟩)),(2, .pointer (some ⟨h.next+1,0,none⟩)),(3, .pointer (some ⟨h.next+2,0,none⟩)),(4, .int .i64 a),(5, .int .i64 b),(6, .int .i64 i)]∧ds=[]∧Vt (h.next+2) hA h' (updF (doneF G a b) a b (leafM (wsOf l) (leavesL a b (l.take i) 0) 0)))
    ⟨0,by omega,rfl,rfl,rfl,w5.congr fun x y _ _=>by
     unfold updF doneF
     by_cases q:x=a∧y=b
     ·rw[if_pos q,if_neg (by omega)];rfl
     ·rw[if_neg q]⟩ ?_
   rintro m e ds h6 ⟨i,hin,rfl,rfl,rfl,w6⟩
   have g3:=w6.obj
   have g1:=(w6.old h.next (by omega)).trans A1
   have k3:=w6.nx
   by_cases hlt6:i<l.length
   ·obtain⟨x,hxl⟩:∃x,l[i]? =some x:=⟨l[i],List.getElem?_eq_getElem hlt6⟩
    have hstep:=leafM_kind (ws:=wsOf l) (a:=a) (b:=b) hxl 0
    rw[ws_at hxl]at hstep
    rcases hs.inv with⟨_,_,h0,_⟩|⟨b0,o0,cap,hv,sl,hcap⟩
    ·omega
    cases hv
    obtain⟨vs,own,t0,g5,g6⟩:=slice_elem sl hxl
    have kb0:=WF.get_lt hr.wf g5
    have gs:=(w6.old b0 (by omega)).trans ((A0 b0 kb0).trans g5)
    have e3:lget vs (o0+i*5+3)=some (.int .i64 x.worth):=elem_get g6 3 (by omega)
    have c1:=grid_get (f:=updF (doneF G a b) a b (leafM (wsOf l) (leavesL a b (l.take i) 0) 0)) (a:=a) (b:=b) (by omega) (by omega)
    rw[updF_self]at c1
    generalize hP:leafM (wsOf l) (leavesL a b (l.take i) 0) 0=P at*
    refine wE_seq ?_;refine y4 ?_;refine yM ?_;refine yF ?_;refine yL ?_;refine yD ?_;refine yt ?_;refine y3 ?_;refine yY ?_;refine wE_skip ?_;refine kS_n ?_;refine wE_seq ?_;refine wE_block ?_;refine y4 ?_;refine yF ?_;refine yL ?_
    refine yM ?_;refine wO_val (a_iaddrS (by exact rfl) (by exact rfl) (by omega)) ?_
    refine wO_val (a_loadN (by exact rfl) gs g6 (by exact rfl)) ?_
    refine yM ?_;refine yM ?_
    refine yC ?_
    refine FW.pu (plank112 F.p F.f112 (.of w6.wf) x a b) ?_
    cases hpl:plankB x a b with
    |true=>
     rw[hpl,if_pos rfl]at hstep
     refine y3 ?_;refine yY ?_;refine wE_draw ?_;refine qM ?_;refine qM ?_
     refine qM ?_;refine qM ?_;refine wD_quiet rfl rfl rfl (by exact rfl) (by exact rfl) (by exact rfl) (a_iaddrA (by exact rfl) (by exact rfl) (by omega)) ?_
     refine wD_quiet rfl rfl rfl (by exact rfl) (by exact rfl) (by exact rfl) (a_iaddrA (by exact rfl) (by exact rfl) (by omega)) ?_;refine wD_quiet rfl rfl rfl (by exact rfl) (by exact rfl) (by exact rfl) (a_load (by exact rfl) (by assumption) (by assumption)) ?_;refine qF ?_
     refine qL ?_;refine qM ?_;refine wD_quiet rfl rfl rfl (by exact rfl) (by exact rfl) (by exact rfl) (a_iaddrS (by exact rfl) (by exact rfl) (by omega)) ?_
     refine qF ?_;refine wD_quiet rfl rfl rfl (by exact rfl) (by exact rfl) (by exact rfl) (a_load (by exact rfl) (by assumption) (by assumption)) ?_
     refine wD_quiet rfl rfl rfl (by exact rfl) (by exact rfl) (by exact rfl) (a_max (by exact rfl) (by exact rfl)) ?_
     refine wD_quiet rfl rfl rfl (by exact rfl) (by exact rfl) (by exact rfl) (a_iaddrA (by exact rfl) (by exact rfl) (by omega)) ?_;refine wD_quiet rfl rfl rfl (by exact rfl) (by exact rfl) (by exact rfl) (a_iaddrA (by exact rfl) (by exact rfl) (by omega)) ?_
     refine wD_store (ws:=ints (grid (updF (updF (doneF G a b) a b P) a b (mx P x.worth)))) rfl rfl rfl (by exact rfl) (by exact rfl) (by exact rfl) (by assumption) (grid_st (by omega) (by omega)) (grid_put (by omega) _) (by omega) (by omega) (by apply ra_dropC rfl;apply ra_dropC rfl;apply ra_dropC rfl;apply ra_dropC rfl;apply ra_dropC rfl;apply ra_dropC rfl;apply ra_dropC rfl;apply ra_dropC rfl;apply ra_dropC rfl;apply ra_dropC rfl;apply ra_dropC rfl;apply ra_dropC rfl;apply ra_dropC rfl;apply ra_dropC rfl;apply ra_dropC rfl;apply ra_dropC rfl;exact ra_nil) ?_
     refine wD_nil ?_;refine y1 ?_;refine kB_n ?_;refine kS_n ?_;refine wE_region ?_;refine yM ?_;refine yinc ?_;refine yM ?_;refine y3 ?_
     refine⟨l.length-(i+1),by omega,i+1,by omega,rfl,rfl,rfl,?_⟩
     have:=w6.wr (base:=h.next) (a:=a) (b:=b) (mx P x.worth) (by omega)
     rw[hstep]
     rw[updF_upd]at this⊢
     exact this
    |false=>
     rw[hpl,if_neg Bool.false_ne_true]at hstep
     refine y3 ?_;refine yX ?_;refine wE_skip ?_;refine kB_n ?_;refine kS_n ?_;refine wE_region ?_;refine yM ?_;refine yinc ?_
     refine yM ?_;refine y3 ?_
     refine⟨l.length-(i+1),by omega,i+1,by omega,rfl,rfl,rfl,?_⟩
     rw[hstep]
     exact w6
   ·obtain rfl:i=l.length:=by omega
    rw[List.take_of_length_le (Nat.le_refl _)]at w6
    generalize hM0:leafM (wsOf l) (leavesL a b l 0) 0=M0 at*
    have v7:=w6
    refine wE_seq ?_;refine y4 ?_;refine yM ?_;refine yF ?_;refine yL ?_;refine yD ?_;refine yf ?_;refine y3 ?_;refine yX ?_;refine wE_exit ?_;refine kS_e ?_;refine kS_e ?_;refine kB_e ?_;refine kS_n ?_;refine wE_seq ?_;refine y4 ?_;refine yM ?_;refine y3 ?_;refine wE_block ?_
    refine wE_loop (fun m e ds h'=>∃n:Nat,n+1≤a∧m=a-n∧e=[(1, .pointer (some ⟨h.next,0,none⟩)),(2, .pointer (some ⟨h.next+1,0,none⟩)),(3, .pointer (some ⟨h.next+2,0,none⟩)),(4, .int .i64 a),(5, .int .i64 b),(7, .int .i64 (n+1:Nat))]∧ds=[]∧Vt (h.next+2) hA h' (updF (doneF G a b) a b (foldM (fun x=>V kerf (wsOf l) l (oneB x a b)+V kerf (wsOf l) l (twoB kerf x a b)) (row 3 n) M0)))
     ⟨0,by omega,rfl,rfl,rfl,by simpa[row,foldM]using v7⟩ ?_
    rintro m e ds h7 ⟨n,hn2,rfl,rfl,rfl,w7⟩
    have g3:=w7.obj
    have g1:=(w7.old h.next (by omega)).trans A1
    have k3:=w7.nx
    by_cases hlt7:n+1<a
    ·obtain⟨r,hr1⟩:∃r:Nat,mx 0 ((a:Int)-(n+1:Nat)-kerf)=r:=by
      have:0≤mx 0 ((a:Int)-(n+1:Nat)-kerf):=mx_ge.1
      exact⟨_,(Int.toNat_of_nonneg this).symm⟩
     have hrl:r<a:=by unfold mx at hr1;split at hr1<;>omega
     have c1:=grid_get (f:=updF (doneF G a b) a b (foldM (fun x=>V kerf (wsOf l) l (oneB x a b)+V kerf (wsOf l) l (twoB kerf x a b)) (row 3 n) M0)) (a:=a) (b:=b) (by omega) (by omega)
     have c2:=grid_get (f:=updF (doneF G a b) a b (foldM (fun x=>V kerf (wsOf l) l (oneB x a b)+V kerf (wsOf l) l (twoB kerf x a b)) (row 3 n) M0)) (a:=n+1) (b:=b) (by omega) (by omega)
     have c3:=grid_get (f:=updF (doneF G a b) a b (foldM (fun x=>V kerf (wsOf l) l (oneB x a b)+V kerf (wsOf l) l (twoB kerf x a b)) (row 3 n) M0)) (a:=r) (b:=b) (by omega) (by omega)
     rw[updF_self]at c1
     rw[updF_left _ (by omega)]at c2 c3
     have hcut:=cut_left (ws:=wsOf l) (kl:=l) (a:=a) (b:=b) (n:=n+1) (r:=r) (kerf:=kerf) (by omega) hr1
     rw[hG]at hcut
     have hb2:=hVb (n+1) b (by omega) (by omega)
     have hb3:=hVb r b (by omega) (by omega)
     have hnext:mx (foldM (fun x=>V kerf (wsOf l) l (oneB x a b)+V kerf (wsOf l) l (twoB kerf x a b)) (row 3 n) M0) (G (n+1) b+G r b)=(foldM (fun x=>V kerf (wsOf l) l (oneB x a b)+V kerf (wsOf l) l (twoB kerf x a b)) (row 3 (n+1)) M0):=by rw[foldM_row,hcut]
     generalize hP:(foldM (fun x=>V kerf (wsOf l) l (oneB x a b)+V kerf (wsOf l) l (twoB kerf x a b)) (row 3 n) M0)=P at*
     refine wE_seq ?_;refine y4 ?_;refine yM ?_;refine yM ?_;refine yt ?_;refine y3 ?_;refine yY ?_
     refine wE_skip ?_;refine kS_n ?_;refine wE_seq ?_;refine wE_block ?_;refine wE_draw ?_;refine qM ?_;refine qM ?_;refine qM ?_
     refine qM ?_;refine wD_quiet rfl rfl rfl (by exact rfl) (by exact rfl) (by exact rfl) (a_iaddrA (by exact rfl) (by exact rfl) (by omega)) ?_;refine wD_quiet rfl rfl rfl (by exact rfl) (by exact rfl) (by exact rfl) (a_iaddrA (by exact rfl) (by exact rfl) (by omega)) ?_
     refine wD_quiet rfl rfl rfl (by exact rfl) (by exact rfl) (by exact rfl) (a_load (by exact rfl) (by assumption) (by assumption)) ?_;refine qM ?_;refine qM ?_
     refine wD_quiet rfl rfl rfl (by exact rfl) (by exact rfl) (by exact rfl) (a_iaddrA (by exact rfl) (by exact rfl) (by omega)) ?_;refine wD_quiet rfl rfl rfl (by exact rfl) (by exact rfl) (by exact rfl) (a_iaddrA (by exact rfl) (by exact rfl) (by omega)) ?_;refine wD_quiet rfl rfl rfl (by exact rfl) (by exact rfl) (by exact rfl) (a_load (by exact rfl) (by assumption) (by assumption)) ?_
     refine qM ?_;refine qM ?_;refine wD_quiet rfl rfl rfl (by exact rfl) (by exact rfl) (by exact rfl) (a_num (by exact rfl) (by exact rfl) (by exact m_sub (wrapA_i64 (by omega) (by omega)))) ?_
     refine qF ?_;refine qL ?_;refine wD_quiet rfl rfl rfl (by exact rfl) (by exact rfl) (by exact rfl) (a_num (by exact rfl) (by exact rfl) (by exact m_sub (wrapA_i64 (by omega) (by omega)))) ?_
     refine wD_quiet rfl rfl rfl (by exact rfl) (by exact rfl) (by exact rfl) (a_max0 (by exact rfl) (by exact rfl) hr1) ?_
     refine qM ?_;refine wD_quiet rfl rfl rfl (by exact rfl) (by exact rfl) (by exact rfl) (a_iaddrA (by exact rfl) (by exact rfl) (by omega)) ?_;refine wD_quiet rfl rfl rfl (by exact rfl) (by exact rfl) (by exact rfl) (a_iaddrA (by exact rfl) (by exact rfl) (by omega)) ?_
     refine wD_quiet rfl rfl rfl (by exact rfl) (by exact rfl) (by exact rfl) (a_load (by exact rfl) (by assumption) (by assumption)) ?_;refine wD_quiet rfl rfl rfl (by exact rfl) (by exact rfl) (by exact rfl) (a_num (by exact rfl) (by exact rfl) (by exact m_add (wrapA_i64 (by omega) (by omega)))) ?_
     refine wD_quiet rfl rfl rfl (by exact rfl) (by exact rfl) (by exact rfl) (a_max (by exact rfl) (by exact rfl)) ?_
     refine wD_quiet rfl rfl rfl (by exact rfl) (by exact rfl) (by exact rfl) (a_iaddrA (by exact rfl) (by exact rfl) (by omega)) ?_;refine wD_quiet rfl rfl rfl (by exact rfl) (by exact rfl) (by exact rfl) (a_iaddrA (by exact rfl) (by exact rfl) (by omega)) ?_
     refine wD_store (ws:=ints (grid (updF (updF (doneF G a b) a b P) a b (mx P (G (n+1) b+G r b))))) rfl rfl rfl (by exact rfl) (by exact rfl) (by exact rfl) (by assumption) (grid_st (by omega) (by omega)) (grid_put (by omega) _) (by omega) (by omega) (by apply ra_dropC rfl;apply ra_dropC rfl;apply ra_dropC rfl;apply ra_dropC rfl;apply ra_dropC rfl;apply ra_dropC rfl;apply ra_dropC rfl;apply ra_dropC rfl;apply ra_dropC rfl;apply ra_dropC rfl;apply ra_dropC rfl;apply ra_dropC rfl;apply ra_dropC rfl;apply ra_dropC rfl;apply ra_dropC rfl;apply ra_dropC rfl;apply ra_dropC rfl;apply ra_dropC rfl;apply ra_dropC rfl;apply ra_dropC rfl;apply ra_dropC rfl;apply ra_dropC rfl;apply ra_dropC rfl;apply ra_dropC rfl;apply ra_dropC rfl;apply ra_dropC rfl;apply ra_dropC rfl;exact ra_nil) ?_
     refine wD_nil ?_;refine y1 ?_;refine kB_n ?_;refine kS_n ?_;refine wE_region ?_;refine yM ?_;refine yinc ?_;refine yM ?_;refine y3 ?_
     refine⟨a-(n+1),by omega,n+1,by omega,rfl,rfl,rfl,?_⟩
     have:=w7.wr (base:=h.next) (a:=a) (b:=b) (mx P (G (n+1) b+G r b)) (by omega)
     rw[←hnext]
     rw[updF_upd]at this⊢
     exact this
    ·obtain rfl:n=a-1:=by omega
     generalize hM1:foldM (fun x=>V kerf (wsOf l) l (oneB x a b)+V kerf (wsOf l) l (twoB kerf x a b)) (row 3 (a-1)) M0=M1 at*
     have v8:=w7
     refine wE_seq ?_;refine y4 ?_;refine yM ?_;refine yM ?_;refine yf ?_;refine y3 ?_;refine yX ?_
     refine wE_exit ?_;refine kS_e ?_;refine kS_e ?_;refine kB_e ?_;refine kS_n ?_;refine y4 ?_;refine yM ?_;refine y3 ?_;refine wE_block ?_
     refine wE_loop (fun m e ds h'=>∃n:Nat,n+1≤b∧m=b-n∧e=[(1, .pointer (some ⟨h.next,0,none⟩)),(2, .pointer (some ⟨h.next+1,0,none⟩)),(3, .pointer (some ⟨h.next+2,0,none⟩)),(4, .int .i64 a),(5, .int .i64 b),(8, .int .i64 (n+1:Nat))]∧ds=[]∧Vt (h.next+2) hA h' (updF (doneF G a b) a b (foldM (fun x=>V kerf (wsOf l) l (oneB x a b)+V kerf (wsOf l) l (twoB kerf x a b)) (row 4 n) M1)))
      ⟨0,by omega,rfl,rfl,rfl,by simpa[row,foldM]using v8⟩ ?_
     rintro m e ds h8 ⟨n,hn2,rfl,rfl,rfl,w8⟩
     have g3:=w8.obj
     have g1:=(w8.old h.next (by omega)).trans A1
     have k3:=w8.nx
     by_cases hlt8:n+1<b
     ·obtain⟨r,hr1⟩:∃r:Nat,mx 0 ((b:Int)-(n+1:Nat)-kerf)=r:=by
       have:0≤mx 0 ((b:Int)-(n+1:Nat)-kerf):=mx_ge.1
       exact⟨_,(Int.toNat_of_nonneg this).symm⟩
      have hrl:r<b:=by unfold mx at hr1;split at hr1<;>omega
      have c1:=grid_get (f:=updF (doneF G a b) a b (foldM (fun x=>V kerf (wsOf l) l (oneB x a b)+V kerf (wsOf l) l (twoB kerf x a b)) (row 4 n) M1)) (a:=a) (b:=b) (by omega) (by omega)
      have c2:=grid_get (f:=updF (doneF G a b) a b (foldM (fun x=>V kerf (wsOf l) l (oneB x a b)+V kerf (wsOf l) l (twoB kerf x a b)) (row 4 n) M1)) (a:=a) (b:=n+1) (by omega) (by omega)
      have c3:=grid_get (f:=updF (doneF G a b) a b (foldM (fun x=>V kerf (wsOf l) l (oneB x a b)+V kerf (wsOf l) l (twoB kerf x a b)) (row 4 n) M1)) (a:=a) (b:=r) (by omega) (by omega)
      rw[updF_self]at c1
      rw[updF_up _ (by omega)]at c2 c3
      have hcut:=cut_up (ws:=wsOf l) (kl:=l) (a:=a) (b:=b) (n:=n+1) (r:=r) (kerf:=kerf) (by omega) hr1
      rw[hG]at hcut
      have hb2:=hVb a (n+1) (by omega) (by omega)
      have hb3:=hVb a r (by omega) (by omega)
      have hnext:mx (foldM (fun x=>V kerf (wsOf l) l (oneB x a b)+V kerf (wsOf l) l (twoB kerf x a b)) (row 4 n) M1) (G a (n+1)+G a r)=(foldM (fun x=>V kerf (wsOf l) l (oneB x a b)+V kerf (wsOf l) l (twoB kerf x a b)) (row 4 (n+1)) M1):=by rw[foldM_row,hcut]
      generalize hP:(foldM (fun x=>V kerf (wsOf l) l (oneB x a b)+V kerf (wsOf l) l (twoB kerf x a b)) (row 4 n) M1)=P at*
      refine wE_seq ?_;refine y4 ?_;refine yM ?_;refine yM ?_;refine yt ?_;refine y3 ?_;refine yY ?_
      refine wE_skip ?_;refine kS_n ?_;refine wE_seq ?_;refine wE_block ?_;refine wE_draw ?_;refine qM ?_;refine qM ?_;refine qM ?_
      refine qM ?_;refine wD_quiet rfl rfl rfl (by exact rfl) (by exact rfl) (by exact rfl) (a_iaddrA (by exact rfl) (by exact rfl) (by omega)) ?_;refine wD_quiet rfl rfl rfl (by exact rfl) (by exact rfl) (by exact rfl) (a_iaddrA (by exact rfl) (by exact rfl) (by omega)) ?_
      refine wD_quiet rfl rfl rfl (by exact rfl) (by exact rfl) (by exact rfl) (a_load (by exact rfl) (by assumption) (by assumption)) ?_;refine qM ?_;refine qM ?_
      refine wD_quiet rfl rfl rfl (by exact rfl) (by exact rfl) (by exact rfl) (a_iaddrA (by exact rfl) (by exact rfl) (by omega)) ?_;refine wD_quiet rfl rfl rfl (by exact rfl) (by exact rfl) (by exact rfl) (a_iaddrA (by exact rfl) (by exact rfl) (by omega)) ?_;refine wD_quiet rfl rfl rfl (by exact rfl) (by exact rfl) (by exact rfl) (a_load (by exact rfl) (by assumption) (by assumption)) ?_
      refine qM ?_;refine qM ?_;refine qM ?_
      refine wD_quiet rfl rfl rfl (by exact rfl) (by exact rfl) (by exact rfl) (a_num (by exact rfl) (by exact rfl) (by exact m_sub (wrapA_i64 (by omega) (by omega)))) ?_;refine qF ?_;refine qL ?_
      refine wD_quiet rfl rfl rfl (by exact rfl) (by exact rfl) (by exact rfl) (a_num (by exact rfl) (by exact rfl) (by exact m_sub (wrapA_i64 (by omega) (by omega)))) ?_
      refine wD_quiet rfl rfl rfl (by exact rfl) (by exact rfl) (by exact rfl) (a_max0 (by exact rfl) (by exact rfl) hr1) ?_
      refine wD_quiet rfl rfl rfl (by exact rfl) (by exact rfl) (by exact rfl) (a_iaddrA (by exact rfl) (by exact rfl) (by omega)) ?_;refine wD_quiet rfl rfl rfl (by exact rfl) (by exact rfl) (by exact rfl) (a_iaddrA (by exact rfl) (by exact rfl) (by omega)) ?_;refine wD_quiet rfl rfl rfl (by exact rfl) (by exact rfl) (by exact rfl) (a_load (by exact rfl) (by assumption) (by assumption)) ?_
      refine wD_quiet rfl rfl rfl (by exact rfl) (by exact rfl) (by exact rfl) (a_num (by exact rfl) (by exact rfl) (by exact m_add (wrapA_i64 (by omega) (by omega)))) ?_
      refine wD_quiet rfl rfl rfl (by exact rfl) (by exact rfl) (by exact rfl) (a_max (by exact rfl) (by exact rfl)) ?_
      refine wD_quiet rfl rfl rfl (by exact rfl) (by exact rfl) (by exact rfl) (a_iaddrA (by exact rfl) (by exact rfl) (by omega)) ?_;refine wD_quiet rfl rfl rfl (by exact rfl) (by exact rfl) (by exact rfl) (a_iaddrA (by exact rfl) (by exact rfl) (by omega)) ?_
      refine wD_store (ws:=ints (grid (updF (updF (doneF G a b) a b P) a b (mx P (G a (n+1)+G a r))))) rfl rfl rfl (by exact rfl) (by exact rfl) (by exact rfl) (by assumption) (grid_st (by omega) (by omega)) (grid_put (by omega) _) (by omega) (by omega) (by apply ra_dropC rfl;apply ra_dropC rfl;apply ra_dropC rfl;apply ra_dropC rfl;apply ra_dropC rfl;apply ra_dropC rfl;apply ra_dropC rfl;apply ra_dropC rfl;apply ra_dropC rfl;apply ra_dropC rfl;apply ra_dropC rfl;apply ra_dropC rfl;apply ra_dropC rfl;apply ra_dropC rfl;apply ra_dropC rfl;apply ra_dropC rfl;apply ra_dropC rfl;apply ra_dropC rfl;apply ra_dropC rfl;apply ra_dropC rfl;apply ra_dropC rfl;apply ra_dropC rfl;apply ra_dropC rfl;apply ra_dropC rfl;apply ra_dropC rfl;apply ra_dropC rfl;apply ra_dropC rfl;exact ra_nil) ?_
      refine wD_nil ?_;refine y1 ?_;refine kB_n ?_;refine kS_n ?_;refine wE_region ?_;refine yM ?_;refine yinc ?_;refine yM ?_;refine y3 ?_
      refine⟨b-(n+1),by omega,n+1,by omega,rfl,rfl,rfl,?_⟩
      have:=w8.wr (base:=h.next) (a:=a) (b:=b) (mx P (G a (n+1)+G a r)) (by omega)
      rw[←hnext]
      rw[updF_upd]at this⊢
      exact this
     ·obtain rfl:n=b-1:=by omega
      have hval:foldM (fun x=>V kerf (wsOf l) l (oneB x a b)+V kerf (wsOf l) l (twoB kerf x a b)) (row 4 (b-1)) M1=G a b:=by
       rw[←hG]
       unfold Vf
       rw[V_eq hk.1 ha1 hb1,hM0,←hM1]
       unfold cutsL foldM
       rw[List.foldl_append]
      rw[hval,doneF_next]at w8
      refine wE_seq ?_;refine y4 ?_;refine yM ?_;refine yM ?_;refine yf ?_;refine y3 ?_;refine yX ?_
      refine wE_exit ?_;refine kS_e ?_;refine kS_e ?_;refine kB_e ?_;refine kB_n ?_;refine kS_n ?_;refine wE_region ?_;refine yM ?_;refine yinc ?_;refine yM ?_;refine y3 ?_
      exact⟨17-(b+1),by omega,b+1,by omega,by omega,rfl,rfl,rfl,w8⟩
  ·obtain rfl:b=17:=by omega
   refine wE_seq ?_;refine y4 ?_;refine yM ?_;refine yf ?_;refine y3 ?_;refine yX ?_;refine wE_exit ?_;refine kS_e ?_
   refine kS_e ?_;refine kB_e ?_;refine kB_n ?_;refine kS_n ?_;refine wE_region ?_;refine yM ?_;refine yinc ?_;refine yM ?_;refine y3 ?_
   refine⟨17-(a+1),by omega,a+1,by omega,by omega,rfl,rfl,rfl,w5.congr fun x y hx hy=> ?_⟩
   unfold doneF
   by_cases hq:x<a∨(x=a∧y<17)
   ·rw[if_pos hq,if_pos (by omega)]
   ·rw[if_neg hq]
    split
    ·rename_i hq2
     rw[←hG];unfold Vf
     rw[V_out (by simp;omega)]
    ·rfl
 ·obtain rfl:a=17:=by omega
  have hfin:grid (doneF G 17 1)=grid G:=grid_congr fun x y hx hy=>by unfold doneF;rw[if_pos (by omega)]
  have hl:(ints (grid G)).length=289:=by rw[ints_len,grid_len]
  have hl0:(ints (grid fun _ _=>0)).length=289:=by rw[ints_len,grid_len]
  have eA:ltake 289 (ldrop 0 (ints (grid G)))=ints (grid G):=by rw[ltake_eq,ldrop_eq,List.drop_zero,List.take_of_length_le (by omega)]
  have eB:lputs (ints (grid fun _ _=>0)) 0 (ints (grid G))=ints (grid G):=by
   rw[lputs_mid (by omega),List.take_zero,List.nil_append,Nat.zero_add,hl,List.drop_of_length_le (by omega),List.append_nil]
  have eC:ones (ints (grid G))=true:=ones_ints _
  have wo:=w4.obj
  rw[hfin]at wo
  have wl:=w4.log
  have g2:=(w4.old (h.next+1) (by omega)).trans A2
  have hz:PLift (h4.get (h.next+2)=some (.cells (ints (grid G)) true 1)∧h4.get (h.next+1)=some (.cells (ints (grid fun _ _=>0)) true 1)):=⟨⟨wo,g2⟩⟩
  clear wo g2 w4 A1 A2 A3
  generalize ints (grid G)=XS at*
  generalize ints (grid fun _ _=>0)=ZS at*
  refine wE_seq ?_;refine y4 ?_;refine yM ?_;refine yf ?_;refine y3 ?_;refine yX ?_;refine wE_exit ?_;refine kS_e ?_
  refine kS_e ?_;refine kB_e ?_;refine kS_n ?_;refine y4 ?_
  refine wO_val (a_loadN (l:=XS) (by exact rfl) hz.down.1 eA (by rw[llen_eq,hl];rfl)) ?_
  refine wO_val (a_store (ws:=XS) (by exact rfl) (by exact rfl) hz.down.2 (by simp[cellsOf,llen_eq,hl,hl0,eC]) (by show lputs ZS 0 XS=XS;exact eB)) ?_
  refine y3 ?_;refine wE_ret ?_
  exact endP_ret ((Heap.log_wr_new (by omega)).trans wl) (res_cells (b:=h.next+1) (l:=XS) (by exact rfl) (Heap.get_wr_new hz.down.2) eA (by rw[llen_eq,hl];rfl) res_nil) rfl
end Go.A.Pk
end
section
namespace Go.A.Pk
def leafB(bot:Int)(ws:List Int)(kind:Nat)(x:Nat×Nat):Int:=if x.2=kind then ws.getD kind 0 else bot
def UBF(bot kerf:Int)(ws:List Int)(kl:List Kd)(kind:Nat):Nat→Int×Int→Int
 |0,_=>bot
 |n+1,p=>if 1≤p.1∧1≤p.2 then foldM (fun x=>mx (UBF bot kerf ws kl kind n (oneB x p.1.toNat p.2.toNat)+V kerf ws kl (twoB kerf x p.1.toNat p.2.toNat)) (V kerf ws kl (oneB x p.1.toNat p.2.toNat)+UBF bot kerf ws kl kind n (twoB kerf x p.1.toNat p.2.toNat))) (cutsL p.1.toNat p.2.toNat) (foldM (leafB bot ws kind) (leavesL p.1.toNat p.2.toNat kl 0) bot)else bot
variable {bot kerf:Int} {ws:List Int} {kl:List Kd} {kind:Nat}
theorem UBF_succ(hk:0≤kerf):∀{n:Nat} {p:Int×Int},sz p≤n→UBF bot kerf ws kl kind (n+1) p=UBF bot kerf ws kl kind n p
 |0,p,h=>by
  unfold sz at h
  simp only[UBF]
  rw[if_neg (by omega)]
 |n+1,p,h=>by
  rw[UBF,UBF]
  split
  ·refine foldM_congr fun x hx=> ?_
   have:=cut_lt hk hx
   unfold sz at h
   rw[UBF_succ hk (by omega),UBF_succ hk (by omega)]
  ·rfl
theorem UBF_ge(hk:0≤kerf){n:Nat}{p:Int×Int}(h:sz p≤n):∀{m:Nat},n≤m→UBF bot kerf ws kl kind m p=UBF bot kerf ws kl kind n p:=by
 intro m hm
 induction m with
 |zero=>obtain rfl:n=0:=by omega
        rfl
 |succ m ih=>
  by_cases e:n=m+1
  ·rw[e]
  ·rw[UBF_succ hk (by omega),ih (by omega)]
def UB(bot kerf:Int)(ws:List Int)(kl:List Kd)(kind:Nat)(p:Int×Int):Int:=UBF bot kerf ws kl kind (sz p) p
theorem UB_out{p:Int×Int}(h:¬ (1≤p.1∧1≤p.2)):UB bot kerf ws kl kind p=bot:=by
 unfold UB
 cases sz p with
 |zero=>rfl
 |succ n=>rw[UBF,if_neg h]
theorem UB_eq(hk:0≤kerf){a b:Nat}(ha:1≤a)(hb:1≤b):UB bot kerf ws kl kind ((a:Int),(b:Int))=foldM (fun x=>mx (UB bot kerf ws kl kind (oneB x a b)+V kerf ws kl (twoB kerf x a b)) (V kerf ws kl (oneB x a b)+UB bot kerf ws kl kind (twoB kerf x a b))) (cutsL a b) (foldM (leafB bot ws kind) (leavesL a b kl 0) bot):=by
 have hs:sz ((a:Int),(b:Int))=a+b:=by simp[sz]
 unfold UB
 rw[hs]
 obtain⟨n,hn⟩:∃n,a+b=n+1:=⟨a+b-1,by omega⟩
 rw[hn,UBF,if_pos ⟨by show(1:Int)≤a;omega,by show(1:Int)≤b;omega⟩]
 show foldM (fun x=>mx (UBF bot kerf ws kl kind n (oneB x a b)+V kerf ws kl (twoB kerf x a b)) (V kerf ws kl (oneB x a b)+UBF bot kerf ws kl kind n (twoB kerf x a b))) (cutsL a b) _=_
 refine foldM_congr fun x hx=> ?_
 have:=cut_lt hk hx
 rw[UBF_ge hk (n:=sz (oneB x a b)) (Nat.le_refl _) (by omega),UBF_ge hk (n:=sz (twoB kerf x a b)) (Nat.le_refl _) (by omega)]
theorem UBF_never:∀(n:Nat) (p:Int×Int),UBF never kerf ws kl kind n p=UF kerf ws kl kind n p
 |0,_=>rfl
 |n+1,p=>by
  rw[UBF,UF]
  simp only[UBF_never n]
  rfl
theorem UB_never(p:Int×Int):UB never kerf ws kl kind p=U kerf ws kl kind p:=UBF_never _ _
theorem UB_leaf(hk:0≤kerf){a b:Nat}(ha:1≤a)(hb:1≤b){x:Nat×Nat}(hx:x∈leavesL a b kl 0)(he:x.2=kind):ws.getD kind 0≤UB bot kerf ws kl kind ((a:Int),(b:Int)):=by
 rw[UB_eq hk ha hb]
 have h1:=(foldM_ge (f:=leafB bot ws kind) (xs:=leavesL a b kl 0) (m:=bot)).2 x hx
 rw[leafB,if_pos he]at h1
 exact Int.le_trans h1 foldM_ge.1
theorem UB_cut(hk:0≤kerf){a b:Nat}(ha:1≤a)(hb:1≤b){x:Nat×Nat}(hx:x∈cutsL a b):UB bot kerf ws kl kind (oneB x a b)+V kerf ws kl (twoB kerf x a b)≤UB bot kerf ws kl kind ((a:Int),(b:Int))∧V kerf ws kl (oneB x a b)+UB bot kerf ws kl kind (twoB kerf x a b)≤UB bot kerf ws kl kind ((a:Int),(b:Int)):=by
 rw[UB_eq hk ha hb]
 have h:=(foldM_ge (f:=fun x=>mx (UB bot kerf ws kl kind (oneB x a b)+V kerf ws kl (twoB kerf x a b)) (V kerf ws kl (oneB x a b)+UB bot kerf ws kl kind (twoB kerf x a b))) (xs:=cutsL a b) (m:=foldM (leafB bot ws kind) (leavesL a b kl 0) bot)).2 x hx
 exact⟨Int.le_trans mx_ge.1 h,Int.le_trans mx_ge.2 h⟩
theorem UB_of(hk:0≤kerf){a b:Nat}(ha:1≤a)(hb:1≤b):UB bot kerf ws kl kind ((a:Int),(b:Int))=bot∨(∃x∈leavesL a b kl 0,x.2=kind∧UB bot kerf ws kl kind ((a:Int),(b:Int))=ws.getD kind 0)∨∃x∈cutsL a b,UB bot kerf ws kl kind ((a:Int),(b:Int))=UB bot kerf ws kl kind (oneB x a b)+V kerf ws kl (twoB kerf x a b)∨UB bot kerf ws kl kind ((a:Int),(b:Int))=V kerf ws kl (oneB x a b)+UB bot kerf ws kl kind (twoB kerf x a b):=by
 rw[UB_eq hk ha hb]
 rcases foldM_mem (f:=fun x=>mx (UB bot kerf ws kl kind (oneB x a b)+V kerf ws kl (twoB kerf x a b)) (V kerf ws kl (oneB x a b)+UB bot kerf ws kl kind (twoB kerf x a b))) (xs:=cutsL a b) (m:=foldM (leafB bot ws kind) (leavesL a b kl 0) bot)with h|⟨x,hx,h⟩
 ·rw[h]
  rcases foldM_mem (f:=leafB bot ws kind) (xs:=leavesL a b kl 0) (m:=bot)with h|⟨x,hx,h⟩
  ·exact .inl h
  ·rw[h]
   unfold leafB
   split
   ·rename_i he
    exact .inr (.inl ⟨x,hx,he,rfl⟩)
   ·exact .inl rfl
 ·refine .inr (.inr ⟨x,hx,?_⟩)
  rw[h]
  unfold mx
  split
  ·exact .inr rfl
  ·exact .inl rfl
theorem UB_low(hk:0≤kerf)(h0:∀x∈ws,0≤x)(p:Int×Int):0≤UB bot kerf ws kl kind p∨UB bot kerf ws kl kind p≤bot+V kerf ws kl p:=by
 refine board_ind hk (P:=fun p=>0≤UB bot kerf ws kl kind p∨UB bot kerf ws kl kind p≤bot+V kerf ws kl p) (fun p h=> ?_) (fun a b ha hb ih=> ?_) p
 ·right
  show UB bot kerf ws kl kind p≤bot+V kerf ws kl p
  rw[UB_out h,V_out h];omega
 ·show 0≤UB bot kerf ws kl kind _∨UB bot kerf ws kl kind _≤bot+V kerf ws kl _
  rcases UB_of hk (bot:=bot) (ws:=ws) (kl:=kl) (kind:=kind) ha hb with h|⟨x,hx,he,h⟩|⟨x,hx,h|h⟩
  ·have:=V_nonneg hk (ws:=ws) (kl:=kl) ((a:Int),(b:Int))
   right;omega
  ·left;rw[h];exact getD_nonneg h0 _
  ·have h1:=V_cut hk (ws:=ws) (kl:=kl) ha hb hx
   have h2:=(ih x hx).1
   have h3:=V_nonneg hk (ws:=ws) (kl:=kl) (twoB kerf x a b)
   try simp only at h2
   omega
  ·have h1:=V_cut hk (ws:=ws) (kl:=kl) ha hb hx
   have h2:=(ih x hx).2
   have h3:=V_nonneg hk (ws:=ws) (kl:=kl) (oneB x a b)
   try simp only at h2
   omega
theorem UB_same(hk:0≤kerf)(h0:∀x∈ws,0≤x){bot':Int}(p:Int×Int):V kerf ws kl p< -bot→0≤UB bot kerf ws kl kind p→UB bot kerf ws kl kind p≤UB bot' kerf ws kl kind p:=by
 refine board_ind hk (P:=fun p=>V kerf ws kl p< -bot→0≤UB bot kerf ws kl kind p→UB bot kerf ws kl kind p≤UB bot' kerf ws kl kind p) (fun p h hv hu=> ?_) (fun a b ha hb ih hv hu=> ?_) p
 ·rw[UB_out h]at hu;rw[V_out h]at hv;omega
 ·show UB bot kerf ws kl kind _≤UB bot' kerf ws kl kind _
  rcases UB_of hk (bot:=bot) (ws:=ws) (kl:=kl) (kind:=kind) ha hb with h|⟨x,hx,he,h⟩|⟨x,hx,h|h⟩
  ·have:=V_nonneg hk (ws:=ws) (kl:=kl) ((a:Int),(b:Int))
   rw[h]at hu;omega
  ·rw[h];exact UB_leaf hk ha hb hx he
  ·have h1:=V_cut hk (ws:=ws) (kl:=kl) ha hb hx
   have h2:=(ih x hx).1
   have h3:=V_nonneg hk (ws:=ws) (kl:=kl) (twoB kerf x a b)
   have h4:=(UB_cut hk (bot:=bot') (ws:=ws) (kl:=kl) (kind:=kind) ha hb hx).1
   have h6:=UB_low hk (bot:=bot) (kl:=kl) (kind:=kind) h0 (oneB x a b)
   try simp only at h2
   have h7:=h2 (by omega) (by omega)
   omega
  ·have h1:=V_cut hk (ws:=ws) (kl:=kl) ha hb hx
   have h2:=(ih x hx).2
   have h3:=V_nonneg hk (ws:=ws) (kl:=kl) (oneB x a b)
   have h4:=(UB_cut hk (bot:=bot') (ws:=ws) (kl:=kl) (kind:=kind) ha hb hx).2
   have h6:=UB_low hk (bot:=bot) (kl:=kl) (kind:=kind) h0 (twoB kerf x a b)
   try simp only at h2
   have h7:=h2 (by omega) (by omega)
   omega
theorem UB_ge(hk:0≤kerf)(h0:bot≤0)(p:Int×Int):bot≤UB bot kerf ws kl kind p:=by
 by_cases h:1≤p.1∧1≤p.2
 ·obtain⟨a,ha⟩:=Int.eq_ofNat_of_zero_le (show 0≤p.1 by omega)
  obtain⟨b,hb⟩:=Int.eq_ofNat_of_zero_le (show 0≤p.2 by omega)
  have e:p=((a:Int),(b:Int)):=Prod.ext ha hb
  rw[e,UB_eq hk (by omega) (by omega)]
  exact Int.le_trans foldM_ge.1 foldM_ge.1
 ·rw[UB_out h];omega
theorem UB_le_V(hk:0≤kerf)(h0:bot≤0)(p:Int×Int):UB bot kerf ws kl kind p≤V kerf ws kl p:=by
 refine board_ind hk (P:=fun p=>UB bot kerf ws kl kind p≤V kerf ws kl p) (fun p h=> ?_) (fun a b ha hb ih=> ?_) p
 ·show UB bot kerf ws kl kind p≤V kerf ws kl p
  rw[UB_out h,V_out h];exact h0
 ·show UB bot kerf ws kl kind _≤V kerf ws kl _
  rcases UB_of hk (bot:=bot) (ws:=ws) (kl:=kl) (kind:=kind) ha hb with h|⟨x,hx,he,h⟩|⟨x,hx,h|h⟩
  ·have:=V_nonneg hk (ws:=ws) (kl:=kl) ((a:Int),(b:Int))
   rw[h];omega
  ·rw[h,←he];exact V_leaf hk ha hb hx
  ·have h1:=V_cut hk (ws:=ws) (kl:=kl) ha hb hx
   have h2:=ih x hx
   try simp only at h2
   omega
  ·have h1:=V_cut hk (ws:=ws) (kl:=kl) ha hb hx
   have h2:=ih x hx
   try simp only at h2
   omega
end Go.A.Pk
end
section
set_option maxRecDepth 100000
namespace Go.A.Pk
variable {T:Nat→Option AFunc}
theorem mx_assoc(a b c:Int):mx (mx a b) c=mx a (mx b c):=by
 unfold mx
 by_cases h1:b>a<;>by_cases h2:c>b<;>by_cases h3:c>a<;>simp only[h1,h2,h3,if_true,if_false]<;>omega
theorem a_max3{base:Nat}{h:Heap}{e:Env}{x y z:Operand}{a b c:Int}(hx:ev h e x=some (.int .i64 a))(hy:ev h e y=some (.int .i64 b))(hz:ev h e z=some (.int .i64 c)):aop h base e (.minmax true [x,y,z])=some (.val (.int .i64 (mx (mx a b) c)) h):=by
 simp only[aop,evs,hx,hy,hz,mmA,if_true,bindV,mx];rfl
theorem lputs_all{Z X:List Value}(h:X.length=Z.length):lputs Z 0 X=X:=by
 rw[lputs_mid (by omega),List.take_zero,List.nil_append,Nat.zero_add,List.drop_of_length_le (by omega),List.append_nil]
theorem st_all{Z X:List Value}(hx:X.length=289)(hz:Z.length=289)(ho:ones X=true):(Nat.beq (llen (cellsOf (.agg X.toArray))) 289&&Nat.ble (0+289) (llen Z)&&ones (cellsOf (.agg X.toArray)))=true:=by
 simp[cellsOf,llen_eq,hx,hz,ho]
theorem rep_len:(lrep 289 (Value.int .i64 0)).length=289:=by rw[grid_zero,ints_len,grid_len]
def doneD(d g:Nat→Nat→Int)(a b x y:Nat):Int:=if x<a∨(x=a∧y<b)then g x y else d x y
theorem updD_left{d g:Nat→Nat→Int}{a b n:Nat}(z:Int)(hn:n<a):updF (doneD d g a b) a b z n b=g n b:=by
 unfold updF doneD;rw[if_neg (by omega),if_pos (by omega)]
theorem updD_up{d g:Nat→Nat→Int}{a b n:Nat}(z:Int)(hn:n<b):updF (doneD d g a b) a b z a n=g a n:=by
 unfold updF doneD;rw[if_neg (by omega),if_pos (by omega)]
theorem doneD_next{d g:Nat→Nat→Int}{a b:Nat}:updF (doneD d g a b) a b (g a b)=doneD d g a (b+1):=by
 funext x y
 unfold updF doneD
 by_cases h:x=a∧y=b
 ·rw[if_pos h,if_pos (by omega),h.1,h.2]
 ·rw[if_neg h]
  by_cases h2:x<a∨(x=a∧y<b)
  ·rw[if_pos h2,if_pos (by omega)]
  ·rw[if_neg h2,if_neg (by omega)]
def Hf(bot kerf:Int)(ws:List Int)(kl:List Kd)(kind:Nat)(x y:Nat):Int:=UB bot kerf ws kl kind ((x:Int),(y:Int))
theorem cutU_left{bot kerf:Int}{ws:List Int}{kl:List Kd}{kind a b n r:Nat}(hn:n≤a)(hr:mx 0 ((a:Int)-n-kerf)=r):
 UB bot kerf ws kl kind (oneB (3,n) a b)+V kerf ws kl (twoB kerf (3,n) a b)=Hf bot kerf ws kl kind n b+Vf kerf ws kl r b∧V kerf ws kl (oneB (3,n) a b)+UB bot kerf ws kl kind (twoB kerf (3,n) a b)=Vf kerf ws kl n b+Hf bot kerf ws kl kind r b:=by
 unfold oneB twoB Vf Hf
 simp only[if_true]
 unfold mx at hr
 split at hr
 ·rw[hr];exact⟨rfl,rfl⟩
 ·rw[V_out (p:=((a:Int)-n-kerf,(b:Int))) (by simp;omega),V_out (p:=((r:Int),(b:Int))) (by simp;omega),UB_out (p:=((a:Int)-n-kerf,(b:Int))) (by simp;omega),UB_out (p:=((r:Int),(b:Int))) (by simp;omega)]
  exact⟨rfl,rfl⟩
theorem cutU_up{bot kerf:Int}{ws:List Int}{kl:List Kd}{kind a b n r:Nat}(hn:n≤b)(hr:mx 0 ((b:Int)-n-kerf)=r):
 UB bot kerf ws kl kind (oneB (4,n) a b)+V kerf ws kl (twoB kerf (4,n) a b)=Hf bot kerf ws kl kind a n+Vf kerf ws kl a r∧V kerf ws kl (oneB (4,n) a b)+UB bot kerf ws kl kind (twoB kerf (4,n) a b)=Vf kerf ws kl a n+Hf bot kerf ws kl kind a r:=by
 unfold oneB twoB Vf Hf
 simp only[show¬ (4:Nat)=3 by omega,if_false]
 unfold mx at hr
 split at hr
 ·rw[hr];exact⟨rfl,rfl⟩
 ·rw[V_out (p:=((a:Int),(b:Int)-n-kerf)) (by simp;omega),V_out (p:=((a:Int),(r:Int))) (by simp;omega),UB_out (p:=((a:Int),(b:Int)-n-kerf)) (by simp;omega),UB_out (p:=((a:Int),(r:Int))) (by simp;omega)]
  exact⟨rfl,rfl⟩
theorem leafB_kind{bot:Int}{ws:List Int}{l:List Kd}{kind a b:Nat}{k:Kd}(hk:l[kind]? =some k)(h0:bot≤ws.getD kind 0):foldM (leafB bot ws kind) (leavesL a b l 0) bot=if plankB k a b=true then ws.getD kind 0 else bot:=by
 by_cases hp:plankB k a b=true
 ·rw[if_pos hp]
  apply Int.le_antisymm
  ·refine foldM_le h0 fun x _=> ?_
   unfold leafB;split<;>omega
  ·have hx:∃x∈leafAt k kind a b,x.2=kind:=by
    unfold plankB at hp
    simp only[decide_eq_true_eq]at hp
    unfold leafAt
    rcases hp with q|q
    ·exact⟨(1,kind),by rw[if_pos ⟨q.1.symm,q.2.symm⟩];simp,rfl⟩
    ·exact⟨(2,kind),by rw[if_pos (c:=k.turn=true∧(a:Int)=k.h∧(b:Int)=k.w) ⟨q.1,q.2.1.symm,q.2.2.symm⟩];simp,rfl⟩
   obtain⟨x,hx,he⟩:=hx
   have:=(foldM_ge (f:=leafB bot ws kind) (xs:=leavesL a b l 0) (m:=bot)).2 x (leaves_mem hk x hx)
   rw[leafB,if_pos he]at this
   exact this
 ·rw[if_neg hp]
  rcases foldM_mem (f:=leafB bot ws kind) (xs:=leavesL a b l 0) (m:=bot)with h|⟨x,hx,h⟩
  ·exact h
  ·rw[h]
   unfold leafB
   by_cases he:x.2=kind
   ·exfalso
    obtain⟨_,k',h1,h2⟩:=leaves_at hx
    rw[Nat.sub_zero,he,hk]at h1
    cases h1
    apply hp
    unfold plankB
    simp only[decide_eq_true_eq]
    unfold leafAt at h2
    simp only[List.mem_append]at h2
    rcases h2 with q|q
    ·split at q
     ·rename_i c;exact .inl ⟨c.1.symm,c.2.symm⟩
     ·cases q
    ·split at q
     ·rename_i c;exact .inr ⟨c.1,c.2.1.symm,c.2.2.symm⟩
     ·cases q
   ·rw[if_neg he]
theorem wE_cut{base:Nat}{rnd:Option Nat}{Q:XQ}{e:Env}{E0:Env→Env}{ds:Dfs}{h:Heap}{a b:ACode}{P:Heap→Prop}(H1:WE T base rnd a (fun x e' ds' h'=>x= .normal∧(∃r,e'=E0 r)∧ds'=[]∧P h') e ds h)(H2:∀r h',P h'→WE T base rnd b Q (E0 r) [] h'):WE T base rnd (.seq a b) Q e ds h:=by
 refine wE_seq (H1.mono ?_)
 rintro x e' ds' h' ⟨rfl,⟨r,rfl⟩,rfl,hp⟩
 exact kS_n (H2 r h' hp)
structure FnsRW (T:Nat→Option AFunc):Prop extends FnsRB T where
 f100:T 100=some f100
set_option maxHeartbeats 32000000 in
theorem rwith100(F:FnsRW T){h:Heap}(hr:Rdy h){a0:Option Addr}{n c kind:Nat}{l:List Kd}{kerf W:Int}(hs:SliceOf h 5 (.slice a0 n c) n (kcs l))(hn:n<1000)(hkind:kind<n)(hk:0≤kerf∧kerf≤100)(hW:0≤W∧W≤1000000000)(hws:∀x∈wsOf l,0≤x∧x≤W):
 Pu T 100 [.agg #[.slice a0 n c, .int .i64 kerf], .int .i64 kind] h (.agg (ints (grid (Hf (-1000000000000) kerf (wsOf l) l kind))).toArray):=by
 refine .of F.p F.f100 hr (scalL_ints _) ?_
 obtain rfl:n=l.length:=by have:=hs.len;rw[kcs_length]at this;omega
 have hx0:=(Ext.refl h).push (.cells [.slice a0 l.length c, .int .i64 kerf] true 1)
 have hx1:=hx0.push (.cells (lrep 289 (.int .i64 0)) true 1)
 have hVb:∀x y:Nat,x≤16→y≤16→0≤Vf kerf (wsOf l) l x y∧Vf kerf (wsOf l) l x y≤256000000000:=fun x y hx hy=>by
  have h1:=V_bd (kl:=l) hk.1 hW.1 hws x y
  have h2:=area_mono (W:=W) (a:=x) (b:=y) (c:=16) (d:=16) hW.1 (by omega) (by omega) (by omega) (by omega)
  unfold Vf
  refine⟨h1.1,?_⟩
  omega
 have hHb:∀x y:Nat,x≤16→y≤16→(-1000000000000)≤Hf (-1000000000000) kerf (wsOf l) l kind x y∧Hf (-1000000000000) kerf (wsOf l) l kind x y≤256000000000:=fun x y hx hy=>by
  have h1:=hVb x y hx hy
  have h2:=UB_le_V hk.1 (bot:= -1000000000000) (ws:=wsOf l) (kl:=l) (kind:=kind) (by omega) ((x:Int),(y:Int))
  have h3:=UB_ge hk.1 (bot:= -1000000000000) (ws:=wsOf l) (kl:=l) (kind:=kind) (by omega) ((x:Int),(y:Int))
  unfold Hf
  unfold Vf at h1
  exact⟨h3,by omega⟩
 have C1:=rbest93 F.toFnsRB (.of (hx1.wf hr.wf)) ((hs.ext hx1).log []) hn hk hW hws
 generalize hG:Vf kerf (wsOf l) l=G at*
 generalize hH:Hf (-1000000000000) kerf (wsOf l) l kind=H at*
 refine y4 ?_;refine yB ?_;refine wO_val a_new ?_;refine y3 ?_;refine y4 ?_
 refine yN ?_
 refine yC ?_
 refine FW.pu C1 ?_
 have hl:(ints (grid G)).length=289:=by rw[ints_len,grid_len]
 have eC:ones (ints (grid G))=true:=ones_ints _
 generalize hX:ints (grid G)=XS at hl eC⊢
 refine wO_val a_new ?_
 refine wO_val (a_store (ws:=XS) (by exact rfl) (by exact rfl) (by(simp(disch:=first|omega|(simp only[z1,z2];omega)|(simp only[z1,z2];done)|fail)only[z8,z4,z5,z9,z7,z1,z2, *];exact rfl)) (st_all hl rep_len eC) (lputs_all (by show XS.length=_;rw[hl,rep_len]))) ?_
 refine y3 ?_;refine y4 ?_;refine wO_val a_new ?_;refine y3 ?_;refine wE_seq ?_;refine y4 ?_
 refine yM ?_;refine y3 ?_;refine wE_block ?_
 refine WE.gen ?_
 intro hA hAe
 have A1:hA.get h.next=some (.cells [.slice a0 l.length c, .int .i64 kerf] true 1):=by rw[hAe];(simp(disch:=first|omega|(simp only[z1,z2];omega))only[z3,z4,z5,z6,z7,z1,z2, *];exact rfl)
 have A2:hA.get (h.next+1)=some (.cells (ints (grid fun _ _=>0)) true 1):=by rw[hAe,←grid_zero];(simp(disch:=first|omega|(simp only[z1,z2];omega)|(simp only[z1,z2];done)|fail)only[z8,z4,z5,z9,z7,z1,z2, *];done)
 have A3:hA.get (h.next+2)=some (.cells (ints (grid G)) true 1):=by rw[hAe,hX];(simp(disch:=first|omega|(simp only[z1,z2];omega)|(simp only[z1,z2];done)|fail)only[z8,z4,z5,z9,z7,z1,z2, *];done)
 have A4:hA.get (h.next+3)=some (.cells (ints (grid fun _ _=>0)) true 1):=by rw[hAe,←grid_zero];(simp(disch:=first|omega|(simp only[z1,z2];omega)|(simp only[z1,z2];done)|fail)only[z8,z4,z5,z9,z7,z1,z2, *];done)
 have A0:∀z,z<h.next→hA.get z=h.get z:=fun z hz=>by rw[hAe];simp(disch:=first|omega|(simp only[z1,z2];omega))only[z5,z4]
 have A5:hA.next=h.next+4:=by rw[hAe];rfl
 have A6:hA.log=[]:=by rw[hAe];simp(disch:=first|omega|(simp only[z1,z2];omega))only[Heap.log_wr_new,Heap.log_push];exact hr.log
 have A7:WF hA:=by rw[hAe];exact(((((hr.wf.push _).push _).push _).as (AS.wr _ _ _ _)).push _)
 clear hAe hX C1
 refine wE_loop (fun m e ds h'=>∃a:Nat,a≤17∧m=17-a∧e=[(1, .int .i64 kind),(2, .pointer (some ⟨h.next,0,none⟩)),(4, .pointer (some ⟨h.next+1,0,none⟩)),(5, .pointer (some ⟨h.next+2,0,none⟩)),(6, .pointer (some ⟨h.next+3,0,none⟩)),(7, .int .i64 a)]∧ds=[]∧Vt (h.next+3) hA h' (doneD (fun _ _=>0) (fun _ _=>(-1000000000000)) a 0))
  ⟨0,by omega,rfl,rfl,rfl,⟨fun _ _=>rfl,by rw[A4];refine congrArg (fun q=>some (AObj.cells (ints q) true 1)) (grid_congr fun x y hx hy=> ?_);unfold doneD;rw[if_neg (by omega)],A6,A7,by omega⟩⟩ ?_
 rintro m e ds h1 ⟨a,ha2,rfl,rfl,rfl,w1⟩
 by_cases hlt1:a<17
 ·refine wE_seq ?_;refine y4 ?_;refine yM ?_;refine yt ?_;refine y3 ?_;refine yY ?_;refine wE_skip ?_;refine kS_n ?_
  refine wE_seq ?_;refine wE_block ?_;refine y4 ?_;refine yM ?_;refine y3 ?_;refine wE_block ?_
  refine wE_loop (fun m e ds h'=>∃b:Nat,b≤17∧m=17-b∧e=[(1, .int .i64 kind),(2, .pointer (some ⟨h.next,0,none⟩)),(4, .pointer (some ⟨h.next+1,0,none⟩)),(5, .pointer (some ⟨h.next+2,0,none⟩)),(6, .pointer (some ⟨h.next+3,0,none⟩)),(7, .int .i64 a),(8, .int .i64 b)]∧ds=[]∧Vt (h.next+3) hA h' (doneD (fun _ _=>0) (fun _ _=>(-1000000000000)) a b))
   ⟨0,by omega,rfl,rfl,rfl,w1⟩ ?_
  rintro m e ds h2 ⟨b,hb2,rfl,rfl,rfl,w2⟩
  by_cases hlt2:b<17
  ·have g6:=w2.obj
   refine wE_seq ?_;refine y4 ?_;refine yM ?_;refine yt ?_;refine y3 ?_;refine yY ?_;refine wE_skip ?_;refine kS_n ?_
   refine wE_seq ?_;refine wE_block ?_;refine wE_region ?_;refine yM ?_;refine yM ?_;refine wO_val (a_iaddrA (by exact rfl) (by exact rfl) (by omega)) ?_;refine wO_val (a_iaddrA (by exact rfl) (by exact rfl) (by omega)) ?_
   refine wO_val (a_store (ws:=ints (grid (updF (doneD (fun _ _=>0) (fun _ _=>(-1000000000000)) a b) a b (-1000000000000)))) (by exact rfl) (by exact rfl) g6 (grid_st (by omega) (by omega)) (grid_put (by omega) _)) ?_
   refine wO_nil ?_;refine y1 ?_;refine kB_n ?_;refine kS_n ?_;refine wE_region ?_;refine yM ?_;refine yinc ?_;refine yM ?_;refine y3 ?_
   refine⟨17-(b+1),by omega,b+1,by omega,rfl,rfl,rfl,?_⟩
   have:=w2.wr (base:=h.next) (a:=a) (b:=b) (-1000000000000) (by omega)
   rw[doneD_next (g:=fun _ _=>(-1000000000000))]at this
   rw[doneD_next (g:=fun _ _=>(-1000000000000))]
   exact this
  ·obtain rfl:b=17:=by omega
   refine wE_seq ?_;refine y4 ?_;refine yM ?_;refine yf ?_;refine y3 ?_;refine yX ?_;refine wE_exit ?_;refine kS_e ?_
   refine kS_e ?_;refine kB_e ?_;refine kB_n ?_;refine kS_n ?_;refine wE_region ?_;refine yM ?_;refine yinc ?_;refine yM ?_;refine y3 ?_
   refine⟨17-(a+1),by omega,a+1,by omega,rfl,rfl,rfl,w2.congr fun x y hx hy=> ?_⟩
   unfold doneD
   by_cases hq:x<a∨(x=a∧y<17)
   ·rw[if_pos hq,if_pos (by omega)]
   ·rw[if_neg hq,if_neg (by omega)]
 obtain rfl:a=17:=by omega
 have hHo:∀x y:Nat,¬ (1≤x∧1≤y)→H x y=(-1000000000000):=fun x y hq=>by
  rw[←hH];unfold Hf;rw[UB_out (by simp;omega)]
 have v2:Vt (h.next+3) hA h1 (doneD (fun _ _=>(-1000000000000)) H 1 1):=w1.congr fun x y hx hy=>by
  unfold doneD
  rw[if_pos (by omega)]
  split
  ·rw[hHo x y (by omega)]
  ·rfl
 refine wE_seq ?_;refine y4 ?_;refine yM ?_;refine yf ?_;refine y3 ?_;refine yX ?_;refine wE_exit ?_;refine kS_e ?_
 refine kS_e ?_;refine kB_e ?_;refine kS_n ?_;refine wE_seq ?_;refine y4 ?_;refine yM ?_;refine y3 ?_;refine wE_block ?_
 refine wE_loop (fun m e ds h'=>∃a:Nat,1≤a∧a≤17∧m=17-a∧e=[(1, .int .i64 kind),(2, .pointer (some ⟨h.next,0,none⟩)),(4, .pointer (some ⟨h.next+1,0,none⟩)),(5, .pointer (some ⟨h.next+2,0,none⟩)),(6, .pointer (some ⟨h.next+3,0,none⟩)),(9, .int .i64 a)]∧ds=[]∧Vt (h.next+3) hA h' (doneD (fun _ _=>(-1000000000000)) H a 1))
  ⟨1,by omega,by omega,rfl,rfl,rfl,v2⟩ ?_
 rintro m e ds h4 ⟨a,ha1,ha2,rfl,rfl,rfl,w4⟩
 by_cases hlt4:a<17
 ·refine wE_seq ?_;refine y4 ?_;refine yM ?_;refine yt ?_;refine y3 ?_;refine yY ?_;refine wE_skip ?_;refine kS_n ?_
  refine wE_seq ?_;refine wE_block ?_;refine y4 ?_;refine yM ?_;refine y3 ?_;refine wE_block ?_
  refine wE_loop (fun m e ds h'=>∃b:Nat,1≤b∧b≤17∧m=17-b∧e=[(1, .int .i64 kind),(2, .pointer (some ⟨h.next,0,none⟩)),(4, .pointer (some ⟨h.next+1,0,none⟩)),(5, .pointer (some ⟨h.next+2,0,none⟩)),(6, .pointer (some ⟨h.next+3,0,none⟩)),(9, .int .i64 a),(10, .int .i64 b)]∧ds=[]∧Vt (h.next+3) hA h' (doneD (fun _ _=>(-1000000000000)) H a b))
   ⟨1,by omega,by omega,rfl,rfl,rfl,w4⟩ ?_
  rintro m e ds h5 ⟨b,hb1,hb2,rfl,rfl,rfl,w5⟩
  by_cases hlt5:b<17
  ·obtain⟨x,hxl⟩:∃x,l[kind]? =some x:=⟨l[kind],List.getElem?_eq_getElem hkind⟩
   have hw0:=hws x.worth (List.mem_map.2 ⟨x,List.mem_of_getElem? hxl,rfl⟩)
   have hleaf:=leafB_kind (bot:=(-1000000000000)) (ws:=wsOf l) (a:=a) (b:=b) hxl (by rw[ws_at hxl];omega)
   rw[ws_at hxl]at hleaf
   generalize hM0:foldM (leafB (-1000000000000) (wsOf l) kind) (leavesL a b l 0) (-1000000000000)=M0 at*
   rcases hs.inv with⟨_,_,h0,_⟩|⟨b0,o0,cap,hv,sl,hcap⟩
   ·omega
   cases hv
   obtain⟨vs,own,t0,g7,g8⟩:=slice_elem sl hxl
   have kb0:=WF.get_lt hr.wf g7
   have gs:=(w5.old b0 (by omega)).trans ((A0 b0 kb0).trans g7)
   have e3:lget vs (o0+kind*5+3)=some (.int .i64 x.worth):=elem_get g8 3 (by omega)
   have g6:=w5.obj
   have g2:=(w5.old h.next (by omega)).trans A1
   have k3:=w5.nx
   refine wE_seq ?_
   refine y4 ?_
   refine yM ?_
   refine wO_val (a_num (by exact rfl) (by exact rfl) (m_leqT (by omega))) ?_
   refine y3 ?_
   refine yY ?_
   refine wE_skip ?_
   refine kS_n ?_
   refine wE_seq ?_
   refine wE_block ?_
   refine wE_cut (E0:=fun r=>(1, .int .i64 kind)::(2, .pointer (some ⟨h.next,0,none⟩))::(4, .pointer (some ⟨h.next+1,0,none⟩))::(5, .pointer (some ⟨h.next+2,0,none⟩))::(6, .pointer (some ⟨h.next+3,0,none⟩))::(9, .int .i64 a)::(10, .int .i64 b)::r) (P:=fun h'=>Vt (h.next+3) hA h' (updF (doneD (fun _ _=> -1000000000000) H a b) a b M0)) ?_ ?_
   ·refine y4 ?_;refine yF ?_;refine yL ?_;refine yM ?_;refine wO_val (a_iaddrS (by exact rfl) (by exact rfl) (by omega)) ?_
    refine wO_val (a_loadN (by exact rfl) gs g8 (by exact rfl)) ?_
    refine yM ?_;refine yM ?_
    refine yC ?_
    refine FW.pu (plank112 F.p F.f112 (.of w5.wf) x a b) ?_
    cases hpl:plankB x a b with
    |true=>
     rw[hpl,if_pos rfl]at hleaf
     refine y3 ?_;refine yY ?_;refine wE_draw ?_;refine qM ?_;refine qM ?_
     refine qF ?_;refine qL ?_;refine qM ?_
     refine wD_quiet rfl rfl rfl (by exact rfl) (by exact rfl) (by exact rfl) (a_iaddrS (by exact rfl) (by exact rfl) (by omega)) ?_;refine qF ?_;refine wD_quiet rfl rfl rfl (by exact rfl) (by exact rfl) (by exact rfl) (a_load (by exact rfl) (by assumption) (by assumption)) ?_
     refine wD_quiet rfl rfl rfl (by exact rfl) (by exact rfl) (by exact rfl) (a_iaddrA (by exact rfl) (by exact rfl) (by omega)) ?_;refine wD_quiet rfl rfl rfl (by exact rfl) (by exact rfl) (by exact rfl) (a_iaddrA (by exact rfl) (by exact rfl) (by omega)) ?_
     refine wD_store (ws:=ints (grid (updF (doneD (fun _ _=> -1000000000000) H a b) a b x.worth))) rfl rfl rfl (by exact rfl) (by exact rfl) (by exact rfl) (by assumption) (grid_st (by omega) (by omega)) (grid_put (by omega) _) (by omega) (by omega) (by apply ra_dropC rfl;apply ra_dropC rfl;apply ra_dropC rfl;apply ra_dropC rfl;apply ra_dropC rfl;apply ra_dropC rfl;apply ra_dropC rfl;apply ra_dropC rfl;apply ra_dropC rfl;apply ra_dropC rfl;exact ra_nil) ?_
     refine wD_nil ?_;refine y1 ?_
     refine⟨rfl,⟨_,rfl⟩,rfl,?_⟩
     rw[hleaf]
     exact w5.wr x.worth (by omega)
    |false=>
     rw[hpl,if_neg Bool.false_ne_true]at hleaf
     refine y3 ?_;refine yX ?_;refine wE_skip ?_
     refine⟨rfl,⟨_,rfl⟩,rfl,w5.congr fun x y _ _=> ?_⟩
     rw[hleaf]
     unfold updF doneD
     by_cases q:x=a∧y=b
     ·rw[if_pos q,if_neg (by omega)]
     ·rw[if_neg q]
   clear w5 g6 g2 k3 gs
   intro rest h6 v11
   refine wE_seq ?_;refine y4 ?_;refine yM ?_;refine y3 ?_;refine wE_block ?_
   refine wE_loop (fun m e ds h'=>∃n:Nat,n+1≤a∧m=a-n∧e=[(1, .int .i64 kind),(2, .pointer (some ⟨h.next,0,none⟩)),(4, .pointer (some ⟨h.next+1,0,none⟩)),(5, .pointer (some ⟨h.next+2,0,none⟩)),(6, .pointer (some ⟨h.next+3,0,none⟩)),(9, .int .i64 a),(10, .int .i64 b),(11, .int .i64 (n+1:Nat))]∧ds=[]∧Vt (h.next+3) hA h' (updF (doneD (fun _ _=> -1000000000000) H a b) a b (foldM (fun x=>mx (UB (-1000000000000) kerf (wsOf l) l kind (oneB x a b)+V kerf (wsOf l) l (twoB kerf x a b)) (V kerf (wsOf l) l (oneB x a b)+UB (-1000000000000) kerf (wsOf l) l kind (twoB kerf x a b))) (row 3 n) M0)))
    ⟨0,by omega,rfl,rfl,rfl,by simpa[row,foldM]using v11⟩ ?_
   rintro m e ds h11 ⟨n,hn2,rfl,rfl,rfl,w11⟩
   have g6:=w11.obj
   have g2:=(w11.old h.next (by omega)).trans A1
   have g5:=(w11.old (h.next+2) (by omega)).trans A3
   have k3:=w11.nx
   by_cases hlt11:n+1<a
   ·obtain⟨r,hr1⟩:∃r:Nat,mx 0 ((a:Int)-(n+1:Nat)-kerf)=r:=by
     have:0≤mx 0 ((a:Int)-(n+1:Nat)-kerf):=mx_ge.1
     exact⟨_,(Int.toNat_of_nonneg this).symm⟩
    have hrl:r<a:=by unfold mx at hr1;split at hr1<;>omega
    have c1:=grid_get (f:=updF (doneD (fun _ _=> -1000000000000) H a b) a b (foldM (fun x=>mx (UB (-1000000000000) kerf (wsOf l) l kind (oneB x a b)+V kerf (wsOf l) l (twoB kerf x a b)) (V kerf (wsOf l) l (oneB x a b)+UB (-1000000000000) kerf (wsOf l) l kind (twoB kerf x a b))) (row 3 n) M0)) (a:=a) (b:=b) (by omega) (by omega)
    have c2:=grid_get (f:=updF (doneD (fun _ _=> -1000000000000) H a b) a b (foldM (fun x=>mx (UB (-1000000000000) kerf (wsOf l) l kind (oneB x a b)+V kerf (wsOf l) l (twoB kerf x a b)) (V kerf (wsOf l) l (oneB x a b)+UB (-1000000000000) kerf (wsOf l) l kind (twoB kerf x a b))) (row 3 n) M0)) (a:=n+1) (b:=b) (by omega) (by omega)
    have c3:=grid_get (f:=updF (doneD (fun _ _=> -1000000000000) H a b) a b (foldM (fun x=>mx (UB (-1000000000000) kerf (wsOf l) l kind (oneB x a b)+V kerf (wsOf l) l (twoB kerf x a b)) (V kerf (wsOf l) l (oneB x a b)+UB (-1000000000000) kerf (wsOf l) l kind (twoB kerf x a b))) (row 3 n) M0)) (a:=r) (b:=b) (by omega) (by omega)
    have d2:=grid_get (f:=G) (a:=n+1) (b:=b) (by omega) (by omega)
    have d3:=grid_get (f:=G) (a:=r) (b:=b) (by omega) (by omega)
    rw[updF_self]at c1
    rw[updD_left _ (by omega)]at c2 c3
    have hcut:=cutU_left (bot:= -1000000000000) (ws:=wsOf l) (kl:=l) (kind:=kind) (a:=a) (b:=b) (n:=n+1) (r:=r) (kerf:=kerf) (by omega) hr1
    rw[hG,hH]at hcut
    have hb2:=hVb (n+1) b (by omega) (by omega)
    have hb3:=hVb r b (by omega) (by omega)
    have hb4:=hHb (n+1) b (by omega) (by omega)
    have hb5:=hHb r b (by omega) (by omega)
    have hnext:mx (mx (foldM (fun x=>mx (UB (-1000000000000) kerf (wsOf l) l kind (oneB x a b)+V kerf (wsOf l) l (twoB kerf x a b)) (V kerf (wsOf l) l (oneB x a b)+UB (-1000000000000) kerf (wsOf l) l kind (twoB kerf x a b))) (row 3 n) M0) (H (n+1) b+G r b)) (G (n+1) b+H r b)=(foldM (fun x=>mx (UB (-1000000000000) kerf (wsOf l) l kind (oneB x a b)+V kerf (wsOf l) l (twoB kerf x a b)) (V kerf (wsOf l) l (oneB x a b)+UB (-1000000000000) kerf (wsOf l) l kind (twoB kerf x a b))) (row 3 (n+1)) M0):=by rw[foldM_row,mx_assoc,←hcut.1,←hcut.2]
    generalize hP:(foldM (fun x=>mx (UB (-1000000000000) kerf (wsOf l) l kind (oneB x a b)+V kerf (wsOf l) l (twoB kerf x a b)) (V kerf (wsOf l) l (oneB x a b)+UB (-1000000000000) kerf (wsOf l) l kind (twoB kerf x a b))) (row 3 n) M0)=P at*
    clear hcut
    refine wE_seq ?_;refine y4 ?_;refine yM ?_;refine yM ?_;refine yt ?_;refine y3 ?_;refine yY ?_
    refine wE_skip ?_;refine kS_n ?_;refine wE_seq ?_;refine wE_block ?_;refine y4 ?_;refine yM ?_;refine yM ?_;refine ysub ?_;refine yF ?_
    refine yL ?_;refine ysub ?_
    refine wO_val (a_max0 (by exact rfl) (by exact rfl) hr1) ?_
    refine yM ?_;refine y3 ?_;refine wE_draw ?_;refine qM ?_;refine qM ?_
    refine qM ?_;refine qM ?_;refine wD_quiet rfl rfl rfl (by exact rfl) (by exact rfl) (by exact rfl) (a_iaddrA (by exact rfl) (by exact rfl) (by omega)) ?_
    refine wD_quiet rfl rfl rfl (by exact rfl) (by exact rfl) (by exact rfl) (a_iaddrA (by exact rfl) (by exact rfl) (by omega)) ?_;refine wD_quiet rfl rfl rfl (by exact rfl) (by exact rfl) (by exact rfl) (a_load (by exact rfl) (by assumption) (by assumption)) ?_;refine qM ?_
    refine qM ?_;refine wD_quiet rfl rfl rfl (by exact rfl) (by exact rfl) (by exact rfl) (a_iaddrA (by exact rfl) (by exact rfl) (by omega)) ?_;refine wD_quiet rfl rfl rfl (by exact rfl) (by exact rfl) (by exact rfl) (a_iaddrA (by exact rfl) (by exact rfl) (by omega)) ?_
    refine wD_quiet rfl rfl rfl (by exact rfl) (by exact rfl) (by exact rfl) (a_load (by exact rfl) (by assumption) (by assumption)) ?_;refine qM ?_;refine qM ?_
    refine wD_quiet rfl rfl rfl (by exact rfl) (by exact rfl) (by exact rfl) (a_iaddrA (by exact rfl) (by exact rfl) (by omega)) ?_;refine wD_quiet rfl rfl rfl (by exact rfl) (by exact rfl) (by exact rfl) (a_iaddrA (by exact rfl) (by exact rfl) (by omega)) ?_;refine wD_quiet rfl rfl rfl (by exact rfl) (by exact rfl) (by exact rfl) (a_load (by exact rfl) (by assumption) (by assumption)) ?_
    refine wD_quiet rfl rfl rfl (by exact rfl) (by exact rfl) (by exact rfl) (a_num (by exact rfl) (by exact rfl) (by exact m_add (wrapA_i64 (by omega) (by omega)))) ?_;refine qM ?_;refine qM ?_
    refine wD_quiet rfl rfl rfl (by exact rfl) (by exact rfl) (by exact rfl) (a_iaddrA (by exact rfl) (by exact rfl) (by omega)) ?_;refine wD_quiet rfl rfl rfl (by exact rfl) (by exact rfl) (by exact rfl) (a_iaddrA (by exact rfl) (by exact rfl) (by omega)) ?_;refine wD_quiet rfl rfl rfl (by exact rfl) (by exact rfl) (by exact rfl) (a_load (by exact rfl) (by assumption) (by assumption)) ?_
    refine qM ?_;refine qM ?_;refine wD_quiet rfl rfl rfl (by exact rfl) (by exact rfl) (by exact rfl) (a_iaddrA (by exact rfl) (by exact rfl) (by omega)) ?_
    refine wD_quiet rfl rfl rfl (by exact rfl) (by exact rfl) (by exact rfl) (a_iaddrA (by exact rfl) (by exact rfl) (by omega)) ?_;refine wD_quiet rfl rfl rfl (by exact rfl) (by exact rfl) (by exact rfl) (a_load (by exact rfl) (by assumption) (by assumption)) ?_
    refine wD_quiet rfl rfl rfl (by exact rfl) (by exact rfl) (by exact rfl) (a_num (by exact rfl) (by exact rfl) (by exact m_add (wrapA_i64 (by omega) (by omega)))) ?_
    refine wD_quiet rfl rfl rfl (by exact rfl) (by exact rfl) (by exact rfl) (a_max3 (by exact rfl) (by exact rfl) (by exact rfl)) ?_
    refine wD_quiet rfl rfl rfl (by exact rfl) (by exact rfl) (by exact rfl) (a_iaddrA (by exact rfl) (by exact rfl) (by omega)) ?_;refine wD_quiet rfl rfl rfl (by exact rfl) (by exact rfl) (by exact rfl) (a_iaddrA (by exact rfl) (by exact rfl) (by omega)) ?_
    refine wD_store (ws:=ints (grid (updF (updF (doneD (fun _ _=> -1000000000000) H a b) a b P) a b (mx (mx P (H (n+1) b+G r b)) (G (n+1) b+H r b))))) rfl rfl rfl (by exact rfl) (by exact rfl) (by exact rfl) (by assumption) (grid_st (by omega) (by omega)) (grid_put (by omega) _) (by omega) (by omega) (by apply ra_dropC rfl;apply ra_dropC rfl;apply ra_dropC rfl;apply ra_dropC rfl;apply ra_dropC rfl;apply ra_dropC rfl;apply ra_dropC rfl;apply ra_dropC rfl;apply ra_dropC rfl;apply ra_dropC rfl;apply ra_dropC rfl;apply ra_dropC rfl;apply ra_dropC rfl;apply ra_dropC rfl;apply ra_dropC rfl;apply ra_dropC rfl;apply ra_dropC rfl;apply ra_dropC rfl;apply ra_dropC rfl;apply ra_dropC rfl;apply ra_dropC rfl;apply ra_dropC rfl;apply ra_dropC rfl;apply ra_dropC rfl;apply ra_dropC rfl;apply ra_dropC rfl;apply ra_dropC rfl;apply ra_dropC rfl;apply ra_dropC rfl;apply ra_dropC rfl;apply ra_dropC rfl;apply ra_dropC rfl;exact ra_nil) ?_
    refine wD_nil ?_;refine y1 ?_;refine kB_n ?_;refine kS_n ?_;refine wE_region ?_;refine yM ?_;refine yinc ?_;refine yM ?_;refine y3 ?_
    refine⟨a-(n+1),by omega,n+1,by omega,rfl,rfl,rfl,?_⟩
    have:=w11.wr (base:=h.next) (a:=a) (b:=b) (mx (mx P (H (n+1) b+G r b)) (G (n+1) b+H r b)) (by omega)
    rw[←hnext]
    rw[updF_upd]at this⊢
    exact this
   ·obtain rfl:n=a-1:=by omega
    generalize hM1:foldM (fun x=>mx (UB (-1000000000000) kerf (wsOf l) l kind (oneB x a b)+V kerf (wsOf l) l (twoB kerf x a b)) (V kerf (wsOf l) l (oneB x a b)+UB (-1000000000000) kerf (wsOf l) l kind (twoB kerf x a b))) (row 3 (a-1)) M0=M1 at*
    have v13:=w11
    refine wE_seq ?_;refine y4 ?_;refine yM ?_;refine yM ?_;refine yf ?_;refine y3 ?_;refine yX ?_
    refine wE_exit ?_;refine kS_e ?_;refine kS_e ?_;refine kB_e ?_;refine kS_n ?_;refine y4 ?_;refine yM ?_;refine y3 ?_;refine wE_block ?_
    refine wE_loop (fun m e ds h'=>∃n:Nat,n+1≤b∧m=b-n∧e=[(1, .int .i64 kind),(2, .pointer (some ⟨h.next,0,none⟩)),(4, .pointer (some ⟨h.next+1,0,none⟩)),(5, .pointer (some ⟨h.next+2,0,none⟩)),(6, .pointer (some ⟨h.next+3,0,none⟩)),(9, .int .i64 a),(10, .int .i64 b),(13, .int .i64 (n+1:Nat))]∧ds=[]∧Vt (h.next+3) hA h' (updF (doneD (fun _ _=> -1000000000000) H a b) a b (foldM (fun x=>mx (UB (-1000000000000) kerf (wsOf l) l kind (oneB x a b)+V kerf (wsOf l) l (twoB kerf x a b)) (V kerf (wsOf l) l (oneB x a b)+UB (-1000000000000) kerf (wsOf l) l kind (twoB kerf x a b))) (row 4 n) M1)))
     ⟨0,by omega,rfl,rfl,rfl,by simpa[row,foldM]using v13⟩ ?_
    rintro m e ds h13 ⟨n,hn2,rfl,rfl,rfl,w13⟩
    have g6:=w13.obj
    have g2:=(w13.old h.next (by omega)).trans A1
    have g5:=(w13.old (h.next+2) (by omega)).trans A3
    have k3:=w13.nx
    by_cases hlt13:n+1<b
    ·obtain⟨r,hr1⟩:∃r:Nat,mx 0 ((b:Int)-(n+1:Nat)-kerf)=r:=by
      have:0≤mx 0 ((b:Int)-(n+1:Nat)-kerf):=mx_ge.1
      exact⟨_,(Int.toNat_of_nonneg this).symm⟩
     have hrl:r<b:=by unfold mx at hr1;split at hr1<;>omega
     have c1:=grid_get (f:=updF (doneD (fun _ _=> -1000000000000) H a b) a b (foldM (fun x=>mx (UB (-1000000000000) kerf (wsOf l) l kind (oneB x a b)+V kerf (wsOf l) l (twoB kerf x a b)) (V kerf (wsOf l) l (oneB x a b)+UB (-1000000000000) kerf (wsOf l) l kind (twoB kerf x a b))) (row 4 n) M1)) (a:=a) (b:=b) (by omega) (by omega)
     have c2:=grid_get (f:=updF (doneD (fun _ _=> -1000000000000) H a b) a b (foldM (fun x=>mx (UB (-1000000000000) kerf (wsOf l) l kind (oneB x a b)+V kerf (wsOf l) l (twoB kerf x a b)) (V kerf (wsOf l) l (oneB x a b)+UB (-1000000000000) kerf (wsOf l) l kind (twoB kerf x a b))) (row 4 n) M1)) (a:=a) (b:=n+1) (by omega) (by omega)
     have c3:=grid_get (f:=updF (doneD (fun _ _=> -1000000000000) H a b) a b (foldM (fun x=>mx (UB (-1000000000000) kerf (wsOf l) l kind (oneB x a b)+V kerf (wsOf l) l (twoB kerf x a b)) (V kerf (wsOf l) l (oneB x a b)+UB (-1000000000000) kerf (wsOf l) l kind (twoB kerf x a b))) (row 4 n) M1)) (a:=a) (b:=r) (by omega) (by omega)
     have d2:=grid_get (f:=G) (a:=a) (b:=n+1) (by omega) (by omega)
     have d3:=grid_get (f:=G) (a:=a) (b:=r) (by omega) (by omega)
     rw[updF_self]at c1
     rw[updD_up _ (by omega)]at c2 c3
     have hcut:=cutU_up (bot:= -1000000000000) (ws:=wsOf l) (kl:=l) (kind:=kind) (a:=a) (b:=b) (n:=n+1) (r:=r) (kerf:=kerf) (by omega) hr1
     rw[hG,hH]at hcut
     have hb2:=hVb a (n+1) (by omega) (by omega)
     have hb3:=hVb a r (by omega) (by omega)
     have hb4:=hHb a (n+1) (by omega) (by omega)
     have hb5:=hHb a r (by omega) (by omega)
     have hnext:mx (mx (foldM (fun x=>mx (UB (-1000000000000) kerf (wsOf l) l kind (oneB x a b)+V kerf (wsOf l) l (twoB kerf x a b)) (V kerf (wsOf l) l (oneB x a b)+UB (-1000000000000) kerf (wsOf l) l kind (twoB kerf x a b))) (row 4 n) M1) (H a (n+1)+G a r)) (G a (n+1)+H a r)=(foldM (fun x=>mx (UB (-1000000000000) kerf (wsOf l) l kind (oneB x a b)+V kerf (wsOf l) l (twoB kerf x a b)) (V kerf (wsOf l) l (oneB x a b)+UB (-1000000000000) kerf (wsOf l) l kind (twoB kerf x a b))) (row 4 (n+1)) M1):=by rw[foldM_row,mx_assoc,←hcut.1,←hcut.2]
     generalize hP:(foldM (fun x=>mx (UB (-1000000000000) kerf (wsOf l) l kind (oneB x a b)+V kerf (wsOf l) l (twoB kerf x a b)) (V kerf (wsOf l) l (oneB x a b)+UB (-1000000000000) kerf (wsOf l) l kind (twoB kerf x a b))) (row 4 n) M1)=P at*
     clear hcut
     refine wE_seq ?_;refine y4 ?_;refine yM ?_;refine yM ?_;refine yt ?_;refine y3 ?_;refine yY ?_
     refine wE_skip ?_;refine kS_n ?_;refine wE_seq ?_;refine wE_block ?_;refine y4 ?_;refine yM ?_;refine yM ?_;refine ysub ?_;refine yF ?_
     refine yL ?_;refine ysub ?_
     refine wO_val (a_max0 (by exact rfl) (by exact rfl) hr1) ?_
     refine yM ?_;refine y3 ?_;refine wE_draw ?_;refine qM ?_;refine qM ?_
     refine qM ?_;refine qM ?_;refine wD_quiet rfl rfl rfl (by exact rfl) (by exact rfl) (by exact rfl) (a_iaddrA (by exact rfl) (by exact rfl) (by omega)) ?_
     refine wD_quiet rfl rfl rfl (by exact rfl) (by exact rfl) (by exact rfl) (a_iaddrA (by exact rfl) (by exact rfl) (by omega)) ?_;refine wD_quiet rfl rfl rfl (by exact rfl) (by exact rfl) (by exact rfl) (a_load (by exact rfl) (by assumption) (by assumption)) ?_;refine qM ?_
     refine qM ?_;refine wD_quiet rfl rfl rfl (by exact rfl) (by exact rfl) (by exact rfl) (a_iaddrA (by exact rfl) (by exact rfl) (by omega)) ?_;refine wD_quiet rfl rfl rfl (by exact rfl) (by exact rfl) (by exact rfl) (a_iaddrA (by exact rfl) (by exact rfl) (by omega)) ?_
     refine wD_quiet rfl rfl rfl (by exact rfl) (by exact rfl) (by exact rfl) (a_load (by exact rfl) (by assumption) (by assumption)) ?_;refine qM ?_;refine qM ?_
     refine wD_quiet rfl rfl rfl (by exact rfl) (by exact rfl) (by exact rfl) (a_iaddrA (by exact rfl) (by exact rfl) (by omega)) ?_;refine wD_quiet rfl rfl rfl (by exact rfl) (by exact rfl) (by exact rfl) (a_iaddrA (by exact rfl) (by exact rfl) (by omega)) ?_;refine wD_quiet rfl rfl rfl (by exact rfl) (by exact rfl) (by exact rfl) (a_load (by exact rfl) (by assumption) (by assumption)) ?_
     refine wD_quiet rfl rfl rfl (by exact rfl) (by exact rfl) (by exact rfl) (a_num (by exact rfl) (by exact rfl) (by exact m_add (wrapA_i64 (by omega) (by omega)))) ?_;refine qM ?_;refine qM ?_
     refine wD_quiet rfl rfl rfl (by exact rfl) (by exact rfl) (by exact rfl) (a_iaddrA (by exact rfl) (by exact rfl) (by omega)) ?_;refine wD_quiet rfl rfl rfl (by exact rfl) (by exact rfl) (by exact rfl) (a_iaddrA (by exact rfl) (by exact rfl) (by omega)) ?_;refine wD_quiet rfl rfl rfl (by exact rfl) (by exact rfl) (by exact rfl) (a_load (by exact rfl) (by assumption) (by assumption)) ?_
     refine qM ?_;refine qM ?_;refine wD_quiet rfl rfl rfl (by exact rfl) (by exact rfl) (by exact rfl) (a_iaddrA (by exact rfl) (by exact rfl) (by omega)) ?_
     refine wD_quiet rfl rfl rfl (by exact rfl) (by exact rfl) (by exact rfl) (a_iaddrA (by exact rfl) (by exact rfl) (by omega)) ?_;refine wD_quiet rfl rfl rfl (by exact rfl) (by exact rfl) (by exact rfl) (a_load (by exact rfl) (by assumption) (by assumption)) ?_
     refine wD_quiet rfl rfl rfl (by exact rfl) (by exact rfl) (by exact rfl) (a_num (by exact rfl) (by exact rfl) (by exact m_add (wrapA_i64 (by omega) (by omega)))) ?_
     refine wD_quiet rfl rfl rfl (by exact rfl) (by exact rfl) (by exact rfl) (a_max3 (by exact rfl) (by exact rfl) (by exact rfl)) ?_
     refine wD_quiet rfl rfl rfl (by exact rfl) (by exact rfl) (by exact rfl) (a_iaddrA (by exact rfl) (by exact rfl) (by omega)) ?_;refine wD_quiet rfl rfl rfl (by exact rfl) (by exact rfl) (by exact rfl) (a_iaddrA (by exact rfl) (by exact rfl) (by omega)) ?_
     refine wD_store (ws:=ints (grid (updF (updF (doneD (fun _ _=> -1000000000000) H a b) a b P) a b (mx (mx P (H a (n+1)+G a r)) (G a (n+1)+H a r))))) rfl rfl rfl (by exact rfl) (by exact rfl) (by exact rfl) (by assumption) (grid_st (by omega) (by omega)) (grid_put (by omega) _) (by omega) (by omega) (by apply ra_dropC rfl;apply ra_dropC rfl;apply ra_dropC rfl;apply ra_dropC rfl;apply ra_dropC rfl;apply ra_dropC rfl;apply ra_dropC rfl;apply ra_dropC rfl;apply ra_dropC rfl;apply ra_dropC rfl;apply ra_dropC rfl;apply ra_dropC rfl;apply ra_dropC rfl;apply ra_dropC rfl;apply ra_dropC rfl;apply ra_dropC rfl;apply ra_dropC rfl;apply ra_dropC rfl;apply ra_dropC rfl;apply ra_dropC rfl;apply ra_dropC rfl;apply ra_dropC rfl;apply ra_dropC rfl;apply ra_dropC rfl;apply ra_dropC rfl;apply ra_dropC rfl;apply ra_dropC rfl;apply ra_dropC rfl;apply ra_dropC rfl;apply ra_dropC rfl;apply ra_dropC rfl;apply ra_dropC rfl;exact ra_nil) ?_
     refine wD_nil ?_;refine y1 ?_;refine kB_n ?_;refine kS_n ?_;refine wE_region ?_;refine yM ?_;refine yinc ?_;refine yM ?_;refine y3 ?_
     refine⟨b-(n+1),by omega,n+1,by omega,rfl,rfl,rfl,?_⟩
     have:=w13.wr (base:=h.next) (a:=a) (b:=b) (mx (mx P (H a (n+1)+G a r)) (G a (n+1)+H a r)) (by omega)
     rw[←hnext]
     rw[updF_upd]at this⊢
     exact this
    ·obtain rfl:n=b-1:=by omega
     have hval:foldM (fun x=>mx (UB (-1000000000000) kerf (wsOf l) l kind (oneB x a b)+V kerf (wsOf l) l (twoB kerf x a b)) (V kerf (wsOf l) l (oneB x a b)+UB (-1000000000000) kerf (wsOf l) l kind (twoB kerf x a b))) (row 4 (b-1)) M1=H a b:=by
      rw[←hH]
      unfold Hf
      rw[UB_eq hk.1 ha1 hb1,hM0,←hM1]
      unfold cutsL foldM
      rw[List.foldl_append]
     rw[hval,doneD_next]at w13
     refine wE_seq ?_;refine y4 ?_;refine yM ?_;refine yM ?_;refine yf ?_;refine y3 ?_;refine yX ?_
     refine wE_exit ?_;refine kS_e ?_;refine kS_e ?_;refine kB_e ?_;refine kB_n ?_;refine kS_n ?_;refine wE_region ?_;refine yM ?_;refine yinc ?_;refine yM ?_;refine y3 ?_
     exact⟨17-(b+1),by omega,b+1,by omega,by omega,rfl,rfl,rfl,w13⟩
  ·obtain rfl:b=17:=by omega
   refine wE_seq ?_;refine y4 ?_;refine yM ?_;refine yf ?_;refine y3 ?_;refine yX ?_;refine wE_exit ?_;refine kS_e ?_
   refine kS_e ?_;refine kB_e ?_;refine kB_n ?_;refine kS_n ?_;refine wE_region ?_;refine yM ?_;refine yinc ?_;refine yM ?_;refine y3 ?_
   refine⟨17-(a+1),by omega,a+1,by omega,by omega,rfl,rfl,rfl,w5.congr fun x y hx hy=> ?_⟩
   unfold doneD
   by_cases hq:x<a∨(x=a∧y<17)
   ·rw[if_pos hq,if_pos (by omega)]
   ·rw[if_neg hq]
    split
    ·rw[hHo x y (by omega)]
    ·rfl
 ·obtain rfl:a=17:=by omega
  have hfin:grid (doneD (fun _ _=>(-1000000000000)) H 17 1)=grid H:=grid_congr fun x y hx hy=>by unfold doneD;rw[if_pos (by omega)]
  have hl:(ints (grid H)).length=289:=by rw[ints_len,grid_len]
  have hl0:(ints (grid fun _ _=>0)).length=289:=by rw[ints_len,grid_len]
  have eA:ltake 289 (ldrop 0 (ints (grid H)))=ints (grid H):=by rw[ltake_eq,ldrop_eq,List.drop_zero,List.take_of_length_le (by omega)]
  have eC:ones (ints (grid H))=true:=ones_ints _
  have wo:=w4.obj
  rw[hfin]at wo
  have wl:=w4.log
  have g2:=(w4.old (h.next+1) (by omega)).trans A2
  have hz:PLift (h4.get (h.next+3)=some (.cells (ints (grid H)) true 1)∧h4.get (h.next+1)=some (.cells (ints (grid fun _ _=>0)) true 1)):=⟨⟨wo,g2⟩⟩
  clear wo g2 w4 A1 A2 A3 A4 v2 w1
  generalize ints (grid H)=XS at*
  generalize ints (grid fun _ _=>0)=ZS at*
  refine wE_seq ?_;refine y4 ?_;refine yM ?_;refine yf ?_;refine y3 ?_;refine yX ?_;refine wE_exit ?_;refine kS_e ?_
  refine kS_e ?_;refine kB_e ?_;refine kS_n ?_;refine y4 ?_
  refine wO_val (a_loadN (l:=XS) (by exact rfl) hz.down.1 eA (by rw[llen_eq,hl];rfl)) ?_
  refine wO_val (a_store (ws:=XS) (by exact rfl) (by exact rfl) hz.down.2 (st_all hl hl0 eC) (lputs_all (by show XS.length=_;rw[hl,hl0]))) ?_
  refine y3 ?_;refine wE_ret ?_
  exact endP_ret ((Heap.log_wr_new (by omega)).trans wl) (res_cells (b:=h.next+1) (l:=XS) (by exact rfl) (Heap.get_wr_new hz.down.2) eA (by rw[llen_eq,hl];rfl) res_nil) rfl
end Go.A.Pk
end
section
set_option maxRecDepth 100000
namespace Go.A.Pk
variable {T:Nat→Option AFunc}
structure FnsRC (T:Nat→Option AFunc):Prop extends FnsRW T,FnsD T where
 f33:T 33=some f33
 f41:T 41=some f41
 f101:T 101=some f101
set_option maxHeartbeats 8000000 in
theorem rbest33(F:FnsRC T){h:Heap}(hr:Rdy h){a:Option Addr}{n c:Nat}{l:List Kd}(hs:SliceOf h 5 (.slice a n c) n (kcs l))(kerf:Int)(hn:n<1000000)(w ht:Int):Pu T 33 [.agg #[.slice a n c, .int .i64 kerf], .int .i64 w, .int .i64 ht] h (bestR kerf l w ht):=by
 refine .of F.toFnsRW.p F.f33 hr rfl ?_
 have hx:Ext h (h.push (.cells [.slice a n c, .int .i64 kerf] true 1)):=(Ext.refl h).push _
 obtain rfl:n=l.length:=by have:=hs.len;rw[kcs_length]at this;omega
 have C1:=asked79 F.toFnsD (.of (hx.wf hr.wf)) ((hs.ext hx).log []) kerf w ht hn
 change Pu T 79 _ _ (.int .i64 (asked kerf l (OnB w ht)))at C1
 refine y4 ?_;refine yB ?_;refine yM ?_;refine yM ?_;refine y3 ?_;refine y4 ?_
 refine yN ?_;refine yM ?_;refine yM ?_
 refine yC ?_
 refine FW.pu C1 ?_
 by_cases hA:asked kerf l (OnB w ht)=0
 ·rw[bestR_ok hA]
  obtain⟨hc,hb⟩:=asked_zero hA
  obtain⟨q1,q2,q3,q4⟩:=chk_iff.1 hc
  have hb0:=hb
  obtain⟨⟨e1,e2⟩,e3,e4⟩:=hb0
  obtain⟨w,rfl⟩:=Int.eq_ofNat_of_zero_le (show 0≤w by omega)
  obtain⟨ht,rfl⟩:=Int.eq_ofNat_of_zero_le (show 0≤ht by omega)
  have C2:=rbest93 F.toFnsRB (.of (hx.wf hr.wf)) ((hs.ext hx).log []) (W:=1000000) (by omega) ⟨q2.1,by omega⟩ (by omega) (wsOf_bd hc)
  have hv:bestV kerf l w ht=Vf kerf (wsOf l) l w ht:=bestV_eq q2.1 e1 e3
  rw[hv]
  have c1:=grid_get (f:=Vf kerf (wsOf l) l) (a:=w) (b:=ht) (by omega) (by omega)
  have hl:(ints (grid (Vf kerf (wsOf l) l))).length=289:=by rw[ints_len,grid_len]
  have eC:ones (ints (grid (Vf kerf (wsOf l) l)))=true:=ones_ints _
  refine yM ?_;refine y3 ?_;refine wE_seq ?_;refine y4 ?_;refine yM ?_;refine yf ?_;refine y3 ?_;refine yX ?_;refine wE_skip ?_;refine kS_n ?_;refine y4 ?_
  refine yN ?_
  refine yC ?_
  refine FW.pu C2 ?_
  generalize ints (grid (Vf kerf (wsOf l) l))=XS at*
  refine wO_val a_new ?_
  refine wO_val (a_store (ws:=XS) (by exact rfl) (by exact rfl) (by(simp(disch:=first|omega|(simp only[z1,z2];omega)|(simp only[z1,z2];done)|fail)only[z8,z4,z5,z9,z7,z1,z2, *];exact rfl)) (st_all hl rep_len eC) (lputs_all (by show XS.length=_;rw[hl,rep_len]))) ?_
  refine y3 ?_;refine y4 ?_;refine yM ?_;refine yM ?_;refine wO_val (a_iaddrA (by exact rfl) (by exact rfl) (by omega)) ?_;refine wO_val (a_iaddrA (by exact rfl) (by exact rfl) (by omega)) ?_
  refine wO_val (a_load (by exact rfl) (by(simp(disch:=first|omega|(simp only[z1,z2];omega)|(simp only[z1,z2];done)|fail)only[z8,z4,z5,z9,z7,z1,z2, *];exact rfl)) (by assumption)) ?_;refine yM ?_
  refine yM ?_;refine y3 ?_;refine wE_ret ?_
  exact endP_ret ((Heap.log_wr_new (by(simp only[z1,z2];omega))).trans hr.log) rfl rfl
 ·rw[bestR_no hA]
  refine yM ?_;refine y3 ?_;refine wE_seq ?_;refine y4 ?_;refine yM ?_;refine yt ?_;refine y3 ?_;refine yY ?_;refine y4 ?_;refine yM ?_;refine yM ?_;refine yM ?_;refine y3 ?_;refine wE_ret ?_;refine kS_r ?_
  exact endP_ret hr.log rfl rfl
set_option maxHeartbeats 8000000 in
theorem rwanted101(F:FnsRC T){h:Heap}(hr:Rdy h){a:Option Addr}{n c kind:Nat}{l:List Kd}{kerf W:Int}(hs:SliceOf h 5 (.slice a n c) n (kcs l))(hn:n<1000)(hkind:kind<n)(hk:0≤kerf∧kerf≤100)(hW:0≤W∧W≤1000000000)(hws:∀x∈wsOf l,0≤x∧x≤W){w ht:Nat}(hw:w≤16)(hh:ht≤16):
 Pu T 101 [.agg #[.slice a n c, .int .i64 kerf], .int .i64 w, .int .i64 ht, .int .i64 kind] h (.bool (Hf (-1000000000000) kerf (wsOf l) l kind w ht==Vf kerf (wsOf l) l w ht)):=by
 refine .of F.toFnsRW.p F.f101 hr rfl ?_
 have hx:Ext h (h.push (.cells [.slice a n c, .int .i64 kerf] true 1)):=(Ext.refl h).push _
 have C1:=rbest93 F.toFnsRB (.of (hx.wf hr.wf)) ((hs.ext hx).log []) hn hk hW hws
 have c1:=grid_get (f:=Vf kerf (wsOf l) l) (a:=w) (b:=ht) (by omega) (by omega)
 have hl:(ints (grid (Vf kerf (wsOf l) l))).length=289:=by rw[ints_len,grid_len]
 have eC:ones (ints (grid (Vf kerf (wsOf l) l)))=true:=ones_ints _
 have c2:=grid_get (f:=Hf (-1000000000000) kerf (wsOf l) l kind) (a:=w) (b:=ht) (by omega) (by omega)
 have hl2:(ints (grid (Hf (-1000000000000) kerf (wsOf l) l kind))).length=289:=by rw[ints_len,grid_len]
 have eC2:ones (ints (grid (Hf (-1000000000000) kerf (wsOf l) l kind)))=true:=ones_ints _
 refine y4 ?_;refine yB ?_;refine yM ?_;refine y3 ?_;refine y4 ?_
 refine yN ?_
 refine yC ?_
 refine FW.pu C1 ?_
 have hXw:∀XS:List Value,Ext h (((h.push (.cells [.slice a n c, .int .i64 kerf] true 1)).push (.cells (lrep 289 (.int .i64 0)) true 1)).wr h.next (h.next+1) (.cells XS true 1)):=fun XS=>(hx.push _).wr (Nat.le_succ _) (Nat.le_succ _)
 generalize ints (grid (Vf kerf (wsOf l) l))=XS at*
 refine wO_val a_new ?_
 refine wO_val (a_store (ws:=XS) (by exact rfl) (by exact rfl) (by(simp(disch:=first|omega|(simp only[z1,z2];omega)|(simp only[z1,z2];done)|fail)only[z8,z4,z5,z9,z7,z1,z2, *];exact rfl)) (st_all hl rep_len eC) (lputs_all (by show XS.length=_;rw[hl,rep_len]))) ?_
 refine y3 ?_;refine y4 ?_
 refine yN ?_;refine yM ?_
 refine yC ?_
 have C2:=rwith100 F.toFnsRW (.of ((hXw XS).wf hr.wf)) ((hs.ext (hXw XS)).log []) hn hkind hk hW hws
 refine FW.pu C2 ?_
 generalize ints (grid (Hf (-1000000000000) kerf (wsOf l) l kind))=YS at*
 refine wO_val a_new ?_
 refine wO_val (a_store (ws:=YS) (by exact rfl) (by exact rfl) (by(simp(disch:=first|omega|(simp only[z1,z2];omega)|(simp only[z1,z2];done)|fail)only[z8,z4,z5,z9,z7,z1,z2, *];exact rfl)) (st_all hl2 rep_len eC2) (lputs_all (by show YS.length=_;rw[hl2,rep_len]))) ?_
 refine y3 ?_;refine wE_seq ?_;refine wE_draw ?_;refine qM ?_;refine qM ?_
 refine wD_quiet rfl rfl rfl (by exact rfl) (by exact rfl) (by exact rfl) (a_iaddrA (by exact rfl) (by exact rfl) (by omega)) ?_;refine wD_quiet rfl rfl rfl (by exact rfl) (by exact rfl) (by exact rfl) (a_iaddrA (by exact rfl) (by exact rfl) (by omega)) ?_
 refine wD_quiet rfl rfl rfl (by exact rfl) (by exact rfl) (by exact rfl) (a_load (by exact rfl) (by(simp(disch:=first|omega|(simp only[z1,z2];omega)|(simp only[z1,z2];done)|fail)only[z8,z4,z5,z9,z7,z1,z2, *];exact rfl)) (by assumption)) ?_
 refine qM ?_;refine qM ?_;refine wD_quiet rfl rfl rfl (by exact rfl) (by exact rfl) (by exact rfl) (a_iaddrA (by exact rfl) (by exact rfl) (by omega)) ?_
 refine wD_quiet rfl rfl rfl (by exact rfl) (by exact rfl) (by exact rfl) (a_iaddrA (by exact rfl) (by exact rfl) (by omega)) ?_
 refine wD_quiet rfl rfl rfl (by exact rfl) (by exact rfl) (by exact rfl) (a_load (by exact rfl) (by(simp(disch:=first|omega|(simp only[z1,z2];omega)|(simp only[z1,z2];done)|fail)only[z8,z4,z5,z9,z7,z1,z2, *];exact rfl)) (by assumption)) ?_
 refine wD_quiet rfl rfl rfl (by exact rfl) (by exact rfl) (by exact rfl) (a_num (by exact rfl) (by exact rfl) (by exact m_eql)) ?_;refine qM ?_;refine wD_nil ?_;refine y1 ?_;refine kS_n ?_;refine wE_ret ?_
 exact endP_ret (by simp(disch:=first|omega|(simp only[z1,z2];omega))only[Heap.log_wr_new,Heap.log_push];exact hr.log) rfl rfl
theorem rwith_eq{kerf:Int}{l:List Kd}(hc:chk kerf l=0){w ht k:Nat}(hb:OnB w ht)(hk:k<l.length):
 (0≤kw kerf l k ((w:Int),(ht:Int)) 0↔0≤Hf (-1000000000000) kerf (wsOf l) l k w ht)∧(0≤kw kerf l k ((w:Int),(ht:Int)) 0→kw kerf l k ((w:Int),(ht:Int)) 0=Hf (-1000000000000) kerf (wsOf l) l k w ht):=by
 have hk0:=(chk_iff.1 hc).2.1.1
 have h0:∀x∈wsOf l,0≤x:=fun x hx=>(wsOf_bd hc x hx).1
 have hv:=kb_bd hc hk hb
 have eV:kb kerf l k ((w:Int),(ht:Int)) 0=V kerf (wsOf l) l ((w:Int),(ht:Int)):=by unfold kb;rw[wsM_zero hk]
 have eU:kw kerf l k ((w:Int),(ht:Int)) 0=UB never kerf (wsOf l) l k ((w:Int),(ht:Int)):=by unfold kw;rw[wsM_zero hk,UB_never]
 rw[eV]at hv
 rw[eU]
 unfold Hf
 have h1:=UB_same hk0 (bot:=never) (kl:=l) (kind:=k) h0 (bot':= -1000000000000) ((w:Int),(ht:Int)) (by unfold never;omega)
 have h2:=UB_same hk0 (bot:= -1000000000000) (kl:=l) (kind:=k) h0 (bot':=never) ((w:Int),(ht:Int)) (by omega)
 constructor
 ·constructor
  ·intro h;have:=h1 h;omega
  ·intro h;have:=h2 h;omega
 ·intro h
  have h3:=h1 h
  have h4:=h2 (by omega)
  omega
end Go.A.Pk
end
