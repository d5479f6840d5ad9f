/- Walks of functions, plain laws, the table. -/
import Derived.Test.YteafdpbjocdbbaaGreatDoorSU0
import Derived.Test.YteafdpbjocdbbaaGreatDoorSF
import Derived.Test.YteafdpbjocdbbaaGreatDoorSD
set_option linter.all false
section
set_option maxRecDepth 100000
namespace Go.A.Pk
variable {T:Nat→Option AFunc}
theorem mergeLog_ge{base:Nat}:∀{m l:List Nat},LogGe base m→mergeLog base l m=l
 |[],_,_=>rfl
 |b::m,l,h=>by
  have hb:=h b (List.mem_cons_self ..)
  simp only[mergeLog,nblt_not (show¬b<base by omega),cond_false]
  exact mergeLog_ge fun x hx=>h x (List.mem_cons_of_mem _ hx)
theorem SliceOf.agree{h h':Heap}{sz n:Nat}{v:Value}{cs:List Value}(s:SliceOf h sz v n cs)(hn:h.next≤h'.next)(ha:∀b vs o t,b<h.next→h.get b=some (.cells vs o t)→h'.get b=h.get b):SliceOf h' sz v n cs:=by
 cases s with
 |nil=>exact .nil
 |mem s hc=>
  obtain⟨vs,own,t,h1,h2⟩:=s.obj
  exact .mem ⟨Nat.lt_of_lt_of_le s.lt hn,⟨vs,own,t,(ha _ _ _ _ s.lt h1).trans h1,h2⟩,s.len⟩ hc
theorem PW.yld(hp:primAS T){l2 q:Nat}{H0:Heap}{L:AObj}{O:List (Nat×Nat)→AObj}{V:Nat×Nat→Value}{all:List (Nat×Nat)}(hq:q<l2)
 (hround:∀done x H',x∈all→Rdy H'→l2<H'.next→PW l2 q H0 L O done H'→FW T (.yield l2) [V x] H' fun r H''=>r= .ret (.bool true)∧(∀z∈H''.log,q≤z∧z<q+1)∧(∀z,z<H'.next→z≠q→H''.get z=H'.get z)∧H''.get q=some (O (done++[x]))):
 Yld T q (l2+1) l2 V all (PW l2 q H0 L O)where
 yields:=fun done x H hx hr hN hP=>FW.mono' (FW.withAS hp (hround done x H hx hr hN hP) hr.log) fun r H' ⟨hA,h1,h2,h3,h4⟩=>⟨h1,fun z hz=>by have:=h2 z hz;omega,⟨fun y hy hne=>(h3 y (by omega) hne).trans (hP.old y hy hne),h4,(h3 l2 (by omega) (by omega)).trans hP.loop,Nat.lt_of_lt_of_le hP.nx hA.next⟩⟩
 stable:=fun done H H' p hn h=>PW.stable hq done H H' p hn h
theorem inner_range{base:Nat}{rnd:Option Nat}{e:Env}{ds:Dfs}{Q:XQ}{h1:Heap}{f:Operand}{g q:Nat}{first cap:Array Value}{ps:List Nat}{asg body:ACode}{all:List (Nat×Nat)}{O:List (Nat×Nat)→AObj}(hr:roundA h1 rnd=true)(hf:ev h1 e f=some (.func (.func g) first cap))(hnc:notCode (T g)=false)
 (hB:base≤h1.next)(hq:base≤q)(hlog:h1.log=[])(w1:WF h1)
 (HG:Gr T g (lcat first.toList (lcat [.func (.yield h1.next) #[] #[]] cap.toList)) {h1.push (.loop e ps asg body 0 .normal)with log:=[]} q fun v h'=>v= .tuple #[]∧PW h1.next q h1 (.loop e ps asg body 0 .normal) O all h')(hqn:q<h1.next)
 (K:∀h3,h3.log=[]→WF h3→h1.next≤h3.next→(∀z,z<h1.next→z≠q→h3.get z=h1.get z)→h3.get q=some (O all)→Q .normal e ds h3):WE T base rnd (.rangeFunc f ps asg body) Q e ds h1:=by
 refine wE_range hr hf hnc (CW.mono HG ?_)
 rintro r h2 ⟨hk,v,rfl,rfl,hP⟩
 refine⟨_,rfl,_,_,_,_,_,_,hP.loop,rfl,?_⟩
 have hl2:LogGe base h2.log:=fun z hz=>Nat.le_trans hq (hk.log (LogGe.nil _) z hz)
 refine K _ ?_ ?_ ?_ (fun z hz hne=> ?_) ?_
 ·rw[Heap.log_wr_new hB]
  show mergeLog base h1.log h2.log=[]
  rw[mergeLog_ge hl2,hlog]
 ·exact((hk.wf ((w1.push _).log _)).log _).as (AS.wr _ _ _ _)
 ·have:=hk.next
  have e1:h1.next+1≤h2.next:=this
  show h1.next≤h2.next
  omega
 ·exact(z5 (by omega)).trans (hP.old z hz hne)
 ·exact(z5 (by omega)).trans hP.obj
def leafM(ws:List Int)(xs:List (Nat×Nat))(m:Int):Int:=xs.foldl (fun m x=>mx m (ws.getD x.2 0)) m
def cutM(kerf:Int)(t:Tab)(a b:Nat)(xs:List (Nat×Nat))(m:Int):Int:=xs.foldl (fun m x=>mx m (look t (oneB x a b)+look t (twoB kerf x a b))) m
def val(kerf:Int)(ws:List Int)(kl:List Kd)(t:Tab)(a b:Nat):Int:=cutM kerf t a b (cutsL a b) (leafM ws (leavesL a b kl 0) 0)
theorem leafM_snoc(ws:List Int)(xs:List (Nat×Nat))(x:Nat×Nat)(m:Int):leafM ws (xs++[x]) m=mx (leafM ws xs m) (ws.getD x.2 0):=by simp[leafM]
theorem cutM_snoc(kerf:Int)(t:Tab)(a b:Nat)(xs:List (Nat×Nat))(x:Nat×Nat)(m:Int):cutM kerf t a b (xs++[x]) m=mx (cutM kerf t a b xs m) (look t (oneB x a b)+look t (twoB kerf x a b)):=by simp[cutM]
theorem leafAt_idx{k:Kd}{i a b:Nat}:∀x∈leafAt k i a b,x.2=i:=by
 intro x hx
 unfold leafAt at hx
 simp only[List.mem_append]at hx
 rcases hx with hx|hx<;>split at hx<;>simp at hx<;>rw[hx]
theorem leaves_idx{a b:Nat}:∀{l:List Kd} {i:Nat},∀x∈leavesL a b l i,x.2<i+l.length
 |[],i,x,hx=>by cases hx
 |k::l,i,x,hx=>by
  simp only[leavesL,List.mem_append]at hx
  rcases hx with hx|hx
  ·rw[leafAt_idx x hx];simp
  ·have:=leaves_idx x hx;simp;omega
theorem row_of{c n:Nat}{x:Nat×Nat}(h:x∈row c n):x.1=c∧1≤x.2∧x.2≤n:=by
 simp only[row,List.mem_map,List.mem_range]at h
 obtain⟨i,hi,rfl⟩:=h
 exact⟨rfl,by simp,by simp;omega⟩
theorem cuts_of{a b:Nat}{x:Nat×Nat}(h:x∈cutsL a b):(x.1=3∧1≤x.2∧x.2≤a-1)∨(x.1=4∧1≤x.2∧x.2≤b-1):=by
 simp only[cutsL,List.mem_append]at h
 exact h.imp row_of row_of
theorem WO.gen{base:Nat}{rnd:Option Nat}{Q:XQ}{ops:List AOper}{e:Env}{ds:Dfs}{h:Heap}(hK:∀hA,hA=h→WO T base rnd Q ops e ds hA):WO T base rnd Q ops e ds h:=hK h rfl
structure FnsV (T:Nat→Option AFunc):Prop where
 p:primAS T
 f94:T 94=some f94
 f104:T 104=some f104
 f105:T 105=some f105
 f106:T 106=some f106
 f136:T 136=some f136
 f140:T 140=some f140
 f141:T 141=some f141
 f83:T 83=some f83
set_option maxHeartbeats 8000000 in
theorem best_round(F:FnsV T){H:Heap}(hr:Rdy H){p3 pm mb bb l n c wc a b:Nat}{sa wa:Option Addr}{fv:Value}{kerf:Int}{ws:List Int}{kl:List Kd}{t:Tab}(ha:a<1000)(hb:b<1000)(hn:n<1000)(hk:0≤kerf∧kerf≤100)
 (hsum:∀x∈cutsL a b, -4611686018427387904≤look t (oneB x a b)+look t (twoB kerf x a b)∧look t (oneB x a b)+look t (twoB kerf x a b)≤4611686018427387904)(gl:H.get l=some (.loop [(3, .pointer (some ⟨p3,0,none⟩)),(7, .pointer (some ⟨pm,0,none⟩)),(17,fv)] [18] asgO bodyO 0 .normal))
 (g3:H.get p3=some (.cells [.pointer (some ⟨bb,0,none⟩)] true 1))(gm:H.get pm=some (.cells [.map (some mb)] true 1))(gt:H.get mb=some (.map (ents t)))(gb:H.get bb=some (.cells [.slice sa n c, .int .i64 kerf, .slice wa n wc] true 1))(hks:SliceOf H 5 (.slice sa n c) n (kcs kl))(hws:SliceOf H 1 (.slice wa n wc) n (ints ws)):
 FW T (.yield l) [boardV (a,b)] H fun r H'=>r= .ret (.bool true)∧(∀z∈H'.log,mb≤z∧z<mb+1)∧(∀z,z<H.next→z≠mb→H'.get z=H.get z)∧H'.get mb=some (.map (ents (upd t (a,b) (val kerf ws kl t a b)))):=by
 have n2:=ne_loop g3 gl
 have n3:=ne_loop gb gl
 have n4:=ne_loop gm gl
 have n6:=ne_map gt gl
 have m1:=ne_cm g3 gt
 have m2:=ne_cm gm gt
 have m3:=ne_cm gb gt
 have k2:=WF.get_lt hr.wf g3
 have k3:=WF.get_lt hr.wf gb
 have k4:=WF.get_lt hr.wf gm
 have k5:=WF.get_lt hr.wf gl
 have k7:=WF.get_lt hr.wf gt
 refine FW.yieldN F.p (R:=fun H'=>(∀z,z<H.next→z≠mb→H'.get z=H.get z)∧H'.get mb=some (.map (ents (upd t (a,b) (val kerf ws kl t a b))))) gl rfl k5 ?_
 unfold asgO
 refine wE_region ?_;refine wO_val a_new ?_;refine yS ?_;refine wO_nil ?_
 refine y1 ?_
 refine⟨rfl,by(simp(disch:=first|omega|(simp only[z1,z2];omega))only[z3,z4,z5,z6,z7,z1,z2, *];exact rfl),?_⟩
 unfold bodyO
 refine wE_block ?_;refine y4 ?_;refine wO_val a_new ?_
 refine yS ?_;refine y3 ?_;refine wE_seq ?_;refine y4 ?_
 refine yL ?_
 refine yN ?_
 refine WO.gen ?_
 intro hA hAe
 have A1:∀z,z<H.next→z≠l→hA.get z=H.get z:=fun z hz hne=>by rw[hAe];simp(disch:=first|omega|(simp only[z1,z2];omega))only[z5,z4]
 have A2:hA.get l=some (.loop [(3, .pointer (some ⟨p3,0,none⟩)),(7, .pointer (some ⟨pm,0,none⟩)),(17,fv)] [18] asgO bodyO 1 .normal):=by rw[hAe];(simp(disch:=first|omega|(simp only[z1,z2];omega))only[z3,z4,z5,z6,z7,z1,z2, *];exact rfl)
 have A3:hA.get H.next=some (.cells [.int .i64 a, .int .i64 b] true 1):=by rw[hAe];(simp(disch:=first|omega|(simp only[z1,z2];omega))only[z3,z4,z5,z6,z7,z1,z2, *];exact rfl)
 have A4:hA.get (H.next+1)=some (.cells [.int .i64 0] true 1):=by rw[hAe];(simp(disch:=first|omega|(simp only[z1,z2];omega)|(simp only[z1,z2];done)|fail)only[z8,z4,z5,z9,z7,z1,z2, *];exact rfl)
 have A5:hA.next=H.next+2:=by rw[hAe];rfl
 have A6:hA.log=[]:=by rw[hAe];simp(disch:=first|omega|(simp only[z1,z2];omega))only[Heap.log_wr_new,Heap.log_push];exact hr.log
 have A7:WF hA:=by rw[hAe];exact((((hr.wf.push _).as (AS.wr _ _ _ _)).as (AS.wr _ _ _ _)).push _).as (AS.wr _ _ _ _)
 clear hAe
 refine yC ?_
 refine FW.al (leaves104 F.p F.f104 (.of A7) bb a b) (fun _ _ _ q=>q) ?_
 rintro _ h1 hx1 ⟨rfl,hn1,gp,gx⟩
 have eA:({hA with log:=[]}:Heap).next=H.next+2:=A5
 rw[eA]at hn1 gp gx
 rw[eA]
 have B1:∀z,z<H.next→z≠l→h1.get z=H.get z:=fun z hz hne=>(hx1.old z (by omega)).trans (A1 z hz hne)
 have B2:h1.get l=some (.loop [(3, .pointer (some ⟨p3,0,none⟩)),(7, .pointer (some ⟨pm,0,none⟩)),(17,fv)] [18] asgO bodyO 1 .normal):=(hx1.old l (by omega)).trans A2
 have B3:h1.get H.next=some (.cells [.int .i64 a, .int .i64 b] true 1):=(hx1.old _ (by omega)).trans A3
 have B4:h1.get (H.next+1)=some (.cells [.int .i64 0] true 1):=(hx1.old _ (by omega)).trans A4
 have B6:h1.log=[]:=hx1.log.trans A6
 have B7:WF h1:=hx1.wf A7
 have hlen:kl.length=n:=by have:=hks.len;rw[kcs_length]at this;omega
 clear hx1 A1 A2 A3 A4 A6 A7
 refine y3 ?_;refine wE_block ?_
 refine inner_range (q:=H.next+1) (all:=leavesL a b kl 0) (O:=fun d=> .cells [.int .i64 (leafM ws d 0)] true 1) (round_ok B2) (by rfl) (by rw[F.f140];rfl) (by omega) (by omega) B6 B7 ?_ (by omega) ?_
 ·refine leaves140 F.p F.f140 (.of (B7.push _)) (pb:=H.next+2) (bb:=bb) (px:=H.next+3) (l':=h1.next) (N:=h1.next+1) (lo:=H.next+1) (a:=a) (b:=b) (n:=n) (c:=c) (sa:=sa) (l:=kl) (v1:= .int .i64 kerf) (v2:= .slice wa n wc) (Nat.le_refl _) (by show H.next+1≤h1.next+1;omega) hn
   (PW.yld F.p (by omega) fun done x H' hx hr' hlt hP=> ?_) ((z4 (by omega)).trans gp) ((z4 (by omega)).trans ((B1 bb k3 n3).trans gb)) (fun d H' hP=> ?_) (fun d H' hP=>(hP.old _ (by omega) (by omega)).trans gx) ⟨fun z hz _=>z4 hz,(z4 (by omega)).trans B4,z3 _ _,Nat.lt_succ_self _⟩
  ·refine FW.mono' (leaf_round F.p hr' (x:=x) (n:=n) (by have:=leaves_idx x hx;omega) hP.loop hP.obj ((hP.old p3 (by omega) (by omega)).trans ((B1 p3 k2 n2).trans g3)) ((hP.old bb (by omega) (by omega)).trans ((B1 bb k3 n3).trans gb)) (SliceOf.agree hws (by omega) fun b0 vs o t hb he=>(hP.old b0 (by omega) (by omega)).trans (B1 b0 hb (ne_loop he gl)))) ?_
   rintro r H'' ⟨q1,q2,q3,q4⟩
   exact⟨q1,q2,q3,by rw[leafM_snoc];exact q4⟩
  ·have:=hP.nx
   exact SliceOf.agree hks (by omega) fun b0 vs o t hb he=>(hP.old b0 (by omega) (by omega)).trans (B1 b0 hb (ne_loop he gl))
 intro h3 c1 c2 c3 c4 c5
 have D1:∀z,z<H.next→z≠l→h3.get z=H.get z:=fun z hz hne=>(c4 z (by omega) (by omega)).trans (B1 z hz hne)
 have D2:h3.get l=some (.loop [(3, .pointer (some ⟨p3,0,none⟩)),(7, .pointer (some ⟨pm,0,none⟩)),(17,fv)] [18] asgO bodyO 1 .normal):=(c4 l (by omega) (by omega)).trans B2
 have D3:h3.get H.next=some (.cells [.int .i64 a, .int .i64 b] true 1):=(c4 _ (by omega) (by omega)).trans B3
 have D5:h3.get p3=some (.cells [.pointer (some ⟨bb,0,none⟩)] true 1):=(D1 p3 k2 n2).trans g3
 clear B1 B2 B3 B4 B6 B7 c4 gp gx
 refine kB_n ?_;refine kS_n ?_;refine wE_seq ?_;refine y4 ?_;refine yL ?_;refine yN ?_
 refine yC ?_
 refine FW.al (cuts105 F.p F.f105 (.of c2) _ a b) (fun _ _ _ q=>q) ?_
 rintro _ h4 hx4 ⟨rfl,hn4,gx4⟩
 have e3:({h3 with log:=[]}:Heap).next=h3.next:=rfl
 rw[e3]at hn4 gx4
 rw[e3]
 have E1:∀z,z<H.next→z≠l→h4.get z=H.get z:=fun z hz hne=>(hx4.old z (by omega)).trans (D1 z hz hne)
 have E2:h4.get l=some (.loop [(3, .pointer (some ⟨p3,0,none⟩)),(7, .pointer (some ⟨pm,0,none⟩)),(17,fv)] [18] asgO bodyO 1 .normal):=(hx4.old l (by omega)).trans D2
 have E3:h4.get H.next=some (.cells [.int .i64 a, .int .i64 b] true 1):=(hx4.old _ (by omega)).trans D3
 have E4:h4.get (H.next+1)=some (.cells [.int .i64 (leafM ws (leavesL a b kl 0) 0)] true 1):=(hx4.old _ (by omega)).trans c5
 have E6:h4.log=[]:=hx4.log.trans c1
 have E7:WF h4:=hx4.wf c2
 clear hx4 D1 D2 D3 D5 c1 c2 c5
 refine y3 ?_;refine wE_block ?_
 refine inner_range (q:=H.next+1) (all:=cutsL a b) (O:=fun d=> .cells [.int .i64 (cutM kerf t a b d (leafM ws (leavesL a b kl 0) 0))] true 1) (round_ok E2) (by rfl) (by rw[F.f141];rfl) (by omega) (by omega) E6 E7 ?_ (by omega) ?_
 ·refine cuts141 F.p F.f141 (.of (E7.push _)) (bx:=h3.next) (l:=h4.next) (N:=h4.next+1) (lo:=H.next+1) (a:=a) (b:=b) (Nat.le_refl _) (by show H.next+1≤h4.next+1;omega) ha hb
   (PW.yld F.p (by omega) fun done x H' hx hr' hlt hP=> ?_) (fun d H' hP=>(hP.old _ (by omega) (by omega)).trans gx4) ⟨fun z hz _=>z4 hz,(z4 (by omega)).trans E4,z3 _ _,Nat.lt_succ_self _⟩
  have hxc:=cuts_of hx
  refine FW.mono' (cut_round F.p F.f106 hr' (x:=x) (t:=t) (by omega) (by omega) ha hb hk (hsum x hx) hP.loop hP.obj ((hP.old p3 (by omega) (by omega)).trans ((E1 p3 k2 n2).trans g3)) ((hP.old pm (by omega) (by omega)).trans ((E1 pm k4 n4).trans gm)) ((hP.old H.next (by omega) (by omega)).trans E3) ((hP.old bb (by omega) (by omega)).trans ((E1 bb k3 n3).trans gb)) ((hP.old mb (by omega) (by omega)).trans ((E1 mb k7 n6).trans gt)) (show pm≠H.next+1 by omega)) ?_
  rintro r H'' ⟨q1,q2,q3,q4⟩
  exact⟨q1,q2,q3,by rw[cutM_snoc];exact q4⟩
 intro h5 c1 c2 c3 c4 c5
 have G1:∀z,z<H.next→z≠l→h5.get z=H.get z:=fun z hz hne=>(c4 z (by omega) (by omega)).trans (E1 z hz hne)
 have G2:h5.get l=some (.loop [(3, .pointer (some ⟨p3,0,none⟩)),(7, .pointer (some ⟨pm,0,none⟩)),(17,fv)] [18] asgO bodyO 1 .normal):=(c4 l (by omega) (by omega)).trans E2
 have G3:h5.get H.next=some (.cells [.int .i64 a, .int .i64 b] true 1):=(c4 _ (by omega) (by omega)).trans E3
 have G7:h5.get pm=some (.cells [.map (some mb)] true 1):=(G1 pm k4 n4).trans gm
 have G8:h5.get mb=some (.map (ents t)):=(G1 mb k7 n6).trans gt
 clear E1 E2 E3 E4 E6 E7 c4 gx4
 refine kB_n ?_;refine kS_n ?_;refine wE_region ?_;refine yL ?_;refine yN ?_;refine yL ?_
 refine wO_val (a_mapUp (x:=(a,b)) (by exact rfl) (by exact rfl) (by exact rfl) G8) ?_
 refine wO_nil ?_;refine y1 ?_;refine kB_n ?_
 refine⟨rfl,⟨_,by(simp(disch:=first|omega|(simp only[z1,z2];omega))only[z3,z4,z5,z6,z7,z1,z2, *];exact rfl),rfl⟩,?_,?_⟩
 ·intro z hz
  rw[log_wr_q c1 k7]at hz
  simp at hz;omega
 ·intro h6 hn6 hag hl6
  refine⟨fun z hz hne=> ?_,(hag mb k7 n6).trans (Heap.get_wr_new G8)⟩
  by_cases hz2:z=l
  ·rw[hz2];exact hl6.trans gl.symm
  ·exact(hag z hz hz2).trans ((z5 hne).trans (G1 z hz hz2))
end Go.A.Pk
end
section
set_option maxRecDepth 100000
namespace Go.A.Pk
variable {T:Nat→Option AFunc}
theorem a_mkMap{base:Nat}{h:Heap}{e:Env}:aop h base e .mkMap=some (.val (.map (some h.next)) (h.push (.map []))):=rfl
def Bd(W:Int)(t:Tab):Prop:=∀e∈t,1≤e.1.1∧1≤e.1.2∧0≤e.2∧e.2≤W*((e.1.1:Int)*(e.1.2:Int))
theorem look_bd{W:Int}:∀{t:Tab} (x:Int×Int),Bd W t→look t x=0∨(1≤x.1∧1≤x.2∧0≤look t x∧look t x≤W*(x.1*x.2))
 |[],_,_=> .inl rfl
 |e::t,x,h=>by
  simp only[look]
  by_cases hk:isKey x e=true
  ·rw[if_pos hk]
   have h1:=h e (List.mem_cons_self ..)
   simp only[isKey,decide_eq_true_eq]at hk
   rw[hk.1,hk.2]
   exact .inr ⟨by omega,by omega,h1.2.2.1,h1.2.2.2⟩
  ·rw[if_neg hk]
   exact look_bd x fun e he=>h e (List.mem_cons_of_mem _ he)
theorem upd_bd{W:Int}{x:Nat×Nat}{v:Int}(hx:1≤x.1∧1≤x.2)(hv:0≤v∧v≤W*((x.1:Int)*(x.2:Int))):∀{t:Tab},Bd W t→Bd W (upd t x v)
 |[],_,e,he=>by
  simp only[upd,List.mem_singleton]at he
  subst he
  exact⟨hx.1,hx.2,hv.1,hv.2⟩
 |e0::t,h,e,he=>by
  simp only[upd]at he
  split at he
  ·rcases List.mem_cons.1 he with rfl|he
   ·exact⟨hx.1,hx.2,hv.1,hv.2⟩
   ·exact h e (List.mem_cons_of_mem _ he)
  ·rcases List.mem_cons.1 he with rfl|he
   ·exact h e (List.mem_cons_self ..)
   ·exact upd_bd hx hv (fun e he=>h e (List.mem_cons_of_mem _ he)) e he
theorem mx_le{a b c:Int}(h1:a≤c)(h2:b≤c):mx a b≤c:=by unfold mx;split<;>assumption
theorem mx_ge{a b:Int}:a≤mx a b∧b≤mx a b:=by unfold mx;split<;>omega
theorem area_mono{W a b c d:Int}(hW:0≤W)(ha:0≤a)(hab:a≤c)(hb:0≤b)(hbd:b≤d):W*(a*b)≤W*(c*d):=
 Int.mul_le_mul_of_nonneg_left (Int.le_trans (Int.mul_le_mul_of_nonneg_right hab hb) (Int.mul_le_mul_of_nonneg_left hbd (by omega))) hW
theorem cut_bd{W kerf:Int}{t:Tab}(hW:0≤W)(hk:0≤kerf)(ht:Bd W t){a b:Nat}{x:Nat×Nat}(hx:x∈cutsL a b):0≤look t (oneB x a b)+look t (twoB kerf x a b)∧look t (oneB x a b)+look t (twoB kerf x a b)≤W*((a:Int)*(b:Int)):=by
 have h1:=look_bd (oneB x a b) ht
 have h2:=look_bd (twoB kerf x a b) ht
 have h0:0≤W*((a:Int)*(b:Int)):=Int.mul_nonneg hW (Int.mul_nonneg (by omega) (by omega))
 rcases cuts_of hx with⟨e3,hl,hu⟩|⟨e4,hl,hu⟩
 ·simp only[oneB,twoB,e3,if_true]at h1 h2⊢
  rcases h1 with h1|h1
  ·rcases h2 with h2|h2
   ·rw[h1,h2];omega
   ·have:=area_mono (W:=W) (a:=(a:Int)-x.2-kerf) (b:=b) (c:=a) (d:=b) hW (by omega) (by omega) (by omega) (Int.le_refl _)
    rw[h1];omega
  ·rcases h2 with h2|h2
   ·have:=area_mono (W:=W) (a:=(x.2:Int)) (b:=b) (c:=a) (d:=b) hW (by omega) (by omega) (by omega) (Int.le_refl _)
    rw[h2];omega
   ·have e:W*((x.2:Int)*b)+W*(((a:Int)-x.2-kerf)*b)=W*(((x.2:Int)+((a:Int)-x.2-kerf))*b):=by rw[Int.add_mul,Int.mul_add]
    have:=area_mono (W:=W) (a:=(x.2:Int)+((a:Int)-x.2-kerf)) (b:=b) (c:=a) (d:=b) hW (by omega) (by omega) (by omega) (Int.le_refl _)
    omega
 ·have n3:¬x.1=3:=by omega
  simp only[oneB,twoB,if_neg n3]at h1 h2⊢
  rcases h1 with h1|h1
  ·rcases h2 with h2|h2
   ·rw[h1,h2];omega
   ·have:=area_mono (W:=W) (a:=a) (b:=(b:Int)-x.2-kerf) (c:=a) (d:=b) hW (by omega) (Int.le_refl _) (by omega) (by omega)
    rw[h1];omega
  ·rcases h2 with h2|h2
   ·have:=area_mono (W:=W) (a:=a) (b:=(x.2:Int)) (c:=a) (d:=b) hW (by omega) (Int.le_refl _) (by omega) (by omega)
    rw[h2];omega
   ·have e:W*((a:Int)*x.2)+W*((a:Int)*((b:Int)-x.2-kerf))=W*((a:Int)*((x.2:Int)+((b:Int)-x.2-kerf))):=by rw[Int.mul_add (a:Int),Int.mul_add W]
    have:=area_mono (W:=W) (a:=a) (b:=(x.2:Int)+((b:Int)-x.2-kerf)) (c:=a) (d:=b) hW (by omega) (Int.le_refl _) (by omega) (by omega)
    omega
theorem leafM_bd{W B:Int}{ws:List Int}(hws:∀x∈ws,0≤x∧x≤W)(hWB:W≤B)(hW:0≤W):∀{xs:List (Nat×Nat)} {m:Int},0≤m→m≤B→0≤leafM ws xs m∧leafM ws xs m≤B
 |[],m,h1,h2=>⟨h1,h2⟩
 |x::xs,m,h1,h2=>by
  have hx:0≤ws.getD x.2 0∧ws.getD x.2 0≤W:=by
   by_cases hi:x.2<ws.length
   ·have:=hws _ (List.getElem_mem hi)
    simpa[List.getD,List.getElem?_eq_getElem hi]using this
   ·have:ws.getD x.2 0=0:=by simp[List.getD,List.getElem?_eq_none (by omega:ws.length≤x.2)]
    rw[this];omega
  exact leafM_bd hws hWB hW (xs:=xs) (m:=mx m (ws.getD x.2 0)) (Int.le_trans h1 mx_ge.1) (mx_le h2 (by omega))
theorem cutM_bd{B kerf:Int}{t:Tab}{a b:Nat}:∀{xs:List (Nat×Nat)} {m:Int},(∀x∈xs,look t (oneB x a b)+look t (twoB kerf x a b)≤B)→0≤m→m≤B→0≤cutM kerf t a b xs m∧cutM kerf t a b xs m≤B
 |[],m,_,h1,h2=>⟨h1,h2⟩
 |x::xs,m,hx,h1,h2=>cutM_bd (xs:=xs) (m:=mx m _) (fun y hy=>hx y (List.mem_cons_of_mem _ hy)) (Int.le_trans h1 mx_ge.1) (mx_le h2 (hx x (List.mem_cons_self ..)))
theorem val_bd{W kerf:Int}{ws:List Int}{kl:List Kd}{t:Tab}(hW:0≤W)(hk:0≤kerf)(hws:∀x∈ws,0≤x∧x≤W)(ht:Bd W t){a b:Nat}(ha:1≤a)(hb:1≤b):0≤val kerf ws kl t a b∧val kerf ws kl t a b≤W*((a:Int)*(b:Int)):=by
 have hWB:W≤W*((a:Int)*(b:Int)):=by
  have:=area_mono (W:=W) (a:=1) (b:=1) (c:=a) (d:=b) hW (by omega) (by omega) (by omega) (by omega)
  omega
 obtain⟨h1,h2⟩:=leafM_bd (xs:=leavesL a b kl 0) (m:=0) hws hWB hW (Int.le_refl _) (by omega)
 exact cutM_bd (fun x hx=>(cut_bd hW hk ht hx).2) h1 h2
def tabL(kerf:Int)(ws:List Int)(kl:List Kd)(done:List (Nat×Nat)):Tab:=done.foldl (fun t x=>upd t x (val kerf ws kl t x.1 x.2)) []
theorem tabL_snoc(kerf:Int)(ws:List Int)(kl:List Kd)(done:List (Nat×Nat))(x:Nat×Nat):tabL kerf ws kl (done++[x])=upd (tabL kerf ws kl done) x (val kerf ws kl (tabL kerf ws kl done) x.1 x.2):=by simp[tabL]
theorem boards_of:∀{w h:Nat} {x:Nat×Nat},x∈boardsL w h→1≤x.1∧x.1≤w∧1≤x.2∧x.2≤h
 |0,_,_,hx=>by cases hx
 |w+1,h,x,hx=>by
  simp only[boardsL,List.mem_append]at hx
  rcases hx with hx|hx
  ·have:=boards_of hx;omega
  ·have:=row_of hx;omega
set_option maxHeartbeats 8000000 in
theorem best83(F:FnsV T){h:Heap}(hr:Rdy h){bb n c wc w ht:Nat}{sa wa:Option Addr}{kerf W:Int}{ws:List Int}{kl:List Kd}(hw:w<1000)(hh:ht<1000)(hn:n<1000)(hk:0≤kerf∧kerf≤100)(hW:0≤W∧W≤1000000000)(hws0:∀x∈ws,0≤x∧x≤W)
 (gb:h.get bb=some (.cells [.slice sa n c, .int .i64 kerf, .slice wa n wc] true 1))(hks:SliceOf h 5 (.slice sa n c) n (kcs kl))(hws:SliceOf h 1 (.slice wa n wc) n (ints ws)):
 Al T 83 [.pointer (some ⟨bb,0,none⟩), .int .i64 w, .int .i64 ht] h fun v h'=>∃r,v= .map (some r)∧h'.get r=some (.map (ents (tabL kerf ws kl (boardsL w ht)))):=by
 refine .of F.p F.f83 hr (fun v h1 hv q=>by obtain⟨r,rfl,_⟩:=q;cases hv) ?_
 have kb:=WF.get_lt hr.wf gb
 refine y4 ?_;refine yB ?_;refine yM ?_;refine y3 ?_;refine y4 ?_
 refine wO_val a_mkMap ?_
 refine wO_val a_new ?_;refine yS ?_
 refine y3 ?_;refine wE_seq ?_;refine y4 ?_;refine yM ?_;refine yM ?_
 refine WO.gen ?_
 intro hA hAe
 have A1:∀z,z<h.next→hA.get z=h.get z:=fun z hz=>by rw[hAe];simp(disch:=first|omega|(simp only[z1,z2];omega))only[z5,z4]
 have A2:hA.get h.next=some (.cells [.pointer (some ⟨bb,0,none⟩)] true 1):=by rw[hAe];(simp(disch:=first|omega|(simp only[z1,z2];omega))only[z3,z4,z5,z6,z7,z1,z2, *];exact rfl)
 have A3:hA.get (h.next+1)=some (.map []):=by rw[hAe];(simp(disch:=first|omega|(simp only[z1,z2];omega)|(simp only[z1,z2];done)|fail)only[z8,z4,z5,z9,z7,z1,z2, *];done)
 have A4:hA.get (h.next+2)=some (.cells [.map (some (h.next+1))] true 1):=by rw[hAe];(simp(disch:=first|omega|(simp only[z1,z2];omega)|(simp only[z1,z2];done)|fail)only[z8,z4,z5,z9,z7,z1,z2, *];exact rfl)
 have A5:hA.next=h.next+3:=by rw[hAe];rfl
 have A6:hA.log=[]:=by rw[hAe];simp(disch:=first|omega|(simp only[z1,z2];omega))only[Heap.log_wr_new,Heap.log_push];exact hr.log
 have A7:WF hA:=by rw[hAe];exact(((hr.wf.push _).push _).push _).as (AS.wr _ _ _ _)
 clear hAe
 refine yC ?_
 refine FW.al (boards94 F.p F.f94 (.of A7) w ht) (fun _ _ _ q=>q) ?_
 rintro _ h1 hx1 ⟨rfl,hn1,gp,gx⟩
 have eA:({hA with log:=[]}:Heap).next=h.next+3:=A5
 rw[eA]at hn1 gp gx
 rw[eA]
 have B1:∀z,z<h.next→h1.get z=h.get z:=fun z hz=>(hx1.old z (by omega)).trans (A1 z hz)
 have B2:h1.get h.next=some (.cells [.pointer (some ⟨bb,0,none⟩)] true 1):=(hx1.old _ (by omega)).trans A2
 have B3:h1.get (h.next+1)=some (.map []):=(hx1.old _ (by omega)).trans A3
 have B4:h1.get (h.next+2)=some (.cells [.map (some (h.next+1))] true 1):=(hx1.old _ (by omega)).trans A4
 have B6:h1.log=[]:=hx1.log.trans A6
 have B7:WF h1:=hx1.wf A7
 clear hx1 A1 A2 A3 A4 A6 A7
 refine y3 ?_;refine wE_block ?_
 refine inner_range (q:=h.next+1) (all:=boardsL w ht) (O:=fun d=> .map (ents (tabL kerf ws kl d))) rfl (by rfl) (by rw[F.f136];rfl) (by omega) (by omega) B6 B7 ?_ (by omega) ?_
 ·have Y:Yld T (h.next+1) (h1.next+1) h1.next boardV (boardsL w ht) fun d H=>PW h1.next (h.next+1) h1 (.loop [(3, .pointer (some ⟨h.next,0,none⟩)),(7, .pointer (some ⟨h.next+2,0,none⟩)),(17,fn2 136 (h.next+3) (h.next+4))] [18] asgO bodyO 0 .normal) (fun d=> .map (ents (tabL kerf ws kl d))) d H∧Bd W (tabL kerf ws kl d):=by
   refine⟨fun done x H hx hrH hN hP=> ?_,fun d H H' hP hN hag=>⟨PW.stable (by omega) d H H' hP.1 hN hag,hP.2⟩⟩
   obtain⟨hP,hB⟩:=hP
   have hxb:=boards_of hx
   have hV:=val_bd (kl:=kl) hW.1 hk.1 hws0 hB hxb.1 hxb.2.2.1
   obtain⟨x1,x2⟩:=x
   simp only at hxb hV
   refine FW.mono' (FW.withAS F.p (best_round F hrH (a:=x1) (b:=x2) (t:=tabL kerf ws kl done) (by omega) (by omega) hn hk (fun y hy=> ?_) hP.loop ((hP.old _ (by omega) (by omega)).trans B2) ((hP.old _ (by omega) (by omega)).trans B4) hP.obj ((hP.old bb (by omega) (by omega)).trans ((B1 bb kb).trans gb)) (SliceOf.agree hks (by omega) fun b0 vs o t hb he=>(hP.old b0 (by omega) (by omega)).trans (B1 b0 hb)) (SliceOf.agree hws (by omega) fun b0 vs o t hb he=>(hP.old b0 (by omega) (by omega)).trans (B1 b0 hb))) hrH.log) ?_
   ·have h1:=cut_bd hW.1 hk.1 hB hy
    have h2:W*((x1:Int)*(x2:Int))≤1000000000*(1000*1000):=Int.le_trans (area_mono (W:=W) (a:=x1) (b:=x2) (c:=1000) (d:=1000) hW.1 (by omega) (by omega) (by omega) (by omega)) (Int.mul_le_mul_of_nonneg_right hW.2 (by omega))
    omega
   ·rintro r H' ⟨hA',q1,q2,q3,q4⟩
    refine⟨q1,fun z hz=>by have:=q2 z hz;omega,⟨fun y hy hne=>(q3 y (by omega) hne).trans (hP.old y hy hne),by rw[tabL_snoc];exact q4,(q3 _ (by omega) (by omega)).trans hP.loop,Nat.lt_of_lt_of_le hP.nx hA'.next⟩,?_⟩
    rw[tabL_snoc]
    exact upd_bd ⟨hxb.1,hxb.2.2.1⟩ hV hB
  refine CW.mono (boards136 F.p F.f136 (.of (B7.push _)) (bw:=h.next+3) (bh:=h.next+4) (l:=h1.next) (N:=h1.next+1) (lo:=h.next+1) (w:=w) (ht:=ht) (Nat.le_refl _) (by show h.next+1≤h1.next+1;omega) hw hh Y (fun d H hP=>(hP.1.old _ (by omega) (by omega)).trans gp) (fun d H hP=>(hP.1.old _ (by omega) (by omega)).trans gx)
   ⟨⟨fun z hz _=>z4 hz,(z4 (by omega)).trans B3,z3 _ _,Nat.lt_succ_self _⟩,fun e he=>by cases he⟩) ?_
  rintro r h2 ⟨q1,v,q2,q3,q4,_⟩
  exact⟨q1,v,q2,q3,q4⟩
 intro h3 c1 c2 c3 c4 c5
 have D4:h3.get (h.next+2)=some (.cells [.map (some (h.next+1))] true 1):=(c4 _ (by omega) (by omega)).trans B4
 refine kB_n ?_;refine kS_n ?_;refine y4 ?_;refine yL ?_;refine yM ?_;refine y3 ?_;refine wE_ret ?_
 exact endA_ret (vs:=[.map (some (h.next+1))]) c1 (by rfl) ⟨_,rfl,c5⟩
end Go.A.Pk
end
section
set_option maxRecDepth 100000
namespace Go.A.Pk
variable {T:Nat→Option AFunc}
inductive WslB (lo:Nat) (h:Heap):Value→List Int→Prop
 |nil:WslB lo h (.slice none 0 0) []
 |full {q xs}:lo≤q→q<h.next→h.get q=some (.cells (ints xs) true 1)→xs≠[]→WslB lo h (.slice (some ⟨q,0,none⟩) xs.length UNK) xs
theorem worth_succ{l:List Kd}{i:Nat}{x:Kd}(h:l[i]? =some x):(l.take (i+1)).map (·.worth)=(l.take i).map (·.worth)++[x.worth]:=by
 rw[List.take_add_one,h];simp
def StartO(lo:Nat)(a:Option Addr)(n c:Nat)(kerf:Int)(l:List Kd)(er:Int)(v:Value)(h':Heap):Prop:=∃p,v= .tuple #[.pointer p, .int .i64 er]∧
 (er=0→∃w,p=some ⟨lo+1,0,none⟩∧h'.get (lo+1)=some (.cells [.slice a n c, .int .i64 kerf,w] true 1)∧WslB (lo+2) h' w (l.map (·.worth)))
theorem StartO.gc{lo:Nat}{a:Option Addr}{n c:Nat}{kerf:Int}{l:List Kd}{er:Int}(h:Heap)(v:Value)(h1:Heap)(hv:noRef v=true)(q:StartO lo a n c kerf l er v h1):StartO lo a n c kerf l er v h:=by
 obtain⟨p,rfl,h2⟩:=q
 refine⟨p,rfl,fun he=> ?_⟩
 obtain⟨w,rfl,_⟩:=h2 he
 simp[noRef,flatL,flat,scalL,scal,scal1]at hv
theorem WslB.keep{lo:Nat}{h h':Heap}{v:Value}{xs:List Int}(w:WslB lo h v xs)(hn:h.next≤h'.next)(hg:∀z,lo≤z→z<h.next→h'.get z=h.get z):WslB lo h' v xs:=by
 cases w with
 |nil=>exact .nil
 |full a b c d=>exact .full a (by omega) ((hg _ a b).trans c) d
theorem StartO.logs{lo:Nat}{a:Option Addr}{n c:Nat}{kerf:Int}{l:List Kd}{er:Int}(v:Value)(h':Heap)(m:List Nat)(q:StartO lo a n c kerf l er v h'):StartO lo a n c kerf l er v {h' with log:=m}:=by
 obtain⟨p,h1,h2⟩:=q
 refine⟨p,h1,fun he=> ?_⟩
 obtain⟨w,h3,h4,h5⟩:=h2 he
 exact⟨w,h3,h4,h5.keep (Nat.le_refl _) fun _ _ _=>rfl⟩
theorem WslB.slice{lo:Nat}{h:Heap}{v:Value}{xs:List Int}(w:WslB lo h v xs)(hx:xs.length<1000000):∃a c,v= .slice a xs.length c∧SliceOf h 1 (.slice a xs.length c) xs.length (ints xs):=by
 cases w with
 |nil=>exact⟨none,0,rfl, .nil⟩
 | @full q _ h1 h2 h3 h5=>
   refine⟨some ⟨q,0,none⟩,UNK,rfl, .mem ⟨h2,⟨_,_,_,h3,?_⟩,by simp[ints]⟩ (by unfold UNK;omega)⟩
   rw[ltake_eq,ldrop_eq,List.drop_zero,List.take_of_length_le (by simp[ints])]
set_option maxHeartbeats 4000000 in
theorem startedO75(G:FnsE T){h:Heap}(hr:Rdy h){a:Option Addr}{n c:Nat}{l:List Kd}(hs:SliceOf h 5 (.slice a n c) n (kcs l))(kerf:Int)(hn:n<1000000){v:Value}{m:Nat}{bl:List Bool}(hb:SliceOf h 1 v m (bcs bl))(hm:m<1000000):
 Al T 75 [.agg #[.slice a n c, .int .i64 kerf],v] h (StartO h.next a n c kerf l (startE kerf l bl)):=by
 refine .of G.toFnsA.p G.f75 hr (StartO.gc h) ?_
 have hx:Ext h (h.push (.cells [.slice a n c, .int .i64 kerf] true 1)):=(Ext.refl h).push _
 have hlen:l.length=n:=by have:=hs.len;rw[kcs_length]at this;omega
 refine y4 ?_;refine yB ?_;refine yM ?_;refine yM ?_;refine y3 ?_;refine wE_seq ?_;refine y4 ?_
 refine yN ?_
 refine yC ?_
 refine FW.pu (check66 G.toFnsA (.of (hx.wf hr.wf)) ((hs.ext hx).log []) kerf hn) ?_
 unfold startE
 by_cases hc:chk kerf l=0
 ·rw[if_pos hc,hc]
  refine yM ?_;refine y3 ?_;refine y4 ?_;refine yM ?_;refine yf ?_;refine y3 ?_;refine yX ?_;refine wE_skip ?_;refine kS_n ?_;refine wE_seq ?_;refine y4 ?_;refine yM ?_
  refine yC ?_
  refine FW.pu (contains122 G.toFnsC (.of (hx.wf hr.wf)) ((hb.ext hx).log []) hm) ?_
  cases hbl:bl.all id with
  |false=>
   refine y3 ?_;refine yY ?_;refine y4 ?_;refine yM ?_;refine yM ?_;refine y3 ?_;refine wE_ret ?_;refine kS_r ?_
   exact endA_ret (vs:=[.pointer none, .int .i64 1]) hr.log rfl ⟨_,rfl,fun e=>by cases e⟩
  |true=>
   refine y3 ?_;refine yX ?_;refine wE_skip ?_;refine kS_n ?_;refine y4 ?_
   refine yN ?_;refine wO_val (a_build (by exact rfl)) ?_;refine yB ?_
   refine yM ?_;refine y3 ?_;refine wE_seq ?_;refine y4 ?_;refine yF ?_
   refine yL ?_;refine yD ?_;refine yM ?_;refine y3 ?_;refine wE_block ?_
   refine wE_loop (fun k e ds h'=>∃(i:Nat) (w:Value) (xs:List Int),i≤n∧k=n-i∧e=[(7, .pointer (some ⟨h.next+1,0,none⟩)),(21, .slice a n c),(22, .int .i64 n),(23, .int .i64 i)]∧ds=[]∧Ext (h.push (.cells [.slice a n c, .int .i64 kerf] true 1)) h'∧
    h.next+1<h'.next∧h'.get (h.next+1)=some (.cells [.slice a n c, .int .i64 kerf,w] true 1)∧WslB (h.next+2) h' w xs∧Nonempty (PLift (xs=(l.take i).map (·.worth))))
    ⟨0, .slice none 0 0,[],Nat.zero_le _,rfl,rfl,rfl,(Ext.refl _).push _,Nat.lt_succ_self _,by(simp(disch:=first|omega|(simp only[z1,z2];omega)|(simp only[z1,z2];done)|fail)only[z8,z4,z5,z9,z7,z1,z2, *];exact rfl), .nil,⟨⟨rfl⟩⟩⟩ ?_
   rintro k e ds hi ⟨i,w,xs,hin,rfl,rfl,rfl,hx1,hnx,hW,hw,⟨⟨hxs⟩⟩⟩
   by_cases hlt:i<n
   ·obtain⟨x,hxl⟩:∃x,l[i]? =some x:=⟨l[i],List.getElem?_eq_getElem (by omega)⟩
    have hs':=hs.ext (((Ext.refl h).push _).trans hx1)
    rcases hs'.inv with⟨_,_,h0,_⟩|⟨b,o,cap',hv,s,hcap⟩
    ·omega
    ·cases hv
     obtain⟨vs,own,t,g1,g2⟩:=slice_elem s hxl
     have hx3:=(hx1.push (.cells [.int .i64 0, .int .i64 0, .int .i64 0, .int .i64 0, .bool false] true 1)).wr (base:=h.next) (x:=hi.next) (o:= .cells (kc x) true 1) hx1.next (by omega)
     have hx4:=hx3.push (.cells [.int .i64 x.worth] true 1)
     have hsu:=worth_succ hxl
     have hxl2:xs.length=i:=by rw[hxs];simp;omega
     have hsu2:(l.take (i+1)).map (·.worth)=xs++[x.worth]:=by rw[hsu,←hxs]
     have hid:PLift (xs.length=i∧(l.take (i+1)).map (·.worth)=xs++[x.worth]):=⟨hxl2,hsu2⟩
     clear hsu hxs hxl2 hsu2
     cases hw with
     |nil=>
      refine y4 ?_;refine yt ?_;refine y3 ?_;refine wE_seq ?_;refine yY ?_;refine wE_skip ?_;refine kS_n ?_;refine wE_seq ?_;refine wE_block ?_;refine y4 ?_;refine wO_val (a_iaddrS (by exact rfl) (by exact rfl) (by omega)) ?_
      refine wO_val (a_loadN (by exact rfl) g1 g2 (by exact rfl)) ?_
      refine wO_val a_new ?_;refine yS ?_;refine y3 ?_;refine wE_draw ?_;refine qM ?_;refine qM ?_
      refine wD_quiet rfl rfl rfl (by exact rfl) (by exact rfl) (by exact rfl) (a_nilchk (by exact rfl)) ?_;refine qF ?_
      refine qL ?_
      refine qF ?_
      refine qL ?_
      refine wD_new rfl rfl rfl (by exact rfl) (by exact rfl) (by exact rfl) (a_bslice (by exact rfl) (by exact rfl)) (by refine rs_cons (rq_quiet rfl (a_load (by exact rfl) (by(simp(disch:=first|omega|(simp only[z1,z2];omega))only[z3,z4,z5,z6,z7,z1,z2, *];exact rfl)) (by exact rfl)) (by exact sv_int _ _)) ?_;refine rs_cons (rq_quiet rfl (a_faddr (by exact rfl)) (by exact sv_ptr _)) ?_;refine rs_cons (rq_quiet rfl (a_load (by exact rfl) (by(simp(disch:=first|omega|(simp only[z1,z2];omega))only[z3,z4,z5,z6,z7,z1,z2, *];exact rfl)) (by exact rfl)) (by exact sv_slice _ _ _)) ?_;refine rs_cons (rq_quiet rfl (a_faddr (by exact rfl)) (by exact sv_ptr _)) ?_;refine rs_cons (rq_quiet rfl (a_nilchk (by exact rfl)) (by exact sv_ptr _)) ?_;refine rs_cons (rq_quiet rfl (a_mov (by exact rfl)) (by exact sv_ptr _)) ?_;refine rs_cons (rq_quiet rfl (a_mov (by exact rfl)) (by exact sv_ptr _)) ?_;exact rs_nil) ?_
      refine wD_app_nil (n:=1) rfl rfl rfl (by exact rfl) (by exact rfl) (by exact rfl) (src_log (src_slice (cs:=[.int .i64 x.worth]) (by(simp(disch:=first|omega|(simp only[z1,z2];omega)|(simp only[z1,z2];done)|fail)only[z8,z4,z5,z9,z7,z1,z2, *];exact rfl)) rfl rfl)) (by omega) (by omega) (by apply ra_dropC rfl;apply ra_dropC rfl;apply ra_dropC rfl;apply ra_dropC rfl;apply ra_dropC rfl;apply ra_dropC rfl;apply ra_dropC rfl;apply ra_keepC rfl (rq_quiet rfl (a_mov (by exact rfl)) (by exact sv_ptr _)) rfl;exact ra_nil) ?_
      refine wD_quiet rfl rfl rfl (by exact rfl) (by exact rfl) (by exact rfl) (a_nilchk (by exact rfl)) ?_;refine qF ?_
      refine wD_store rfl rfl rfl (by exact rfl) (by exact rfl) (by exact rfl) (by(simp(disch:=first|omega|(simp only[z1,z2];omega))only[z3,z4,z5,z6,z7,z1,z2, *];exact rfl)) (by exact rfl) (by exact rfl) (by(simp only[z1,z2];omega)) (by omega) (by apply ra_dropC rfl;apply ra_dropC rfl;apply ra_dropC rfl;exact ra_nil) ?_
      refine wD_nil ?_;refine y1 ?_;refine kB_n ?_;refine kS_n ?_;refine wE_region ?_;refine yinc ?_;refine yM ?_;refine y3 ?_
      obtain⟨hxl2,hsu2⟩:=hid
      obtain rfl:i=0:=hxl2.symm
      refine⟨n-1,by omega,1, .slice (some ⟨hi.next+2,0,none⟩) 1 UNK,[x.worth],by omega,rfl,rfl,rfl,?_,?_,?_,?_,?_⟩
      ·exact(hx4.push (.cells [.int .i64 x.worth] true 1)).wr (Nat.le_refl _) (Nat.le_succ _)
      ·(simp only[z1,z2];omega)
      ·(simp(disch:=first|omega|(simp only[z1,z2];omega))only[z3,z4,z5,z6,z7,z1,z2, *];exact rfl)
      ·exact .full (xs:=[x.worth]) (by omega) (by(simp only[z1,z2];omega)) (by(simp(disch:=first|omega|(simp only[z1,z2];omega)|(simp only[z1,z2];done)|fail)only[z8,z4,z5,z9,z7,z1,z2, *];exact rfl)) (by simp)
      ·exact⟨⟨hsu2.symm⟩⟩
     | @full q _ h1 h2 h3 h5=>
       have h4:(ints xs).length=xs.length:=by simp[ints]
       have h7:xs.length<1000000:=by have:=hid.down.1;omega
       have h6:xs.length≠0:=by cases xs with|nil=>exact absurd rfl h5|cons _ _=>simp
       have hwr:lcat (ints xs) [.int .i64 x.worth]=ints (xs++[x.worth]):=by rw[lcat_eq];simp[ints]
       refine y4 ?_;refine yt ?_;refine y3 ?_;refine wE_seq ?_;refine yY ?_;refine wE_skip ?_;refine kS_n ?_;refine wE_seq ?_;refine wE_block ?_;refine y4 ?_;refine wO_val (a_iaddrS (by exact rfl) (by exact rfl) (by omega)) ?_
       refine wO_val (a_loadN (by exact rfl) g1 g2 (by exact rfl)) ?_
       refine wO_val a_new ?_;refine yS ?_;refine y3 ?_;refine wE_draw ?_;refine qM ?_;refine qM ?_
       refine wD_quiet rfl rfl rfl (by exact rfl) (by exact rfl) (by exact rfl) (a_nilchk (by exact rfl)) ?_;refine qF ?_
       refine qL ?_
       refine qF ?_
       refine qL ?_
       refine wD_new rfl rfl rfl (by exact rfl) (by exact rfl) (by exact rfl) (a_bslice (by exact rfl) (by exact rfl)) (by refine rs_cons (rq_quiet rfl (a_load (by exact rfl) (by(simp(disch:=first|omega|(simp only[z1,z2];omega))only[z3,z4,z5,z6,z7,z1,z2, *];exact rfl)) (by exact rfl)) (by exact sv_int _ _)) ?_;refine rs_cons (rq_quiet rfl (a_faddr (by exact rfl)) (by exact sv_ptr _)) ?_;refine rs_cons (rq_quiet rfl (a_load (by exact rfl) (by(simp(disch:=first|omega|(simp only[z1,z2];omega))only[z3,z4,z5,z6,z7,z1,z2, *];exact rfl)) (by exact rfl)) (by exact sv_slice _ _ _)) ?_;refine rs_cons (rq_quiet rfl (a_faddr (by exact rfl)) (by exact sv_ptr _)) ?_;refine rs_cons (rq_quiet rfl (a_nilchk (by exact rfl)) (by exact sv_ptr _)) ?_;refine rs_cons (rq_quiet rfl (a_mov (by exact rfl)) (by exact sv_ptr _)) ?_;refine rs_cons (rq_quiet rfl (a_mov (by exact rfl)) (by exact sv_ptr _)) ?_;exact rs_nil) ?_
       refine wD_app_open (n:=1) (vs:=ints xs) (ws:=ints (xs++[x.worth])) rfl rfl rfl (by exact rfl) (by exact rfl) (by exact rfl) (src_log (src_slice (cs:=[.int .i64 x.worth]) (by(simp(disch:=first|omega|(simp only[z1,z2];omega)|(simp only[z1,z2];done)|fail)only[z8,z4,z5,z9,z7,z1,z2, *];exact rfl)) rfl rfl)) (by omega) (by(simp(disch:=first|omega|(simp only[z1,z2];omega))only[z3,z4,z5,z6,z7,z1,z2, *];done)) (by omega) (by omega) rfl (by omega) hwr (by(simp only[z1,z2];omega)) (by omega) (by apply ra_dropC rfl;apply ra_dropC rfl;apply ra_dropC rfl;apply ra_dropC rfl;apply ra_dropC rfl;apply ra_dropC rfl;apply ra_dropC rfl;apply ra_keepC rfl (rq_quiet rfl (a_mov (by exact rfl)) (by exact sv_ptr _)) rfl;exact ra_nil) ?_
       refine wD_quiet rfl rfl rfl (by exact rfl) (by exact rfl) (by exact rfl) (a_nilchk (by exact rfl)) ?_;refine qF ?_
       refine wD_store rfl rfl rfl (by exact rfl) (by exact rfl) (by exact rfl) (by(simp(disch:=first|omega|(simp only[z1,z2];omega))only[z3,z4,z5,z6,z7,z1,z2, *];exact rfl)) (by exact rfl) (by exact rfl) (by(simp only[z1,z2];omega)) (by omega) (by apply ra_dropC rfl;apply ra_dropC rfl;apply ra_dropC rfl;exact ra_nil) ?_
       refine wD_nil ?_;refine y1 ?_;refine kB_n ?_;refine kS_n ?_;refine wE_region ?_;refine yinc ?_;refine yM ?_;refine y3 ?_
       have hxi:=hid.down.1
       refine⟨n-(i+1),by omega,i+1, .slice (some ⟨hi.next+2,0,none⟩) (xs.length+1) UNK,xs++[x.worth],by omega,rfl,rfl,rfl,?_,?_,?_,?_,?_⟩
       ·exact((hx4.wr (x:=q) (base:=h.next) (o:= .dead) (show h.next+1≤q by omega) (by omega)).push (.cells (ints (xs++[x.worth])) true 1)).wr (Nat.le_refl _) (Nat.le_succ _)
       ·(simp only[z1,z2];omega)
       ·(simp(disch:=first|omega|(simp only[z1,z2];omega))only[z3,z4,z5,z6,z7,z1,z2, *];exact rfl)
       ·have:=WslB.full (lo:=h.next+2) (q:=hi.next+2) (xs:=xs++[x.worth]) (h:=(((((hi.push (.cells [.int .i64 0, .int .i64 0, .int .i64 0, .int .i64 0, .bool false] true 1)).wr h.next hi.next (.cells (kc x) true 1)).push (.cells [.int .i64 x.worth] true 1)).wr h.next q .dead).push (.cells (ints (xs++[x.worth])) true 1)).wr h.next (h.next+1) (.cells [.slice (some ⟨b,o,none⟩) n c, .int .i64 kerf, .slice (some ⟨hi.next+2,0,none⟩) (xs.length+1) UNK] true 1)) (by omega) (by(simp only[z1,z2];omega)) (by(simp(disch:=first|omega|(simp only[z1,z2];omega)|(simp only[z1,z2];done)|fail)only[z8,z4,z5,z9,z7,z1,z2, *];done)) (by simp)
        rw[List.length_append]at this
        exact this
       ·exact⟨⟨hid.down.2.symm⟩⟩
   ·obtain rfl:i=n:=by omega
    refine y4 ?_;refine yf ?_;refine y3 ?_;refine wE_seq ?_;refine yX ?_;refine wE_exit ?_;refine kS_e ?_;refine kS_e ?_;refine kB_e ?_;refine kS_n ?_
    refine y4 ?_;refine yM ?_;refine yM ?_;refine yM ?_;refine y3 ?_;refine wE_ret ?_
    refine endA_ret (vs:=[.pointer (some ⟨h.next+1,0,none⟩), .int .i64 0]) (hx1.log.trans hr.log) rfl ⟨_,rfl,fun _=> ?_⟩
    rw[List.take_of_length_le (by omega)]at hxs
    obtain rfl:xs=l.map (·.worth):=hxs
    exact⟨w,rfl,hW,hw⟩
 ·rw[if_neg hc]
  refine yM ?_;refine y3 ?_;refine y4 ?_;refine yM ?_;refine yt ?_;refine y3 ?_;refine yY ?_;refine y4 ?_;refine yM ?_;refine yM ?_;refine yM ?_;refine y3 ?_;refine wE_ret ?_;refine kS_r ?_
  exact endA_ret (vs:=[.pointer none, .int .i64 (chk kerf l)]) hr.log rfl ⟨_,rfl,fun e=>(hc e).elim⟩
def StartQ(a:Option Addr)(n c:Nat)(kerf:Int)(l:List Kd)(er:Int)(v:Value)(h':Heap):Prop:=∃p,v= .tuple #[.pointer p, .int .i64 er]∧
 (er=0→∃bb wa wc,p=some ⟨bb,0,none⟩∧h'.get bb=some (.cells [.slice a n c, .int .i64 kerf, .slice wa n wc] true 1)∧SliceOf h' 1 (.slice wa n wc) n (ints (l.map (·.worth))))
theorem StartQ.gc{a:Option Addr}{n c:Nat}{kerf:Int}{l:List Kd}{er:Int}(h:Heap)(v:Value)(h1:Heap)(hv:noRef v=true)(q:StartQ a n c kerf l er v h1):StartQ a n c kerf l er v h:=by
 obtain⟨p,rfl,h2⟩:=q
 refine⟨p,rfl,fun he=> ?_⟩
 obtain⟨bb,wa,wc,rfl,_⟩:=h2 he
 simp[noRef,flatL,flat,scalL,scal,scal1]at hv
set_option maxHeartbeats 4000000 in
theorem startedB75(G:FnsE T){h:Heap}(hr:Rdy h){a:Option Addr}{n c:Nat}{l:List Kd}(hs:SliceOf h 5 (.slice a n c) n (kcs l))(kerf:Int)(hn:n<1000000){v:Value}{m:Nat}{bl:List Bool}(hb:SliceOf h 1 v m (bcs bl))(hm:m<1000000):
 Al T 75 [.agg #[.slice a n c, .int .i64 kerf],v] h (StartQ a n c kerf l (startE kerf l bl)):=by
 have hlen:l.length=n:=by have:=hs.len;rw[kcs_length]at this;omega
 refine CW.mono (startedO75 G hr hs kerf hn hb hm) fun r h' ⟨hx,v,hv,q⟩=>⟨hx,v,hv,?_⟩
 obtain⟨p,rfl,h2⟩:=q
 refine⟨p,rfl,fun he=> ?_⟩
 obtain⟨w,rfl,g,s⟩:=h2 he
 have e:(l.map (·.worth)).length=n:=by rw[List.length_map,hlen]
 obtain⟨a2,c2,rfl,s2⟩:=s.slice (by omega)
 rw[e]at g s2
 exact⟨_,a2,c2,rfl,g,s2⟩
end Go.A.Pk
end
section
set_option maxRecDepth 100000
namespace Go.A.Pk
variable {T:Nat→Option AFunc}
structure FnsW (T:Nat→Option AFunc):Prop extends FnsE T,FnsV T where
 f76:T 76=some f76
 f32:T 32=some f32
def OnB(w ht:Int):Prop:=(1≤w∧w≤16)∧(1≤ht∧ht≤16)
instance(w ht:Int):Decidable (OnB w ht):=by unfold OnB;infer_instance
theorem board76(F:FnsW T){h:Heap}(hr:Rdy h)(w ht:Int):Pu T 76 [.int .i64 w, .int .i64 ht] h (.bool (decide (OnB w ht))):=by
 refine .of F.toFnsE.toFnsA.p F.f76 hr rfl ?_
 by_cases c1:1≤w∧w≤16
 ·by_cases c2:1≤ht∧ht≤16
  ·rw[decide_eq_true (show OnB w ht from⟨c1,c2⟩)]
   refine y4 ?_;refine yM ?_;refine y3 ?_;refine y4 ?_;refine yM ?_
   refine yC ?_
   refine FW.pu (in77T F.toFnsE.toFnsA.p F.toFnsE.toFnsA.f77 (.of hr.wf) c1) ?_
   refine yM ?_;refine yO ?_;refine yM ?_;refine yO ?_
   refine yC ?_
   refine FW.pu (in77T F.toFnsE.toFnsA.p F.toFnsE.toFnsA.f77 (.of hr.wf) c2) ?_
   refine yT ?_;refine yM ?_;refine y3 ?_;refine wE_ret ?_
   exact endP_ret hr.log rfl rfl
  ·rw[decide_eq_false (show¬OnB w ht from fun q=>c2 q.2)]
   refine y4 ?_;refine yM ?_;refine y3 ?_;refine y4 ?_;refine yM ?_
   refine yC ?_
   refine FW.pu (in77T F.toFnsE.toFnsA.p F.toFnsE.toFnsA.f77 (.of hr.wf) c1) ?_
   refine yM ?_;refine yO ?_;refine yM ?_;refine yO ?_
   refine yC ?_
   refine FW.pu (in77F F.toFnsE.toFnsA.p F.toFnsE.toFnsA.f77 (.of hr.wf) c2) ?_
   refine yT ?_;refine yM ?_;refine y3 ?_;refine wE_ret ?_
   exact endP_ret hr.log rfl rfl
 ·rw[decide_eq_false (show¬OnB w ht from fun q=>c1 q.1)]
  refine y4 ?_;refine yM ?_;refine y3 ?_;refine y4 ?_;refine yM ?_
  refine yC ?_
  refine FW.pu (in77F F.toFnsE.toFnsA.p F.toFnsE.toFnsA.f77 (.of hr.wf) c1) ?_
  refine yM ?_;refine yP ?_;refine yP ?_;refine yU ?_;refine yM ?_;refine y3 ?_;refine wE_ret ?_
  exact endP_ret hr.log rfl rfl
theorem StartQ.logs{a:Option Addr}{n c:Nat}{kerf:Int}{l:List Kd}{er:Int}(v:Value)(h':Heap)(m:List Nat)(q:StartQ a n c kerf l er v h'):StartQ a n c kerf l er v {h' with log:=m}:=by
 obtain⟨p,h1,h2⟩:=q
 refine⟨p,h1,fun e=> ?_⟩
 obtain⟨bb,wa,wc,q1,q2,q3⟩:=h2 e
 exact⟨bb,wa,wc,q1,q2,q3.log _⟩
def bestV(kerf:Int)(l:List Kd)(w ht:Int):Int:=look (tabL kerf (l.map (·.worth)) l (boardsL w.toNat ht.toNat)) (w,ht)
def bestR(kerf:Int)(l:List Kd)(w ht:Int):Value:= .tuple #[.int .i64 (if asked kerf l (OnB w ht)=0 then bestV kerf l w ht else 0), .int .i64 (asked kerf l (OnB w ht))]
end Go.A.Pk
end
section
set_option maxRecDepth 100000
namespace Go.A.Pk
variable {T:Nat→Option AFunc}
def Nought(x:Int×Int):Prop:=x.1<1∨x.2<1
instance(x:Int×Int):Decidable (Nought x):=by unfold Nought;infer_instance
def never:Int:= -1099511627776
def leafW(ws:List Int)(kind:Nat)(x:Nat×Nat):Int:=if x.2=kind then ws.getD kind 0 else never
end Go.A.Pk
end
section
set_option maxRecDepth 100000
namespace Go.A.Pk
variable {T:Nat→Option AFunc}
theorem sv_map(a:Option Nat):sameV (.map a) (.map a)=true:=by simp[sameV,same1]
theorem WD.gen{base:Nat}{ops:List AOper}{bf:List Nat}{rs:List Rec}{Q:Env→Heap→Prop}{is:List Nat}{e:Env}{h:Heap}(hK:∀hA,hA=h→WD T base ops bf Q is rs e hA):WD T base ops bf Q is rs e h:=hK h rfl
end Go.A.Pk
end
section
set_option maxRecDepth 100000
namespace Go.A.Pk
variable {T:Nat→Option AFunc}
theorem WE.gen{base:Nat}{rnd:Option Nat}{c:ACode}{Q:XQ}{e:Env}{ds:Dfs}{h:Heap}(hK:∀hA,hA=h→WE T base rnd c Q e ds hA):WE T base rnd c Q e ds h:=hK h rfl
end Go.A.Pk
end
section
set_option maxRecDepth 100000
namespace Go.A.Pk
variable {T:Nat→Option AFunc}
theorem wD_mapUp{base:Nat}{e:Env}{h:Heap}{ops:List AOper}{bf:List Nat}{rs rs':List Rec}{Q:Env→Heap→Prop}{i mask:Nat}{is:List Nat}{dst:Option Nat}{m k v:Operand}{r:Nat}{t:Tab}{x:Nat×Nat}{z:Int}{g:Option (Nat×Bool)}{er:Env}(ho:lget ops i=some ⟨dst, .mapUp true [.i .i64, .i .i64] m k v,g⟩)(hm:lget bf i=some mask)
 (he:keepE e (slotsA ⟨dst, .mapUp true [.i .i64, .i .i64] m k v,g⟩)=er)(hw:wantedA er g=some true)(h1:ev {h with log:=[]} er m=some (.map (some r)))(h2:ev {h with log:=[]} er k=some (boardV x))(h3:ev {h with log:=[]} er v=some (.int .i64 z))(h4:h.get r=some (.map (ents t)))(hlt:r<h.next)
 (hrs:recsAfter (h.wr base r (.map (ents (upd t x z)))) base [r] mask rs=some rs')(H:WD T base ops bf Q is rs' (dstE e dst (.tuple #[])) (h.wr base r (.map (ents (upd t x z))))):WD T base ops bf Q (i::is) rs e h:=
 wD_actH ho hm he hw rfl (a_mapUp (h:={h with log:=[]}) h1 h2 h3 h4) (eq_wrA hlt _) (lg_wr hlt _) hrs H
end Go.A.Pk
end
section
set_option maxRecDepth 100000
namespace Go.A.Pk
variable {T:Nat→Option AFunc}
def asgSa:ACode:=(.region [g 11 (.new [(.int .i64 0),(.int .i64 0)]),⟨none, .store 2 (t 11) (t 27),none⟩] [4,10,11])
def bodySa:ACode:=(.block 1 (.seq (.region [g 28 (.load none (t 4)),g 29 (.load (some 2) (t 11)),g 30 (.call (.func 104) [(t 28),(t 29)])] [4,10,11,30])
 (.block 2 (.rangeFunc (t 30) [31] (.region [g 12 (.new [(.int .u8 0),(.int .i64 0)]),⟨none, .store 2 (t 12) (t 31),none⟩] [4,10,11,12]) (.block 3 (.draw [g 32 (.load none (t 10)),g 33 (.load (some 2) (t 11)),g 34 (.load none (t 10)),g 35 (.load (some 2) (t 11)),g 36 (.lookup true [.i .i64, .i .i64] (.int .i64 0) false (t 34) (t 35)),g 37 (.load none (t 4)),g 38 (.nilchk (t 37)),g 39 (.faddr 2 (t 38)),g 40 (.load none (t 39)),g 41 (.faddr 1 (t 12)),g 42 (.load none (t 41)),g 43 (.iaddrS 1 (t 40) (t 42)),g 44 (.load none (t 43)),g 45 (.minmax true [(t 36),(t 44)]),⟨none, .mapUp true [.i .i64, .i .i64] (t 32) (t 33) (t 45),none⟩] [0,1,2,3,4,5,6,7,8,9,10,11,12,13,14] [0,0,0,0,12,0,32,96,224,0,512,2016,4064,8188,16383] []))))))
def asgSb:ACode:=(.region [g 12 (.new [(.int .u8 0),(.int .i64 0)]),⟨none, .store 2 (t 12) (t 31),none⟩] [4,10,11,12])
def bodySb:ACode:=(.block 3 (.draw [g 32 (.load none (t 10)),g 33 (.load (some 2) (t 11)),g 34 (.load none (t 10)),g 35 (.load (some 2) (t 11)),g 36 (.lookup true [.i .i64, .i .i64] (.int .i64 0) false (t 34) (t 35)),g 37 (.load none (t 4)),g 38 (.nilchk (t 37)),g 39 (.faddr 2 (t 38)),g 40 (.load none (t 39)),g 41 (.faddr 1 (t 12)),g 42 (.load none (t 41)),g 43 (.iaddrS 1 (t 40) (t 42)),g 44 (.load none (t 43)),g 45 (.minmax true [(t 36),(t 44)]),⟨none, .mapUp true [.i .i64, .i .i64] (t 32) (t 33) (t 45),none⟩] [0,1,2,3,4,5,6,7,8,9,10,11,12,13,14] [0,0,0,0,12,0,32,96,224,0,512,2016,4064,8188,16383] []))
set_option maxHeartbeats 4000000 in
theorem sleaf_round(hp:primAS T){H:Heap}(hr:Rdy H){p4 p10 p11 bb mb l2 n wc a b:Nat}{fv s1 s2:Value}{wa:Option Addr}{own:Bool}{ws:List Int}{t:Tab}{x:Nat×Nat}(hx:x.2<n)(gl:H.get l2=some (.loop [(4, .pointer (some ⟨p4,0,none⟩)),(10, .pointer (some ⟨p10,0,none⟩)),(11, .pointer (some ⟨p11,0,none⟩)),(30,fv)] [31] asgSb bodySb 0 .normal))
 (g4:H.get p4=some (.cells [.pointer (some ⟨bb,0,none⟩)] true 1))(g10:H.get p10=some (.cells [.map (some mb)] true 1))(g11:H.get p11=some (.cells [.int .i64 a, .int .i64 b] true 1))(gm:H.get mb=some (.map (ents t)))(gb:H.get bb=some (.cells [s1,s2, .slice wa n wc] own 1))(hws:SliceOf H 1 (.slice wa n wc) n (ints ws)):
 FW T (.yield l2) [nodeV x] H fun r H'=>r= .ret (.bool true)∧(∀z∈H'.log,mb≤z∧z<mb+1)∧(∀z,z<H.next→z≠mb→H'.get z=H.get z)∧H'.get mb=some (.map (ents (upd t (a,b) (mx (look t (a,b)) (ws.getD x.2 0))))):=by
 have hlen:ws.length=n:=by have:=hws.len;simp[ints]at this;omega
 rcases hws.inv with⟨_,_,h0,_⟩|⟨b0,o0,cap,hv,s,hcap⟩
 ·omega
 cases hv
 obtain⟨vs,own',t0,g5,g6⟩:=slice_elem1 s (ints_get (l:=ws) (i:=x.2) (by omega))
 clear s
 have n1:=ne_loop g4 gl
 have n2:=ne_loop g10 gl
 have n3:=ne_loop g11 gl
 have n4:=ne_map gm gl
 have n5:=ne_loop gb gl
 have n6:=ne_loop g5 gl
 have k1:=WF.get_lt hr.wf g4
 have k2:=WF.get_lt hr.wf g10
 have k3:=WF.get_lt hr.wf g11
 have k4:=WF.get_lt hr.wf gm
 have k5:=WF.get_lt hr.wf gb
 have k6:=WF.get_lt hr.wf g5
 have k7:=WF.get_lt hr.wf gl
 refine FW.yieldN hp (R:=fun H'=>(∀z,z<H.next→z≠mb→H'.get z=H.get z)∧H'.get mb=some (.map (ents (upd t (a,b) (mx (look t (a,b)) (ws.getD x.2 0)))))) gl rfl k7 ?_
 unfold asgSb nodeV
 refine wE_region ?_;refine wO_val a_new ?_;refine yS ?_;refine wO_nil ?_
 refine y1 ?_
 refine⟨rfl,by(simp(disch:=first|omega|(simp only[z1,z2];omega))only[z3,z4,z5,z6,z7,z1,z2, *];exact rfl),?_⟩
 unfold bodySb
 refine wE_block ?_;refine wE_draw ?_;refine qL ?_
 refine qN ?_
 refine qL ?_
 refine qN ?_
 refine wD_quiet rfl rfl rfl (by exact rfl) (by exact rfl) (by exact rfl) (a_lookup (x:=((a:Int),(b:Int))) (by exact rfl) (by exact rfl) (by(simp(disch:=first|omega|(simp only[z1,z2];omega))only[z3,z4,z5,z6,z7,z1,z2, *];exact rfl))) ?_
 refine qL ?_
 refine wD_quiet rfl rfl rfl (by exact rfl) (by exact rfl) (by exact rfl) (a_nilchk (by exact rfl)) ?_;refine qF ?_
 refine qL ?_
 refine qF ?_
 refine qL ?_
 refine wD_quiet rfl rfl rfl (by exact rfl) (by exact rfl) (by exact rfl) (a_iaddrS (by exact rfl) (by exact rfl) (by omega)) ?_
 refine wD_quiet rfl rfl rfl (by exact rfl) (by exact rfl) (by exact rfl) (a_load (by exact rfl) (by(simp(disch:=first|omega|(simp only[z1,z2];omega))only[z3,z4,z5,z6,z7,z1,z2, *];exact rfl)) (by assumption)) ?_
 refine wD_quiet rfl rfl rfl (by exact rfl) (by exact rfl) (by exact rfl) (a_max (by exact rfl) (by exact rfl)) ?_
 refine wD_mapUp (x:=(a,b)) rfl rfl rfl (by exact rfl) (by exact rfl) (by exact rfl) (by exact rfl) (by(simp(disch:=first|omega|(simp only[z1,z2];omega))only[z3,z4,z5,z6,z7,z1,z2, *];exact rfl)) (by(simp only[z1,z2];omega)) (by apply ra_dropC rfl;apply ra_dropC rfl;apply ra_dropC rfl;apply ra_dropC rfl;apply ra_dropC rfl;apply ra_dropC rfl;apply ra_dropC rfl;apply ra_dropC rfl;apply ra_dropC rfl;apply ra_dropC rfl;apply ra_dropC rfl;apply ra_dropC rfl;apply ra_dropC rfl;apply ra_dropC rfl;exact ra_nil) ?_
 refine wD_nil ?_;refine y1 ?_;refine kB_n ?_
 refine⟨rfl,⟨_,by(simp(disch:=first|omega|(simp only[z1,z2];omega))only[z3,z4,z5,z6,z7,z1,z2, *];exact rfl),rfl⟩,?_,?_⟩
 ·intro z hz
  rw[log_wr_q (by exact(Heap.log_wr_new (Nat.zero_le _)).trans ((Heap.log_wr_new (Nat.le_refl _)).trans hr.log)) k4]at hz
  simp at hz;omega
 ·intro h5 hn hag hl5
  refine⟨fun z hz hne=> ?_,(hag mb k4 n4).trans (by(simp(disch:=first|omega|(simp only[z1,z2];omega))only[z3,z4,z5,z6,z7,z1,z2, *];done))⟩
  by_cases hz2:z=l2
  ·rw[hz2];exact hl5.trans gl.symm
  ·exact(hag z hz hz2).trans ((z5 hne).trans ((z5 hz2).trans ((z5 (by omega)).trans (z4 hz))))
theorem mem_mergeLog{base:Nat}:∀{m l:List Nat} {z:Nat},z∈mergeLog base l m→z∈l∨(z∈m∧z<base)
 |[],_,_,h=> .inl h
 |b::m,l,z,h=>by
  simp only[mergeLog]at h
  rcases mem_mergeLog h with h|⟨h1,h2⟩
  ·by_cases hb:b<base
   ·simp only[nblt_of hb,cond_true]at h
    cases hl:lhas l b with
    |true=>rw[hl,cond_true]at h;exact .inl h
    |false=>
     rw[hl,cond_false]at h
     rcases List.mem_cons.1 h with rfl|h
     ·exact .inr ⟨List.mem_cons_self ..,hb⟩
     ·exact .inl h
   ·simp only[nblt_not hb,cond_false]at h
    exact .inl h
  ·exact .inr ⟨List.mem_cons_of_mem _ h1,h2⟩
theorem inner_rangeO{base:Nat}{rnd:Option Nat}{e:Env}{ds:Dfs}{Q:XQ}{h1:Heap}{f:Operand}{g q:Nat}{first cap:Array Value}{ps:List Nat}{asg body:ACode}{all:List (Nat×Nat)}{O:List (Nat×Nat)→AObj}(hr:roundA h1 rnd=true)(hf:ev h1 e f=some (.func (.func g) first cap))(hnc:notCode (T g)=false)
 (hB:base≤h1.next)(hlog:h1.log=[])(w1:WF h1)
 (HG:Gr T g (lcat first.toList (lcat [.func (.yield h1.next) #[] #[]] cap.toList)) {h1.push (.loop e ps asg body 0 .normal)with log:=[]} q fun v h'=>v= .tuple #[]∧PW h1.next q h1 (.loop e ps asg body 0 .normal) O all h')(hqn:q<h1.next)
 (K:∀h3,(∀z∈h3.log,q≤z∧z<base)→WF h3→h1.next≤h3.next→(∀z,z<h1.next→z≠q→h3.get z=h1.get z)→h3.get q=some (O all)→Q .normal e ds h3):WE T base rnd (.rangeFunc f ps asg body) Q e ds h1:=by
 refine wE_range hr hf hnc (CW.mono HG ?_)
 rintro r h2 ⟨hk,v,rfl,rfl,hP⟩
 refine⟨_,rfl,_,_,_,_,_,_,hP.loop,rfl,?_⟩
 refine K _ (fun z hz=> ?_) ?_ ?_ (fun z hz hne=> ?_) ?_
 ·rw[Heap.log_wr_new hB]at hz
  have hz':z∈mergeLog base h1.log h2.log:=hz
  rw[hlog]at hz'
  rcases mem_mergeLog hz' with h|⟨ha,hb⟩
  ·cases h
  ·exact⟨hk.log (LogGe.nil _) z ha,hb⟩
 ·exact((hk.wf ((w1.push _).log _)).log _).as (AS.wr _ _ _ _)
 ·have:=hk.next
  have e1:h1.next+1≤h2.next:=this
  show h1.next≤h2.next
  omega
 ·exact(z5 (by omega)).trans (hP.old z hz hne)
 ·exact(z5 (by omega)).trans hP.obj
def leafS(ws:List Int)(a b:Nat)(ys:List (Nat×Nat))(t:Tab):Tab:=ys.foldl (fun t y=>upd t (a,b) (mx (look t (a,b)) (ws.getD y.2 0))) t
theorem leafS_snoc(ws:List Int)(a b:Nat)(ys:List (Nat×Nat))(y:Nat×Nat)(t:Tab):leafS ws a b (ys++[y]) t=upd (leafS ws a b ys t) (a,b) (mx (look (leafS ws a b ys t) (a,b)) (ws.getD y.2 0)):=by simp[leafS]
set_option maxHeartbeats 8000000 in
theorem sboard_round(F:FnsV T){H:Heap}(hr:Rdy H){p4 p10 mb bb l n c wc a b:Nat}{sa wa:Option Addr}{v1 v2 v3 v9 fv:Value}{kerf:Int}{ws:List Int}{kl:List Kd}{t:Tab}(hn:n<1000)(gl:H.get l=some (.loop [(1,v1),(2,v2),(3,v3),(4, .pointer (some ⟨p4,0,none⟩)),(9,v9),(10, .pointer (some ⟨p10,0,none⟩)),(26,fv)] [27] asgSa bodySa 0 .normal))
 (g4:H.get p4=some (.cells [.pointer (some ⟨bb,0,none⟩)] true 1))(g10:H.get p10=some (.cells [.map (some mb)] true 1))(gt:H.get mb=some (.map (ents t)))(gb:H.get bb=some (.cells [.slice sa n c, .int .i64 kerf, .slice wa n wc] true 1))(hks:SliceOf H 5 (.slice sa n c) n (kcs kl))(hws:SliceOf H 1 (.slice wa n wc) n (ints ws)):
 FW T (.yield l) [boardV (a,b)] H fun r H'=>r= .ret (.bool true)∧(∀z∈H'.log,mb≤z∧z<H.next)∧(∀z,z<H.next→z≠mb→H'.get z=H.get z)∧H'.get mb=some (.map (ents (leafS ws a b (leavesL a b kl 0) t))):=by
 have n2:=ne_loop g4 gl
 have n3:=ne_loop gb gl
 have n4:=ne_loop g10 gl
 have n6:=ne_map gt gl
 have m1:=ne_cm g4 gt
 have m2:=ne_cm g10 gt
 have m3:=ne_cm gb gt
 have k2:=WF.get_lt hr.wf g4
 have k3:=WF.get_lt hr.wf gb
 have k4:=WF.get_lt hr.wf g10
 have k5:=WF.get_lt hr.wf gl
 have k7:=WF.get_lt hr.wf gt
 refine FW.yieldN F.p (R:=fun H'=>(∀z,z<H.next→z≠mb→H'.get z=H.get z)∧H'.get mb=some (.map (ents (leafS ws a b (leavesL a b kl 0) t)))) gl rfl k5 ?_
 unfold asgSa
 refine wE_region ?_;refine wO_val a_new ?_;refine yS ?_;refine wO_nil ?_
 refine y1 ?_
 refine⟨rfl,by(simp(disch:=first|omega|(simp only[z1,z2];omega))only[z3,z4,z5,z6,z7,z1,z2, *];exact rfl),?_⟩
 unfold bodySa
 refine wE_block ?_;refine y4 ?_;refine yL ?_
 refine yN ?_
 refine WO.gen ?_
 intro hA hAe
 have A1:∀z,z<H.next→z≠l→hA.get z=H.get z:=fun z hz hne=>by rw[hAe];simp(disch:=first|omega|(simp only[z1,z2];omega))only[z5,z4]
 have A2:hA.get l=some (.loop [(1,v1),(2,v2),(3,v3),(4, .pointer (some ⟨p4,0,none⟩)),(9,v9),(10, .pointer (some ⟨p10,0,none⟩)),(26,fv)] [27] asgSa bodySa 1 .normal):=by rw[hAe];(simp(disch:=first|omega|(simp only[z1,z2];omega))only[z3,z4,z5,z6,z7,z1,z2, *];exact rfl)
 have A3:hA.get H.next=some (.cells [.int .i64 a, .int .i64 b] true 1):=by rw[hAe];(simp(disch:=first|omega|(simp only[z1,z2];omega))only[z3,z4,z5,z6,z7,z1,z2, *];exact rfl)
 have A5:hA.next=H.next+1:=by rw[hAe];rfl
 have A6:hA.log=[]:=by rw[hAe];simp(disch:=first|omega|(simp only[z1,z2];omega))only[Heap.log_wr_new,Heap.log_push];exact hr.log
 have A7:WF hA:=by rw[hAe];exact((hr.wf.push _).as (AS.wr _ _ _ _)).as (AS.wr _ _ _ _)
 clear hAe
 have A4:=(A1 p4 k2 n2).trans g4
 refine yC ?_
 refine FW.al (leaves104 F.p F.f104 (.of A7) bb a b) (fun _ _ _ q=>q) ?_
 rintro _ h1 hx1 ⟨rfl,hn1,gp,gx⟩
 have eA:({hA with log:=[]}:Heap).next=H.next+1:=A5
 rw[eA]at hn1 gp gx
 rw[eA]
 have B1:∀z,z<H.next→z≠l→h1.get z=H.get z:=fun z hz hne=>(hx1.old z (by omega)).trans (A1 z hz hne)
 have B2:=(hx1.old l (by omega)).trans A2
 have B3:=(hx1.old _ (by omega)).trans A3
 have B6:h1.log=[]:=hx1.log.trans A6
 have B7:WF h1:=hx1.wf A7
 have hlen:kl.length=n:=by have:=hks.len;rw[kcs_length]at this;omega
 clear hx1 A1 A2 A3 A4 A6 A7
 refine y3 ?_;refine wE_block ?_
 refine inner_rangeO (q:=mb) (all:=leavesL a b kl 0) (O:=fun d=> .map (ents (leafS ws a b d t))) (round_ok B2) (by rfl) (by rw[F.f140];rfl) (by omega) B6 B7 ?_ (by omega) ?_
 ·refine leaves140 F.p F.f140 (.of (B7.push _)) (pb:=H.next+1) (bb:=bb) (px:=H.next+2) (l':=h1.next) (N:=h1.next+1) (lo:=mb) (a:=a) (b:=b) (n:=n) (c:=c) (sa:=sa) (l:=kl) (v1:= .int .i64 kerf) (v2:= .slice wa n wc) (Nat.le_refl _) (by show mb≤h1.next+1;omega) hn
   (PW.yld F.p (by omega) fun done x H' hx hr' hlt hP=> ?_) ((z4 (by omega)).trans gp) ((z4 (by omega)).trans ((B1 bb k3 n3).trans gb)) (fun d H' hP=> ?_) (fun d H' hP=>(hP.old _ (by omega) (by omega)).trans gx) ⟨fun z hz _=>z4 hz,(z4 (by omega)).trans ((B1 mb k7 n6).trans gt),z3 _ _,Nat.lt_succ_self _⟩
  ·refine FW.mono' (sleaf_round F.p hr' (x:=x) (n:=n) (a:=a) (b:=b) (by have:=leaves_idx x hx;omega) hP.loop ((hP.old p4 (by omega) (by omega)).trans ((B1 p4 k2 n2).trans g4)) ((hP.old p10 (by omega) (by omega)).trans ((B1 p10 k4 n4).trans g10)) ((hP.old H.next (by omega) (by omega)).trans B3) hP.obj ((hP.old bb (by omega) (by omega)).trans ((B1 bb k3 n3).trans gb)) (SliceOf.agree hws (by omega) fun b0 vs o t hb he=>(hP.old b0 (by omega) (ne_cm he gt)).trans (B1 b0 hb (ne_loop he gl)))) ?_
   rintro r H'' ⟨q1,q2,q3,q4⟩
   exact⟨q1,q2,q3,by rw[leafS_snoc];exact q4⟩
  ·have:=hP.nx
   exact SliceOf.agree hks (by omega) fun b0 vs o t hb he=>(hP.old b0 (by omega) (ne_cm he gt)).trans (B1 b0 hb (ne_loop he gl))
 intro h3 c1 c2 c3 c4 c5
 have D1:∀z,z<H.next→z≠l→z≠mb→h3.get z=H.get z:=fun z hz hne hz2=>(c4 z (by omega) hz2).trans (B1 z hz hne)
 have D2:=(c4 l (by omega) (by omega)).trans B2
 refine kB_n ?_;refine kB_n ?_
 refine⟨rfl,⟨_,D2,rfl⟩,c1,?_⟩
 ·intro h6 hn6 hag hl6
  refine⟨fun z hz hne=> ?_,(hag mb k7 n6).trans c5⟩
  by_cases hz2:z=l
  ·rw[hz2];exact hl6.trans gl.symm
  ·exact(hag z hz hz2).trans (D1 z hz hz2 hne)
end Go.A.Pk
end
section
set_option maxRecDepth 100000
namespace Go.A.Pk
variable {T:Nat→Option AFunc}
def asgSc:ACode:=(.region [g 15 (.new [(.int .i64 0),(.int .i64 0)]),⟨none, .store 2 (t 15) (t 57),none⟩] [4,10,14,15])
def bodySc:ACode:=(.block 7 (.seq (.region [g 58 (.load none (t 10)),g 59 (.load (some 2) (t 15)),g 60 (.lookup true [.i .i64, .i .i64] (.int .i64 0) false (t 58) (t 59)),g 16 (.new [(.int .i64 0)]),⟨none, .store 1 (t 16) (t 60),none⟩] [4,10,14,15,16])
 (.seq (.seq (.region [g 61 (.load none (t 4)),g 62 (.load (some 2) (t 15)),g 63 (.call (.func 105) [(t 61),(t 62)])] [4,10,14,15,16,63])
 (.block 8 (.rangeFunc (t 63) [64] (.region [g 17 (.new [(.int .u8 0),(.int .i64 0)]),⟨none, .store 2 (t 17) (t 64),none⟩] [4,10,15,16,17]) (.block 9 (.seq (.region [g 66 (.load none (t 4)),g 67 (.load (some 2) (t 15)),g 68 (.load (some 2) (t 17)),g 69 (.call (.func 106) [(t 66),(t 67),(t 68)]),g 65 (.mov (t 69)),g 70 (.extract (t 65) 0),g 71 (.extract (t 65) 1),g 18 (.new [(.int .i64 0),(.int .i64 0)]),g 19 (.new [(.int .i64 0),(.int .i64 0)]),⟨none, .store 2 (t 18) (t 70),none⟩,⟨none, .store 2 (t 19) (t 71),none⟩] [10,16,18,19])
 (.draw [g 72 (.load none (t 16)),g 73 (.load none (t 10)),g 74 (.load (some 2) (t 18)),g 75 (.lookup true [.i .i64, .i .i64] (.int .i64 0) false (t 73) (t 74)),g 76 (.load none (t 10)),g 77 (.load (some 2) (t 19)),g 78 (.lookup true [.i .i64, .i .i64] (.int .i64 0) false (t 76) (t 77)),g 79 (.bin (.num .add) (t 75) (t 78)),g 80 (.minmax true [(t 72),(t 79)]),⟨none, .store 1 (t 16) (t 80),none⟩] [0,1,2,3,4,5,6,7,8,9] [0,0,0,6,0,0,48,126,255,511] []))))))
 (.region [g 81 (.load none (t 14)),g 82 (.load (some 2) (t 15)),g 83 (.load none (t 16)),⟨none, .mapUp true [.i .i64, .i .i64] (t 81) (t 82) (t 83),none⟩] []))))
def asgSd:ACode:=(.region [g 17 (.new [(.int .u8 0),(.int .i64 0)]),⟨none, .store 2 (t 17) (t 64),none⟩] [4,10,15,16,17])
def bodySd:ACode:=(.block 9 (.seq (.region [g 66 (.load none (t 4)),g 67 (.load (some 2) (t 15)),g 68 (.load (some 2) (t 17)),g 69 (.call (.func 106) [(t 66),(t 67),(t 68)]),g 65 (.mov (t 69)),g 70 (.extract (t 65) 0),g 71 (.extract (t 65) 1),g 18 (.new [(.int .i64 0),(.int .i64 0)]),g 19 (.new [(.int .i64 0),(.int .i64 0)]),⟨none, .store 2 (t 18) (t 70),none⟩,⟨none, .store 2 (t 19) (t 71),none⟩] [10,16,18,19])
 (.draw [g 72 (.load none (t 16)),g 73 (.load none (t 10)),g 74 (.load (some 2) (t 18)),g 75 (.lookup true [.i .i64, .i .i64] (.int .i64 0) false (t 73) (t 74)),g 76 (.load none (t 10)),g 77 (.load (some 2) (t 19)),g 78 (.lookup true [.i .i64, .i .i64] (.int .i64 0) false (t 76) (t 77)),g 79 (.bin (.num .add) (t 75) (t 78)),g 80 (.minmax true [(t 72),(t 79)]),⟨none, .store 1 (t 16) (t 80),none⟩] [0,1,2,3,4,5,6,7,8,9] [0,0,0,6,0,0,48,126,255,511] [])))
set_option maxHeartbeats 8000000 in
theorem scut_round(hp:primAS T)(f106:T 106=some f106){H:Heap}(hr:Rdy H){q p4 p10 p15 bb mb l2 a b:Nat}{x14 fv s1 s3:Value}{own:Bool}{kerf m:Int}{t:Tab}{x:Nat×Nat}(hx:x.1=3∨x.1=4)(hx2:x.2<1000)(ha:a<1000)(hb:b<1000)(hk:0≤kerf∧kerf≤100)
 (hsum: -4611686018427387904≤look t (oneB x a b)+look t (twoB kerf x a b)∧look t (oneB x a b)+look t (twoB kerf x a b)≤4611686018427387904)(gl:H.get l2=some (.loop [(4, .pointer (some ⟨p4,0,none⟩)),(10, .pointer (some ⟨p10,0,none⟩)),(14,x14),(15, .pointer (some ⟨p15,0,none⟩)),(16, .pointer (some ⟨q,0,none⟩)),(63,fv)] [64] asgSd bodySd 0 .normal))
 (gq:H.get q=some (.cells [.int .i64 m] true 1))(g4:H.get p4=some (.cells [.pointer (some ⟨bb,0,none⟩)] true 1))(g10:H.get p10=some (.cells [.map (some mb)] true 1))(g15:H.get p15=some (.cells [.int .i64 a, .int .i64 b] true 1))(gb:H.get bb=some (.cells [s1, .int .i64 kerf,s3] own 1))(gm:H.get mb=some (.map (ents t)))(h10:p10≠q):
 FW T (.yield l2) [nodeV x] H fun r H'=>r= .ret (.bool true)∧(∀z∈H'.log,q≤z∧z<q+1)∧(∀z,z<H.next→z≠q→H'.get z=H.get z)∧H'.get q=some (.cells [.int .i64 (mx m (look t (oneB x a b)+look t (twoB kerf x a b)))] true 1):=by
 have n1:=ne_loop gq gl
 have n2:=ne_loop g4 gl
 have n3:=ne_loop gb gl
 have n4:=ne_loop g10 gl
 have n5:=ne_loop g15 gl
 have n6:=ne_map gm gl
 have n7:=ne_cm gq gm
 have k1:=WF.get_lt hr.wf gq
 have k2:=WF.get_lt hr.wf g4
 have k3:=WF.get_lt hr.wf gb
 have k4:=WF.get_lt hr.wf g10
 have k5:=WF.get_lt hr.wf gl
 have k6:=WF.get_lt hr.wf g15
 have k7:=WF.get_lt hr.wf gm
 refine FW.yieldN hp (R:=fun H'=>(∀z,z<H.next→z≠q→H'.get z=H.get z)∧H'.get q=some (.cells [.int .i64 (mx m (look t (oneB x a b)+look t (twoB kerf x a b)))] true 1)) gl rfl k5 ?_
 unfold asgSd
 refine wE_region ?_;refine wO_val a_new ?_;refine yS ?_;refine wO_nil ?_
 refine y1 ?_
 refine⟨rfl,by(simp(disch:=first|omega|(simp only[z1,z2];omega))only[z3,z4,z5,z6,z7,z1,z2, *];exact rfl),?_⟩
 unfold bodySd
 refine wE_block ?_;refine y4 ?_;refine yL ?_
 refine yN ?_
 refine yN ?_
 refine yC ?_
 have gB:(((H.push (.cells [.int .u8 0, .int .i64 0] true 1)).wr H.next H.next (.cells [.int .u8 x.1, .int .i64 x.2] true 1)).wr 0 l2 (.loop [(4, .pointer (some ⟨p4,0,none⟩)),(10, .pointer (some ⟨p10,0,none⟩)),(14,x14),(15, .pointer (some ⟨p15,0,none⟩)),(16, .pointer (some ⟨q,0,none⟩)),(63,fv)] [64] asgSd bodySd 1 .normal)).get bb=some (.cells [s1, .int .i64 kerf,s3] own 1):=by(simp(disch:=first|omega|(simp only[z1,z2];omega))only[z3,z4,z5,z6,z7,z1,z2, *];done)
 have hw:WF (((H.push (.cells [.int .u8 0, .int .i64 0] true 1)).wr H.next H.next (.cells [.int .u8 x.1, .int .i64 x.2] true 1)).wr 0 l2 (.loop [(4, .pointer (some ⟨p4,0,none⟩)),(10, .pointer (some ⟨p10,0,none⟩)),(14,x14),(15, .pointer (some ⟨p15,0,none⟩)),(16, .pointer (some ⟨q,0,none⟩)),(63,fv)] [64] asgSd bodySd 1 .normal)):=((hr.wf.push _).as (AS.wr _ _ _ _)).as (AS.wr _ _ _ _)
 refine FW.pu (split106 hp f106 (.of hw) gB (Nat.lt_succ_of_lt k3) hk hx hx2 ha hb) ?_
 refine yM ?_;refine yE ?_;refine yE ?_;refine wO_val a_new ?_;refine wO_val a_new ?_
 refine yS ?_
 refine yS ?_;refine y3 ?_;refine wE_draw ?_
 refine qL ?_
 refine qL ?_
 refine qN ?_
 refine wD_quiet rfl rfl rfl (by exact rfl) (by exact rfl) (by exact rfl) (a_lookup (x:=oneB x a b) (by exact rfl) (by exact rfl) (by(simp(disch:=first|omega|(simp only[z1,z2];omega))only[z3,z4,z5,z6,z7,z1,z2, *];exact rfl))) ?_
 refine qL ?_
 refine qN ?_
 refine wD_quiet rfl rfl rfl (by exact rfl) (by exact rfl) (by exact rfl) (a_lookup (x:=twoB kerf x a b) (by exact rfl) (by exact rfl) (by(simp(disch:=first|omega|(simp only[z1,z2];omega))only[z3,z4,z5,z6,z7,z1,z2, *];exact rfl))) ?_
 refine wD_quiet rfl rfl rfl (by exact rfl) (by exact rfl) (by exact rfl) (a_num (by exact rfl) (by exact rfl) (m_add (wrapA_i64 (by omega) (by omega)))) ?_
 refine wD_quiet rfl rfl rfl (by exact rfl) (by exact rfl) (by exact rfl) (a_max (by exact rfl) (by exact rfl)) ?_
 refine wD_storeA (ws:=[.int .i64 (mx m (look t (oneB x a b)+look t (twoB kerf x a b)))]) rfl rfl rfl (by exact rfl) (by exact rfl) (by exact rfl) (by(simp(disch:=first|omega|(simp only[z1,z2];omega))only[z3,z4,z5,z6,z7,z1,z2, *];exact rfl)) (by exact rfl) (by exact rfl) (by(simp only[z1,z2];omega)) (by apply ra_dropC rfl;apply ra_dropC rfl;apply ra_dropC rfl;apply ra_dropC rfl;apply ra_dropC rfl;apply ra_dropC rfl;apply ra_dropC rfl;apply ra_dropC rfl;apply ra_dropC rfl;exact ra_nil) ?_
 refine wD_nil ?_;refine y1 ?_;refine kB_n ?_
 refine⟨rfl,⟨_,by(simp(disch:=first|omega|(simp only[z1,z2];omega))only[z3,z4,z5,z6,z7,z1,z2, *];exact rfl),rfl⟩,?_,?_⟩
 ·intro z hz
  rw[log_wr_q (by simp(disch:=first|omega|(simp only[z1,z2];omega))only[Heap.log_wr_new,Heap.log_push];exact hr.log) k1]at hz
  simp at hz;omega
 ·intro h5 hn hag hl5
  refine⟨fun z hz hne=> ?_,(hag q k1 n1).trans (by(simp(disch:=first|omega|(simp only[z1,z2];omega))only[z3,z4,z5,z6,z7,z1,z2, *];done))⟩
  by_cases hz2:z=l2
  ·rw[hz2];exact hl5.trans gl.symm
  ·exact(hag z hz hz2).trans (by simp(disch:=first|omega|(simp only[z1,z2];omega))only[z5,z4])
def deepV(kerf:Int)(t:Tab)(a b:Nat):Int:=cutM kerf t a b (cutsL a b) (look t (a,b))
set_option maxHeartbeats 8000000 in
theorem snext_round(F:FnsV T){H:Heap}(hr:Rdy H){p4 p10 p14 mb mo bb l n c wc a b:Nat}{sa wa:Option Addr}{v1 v2 v9 v13 v50 v51 fv:Value}{kerf:Int}{t u:Tab}(ha:a<1000)(hb:b<1000)(hk:0≤kerf∧kerf≤100)
 (hsum:∀x∈cutsL a b, -4611686018427387904≤look t (oneB x a b)+look t (twoB kerf x a b)∧look t (oneB x a b)+look t (twoB kerf x a b)≤4611686018427387904)(gl:H.get l=some (.loop [(1,v1),(2,v2),(4, .pointer (some ⟨p4,0,none⟩)),(9,v9),(10, .pointer (some ⟨p10,0,none⟩)),(13,v13),(14, .pointer (some ⟨p14,0,none⟩)),(50,v50),(51,v51),(56,fv)] [57] asgSc bodySc 0 .normal))
 (g4:H.get p4=some (.cells [.pointer (some ⟨bb,0,none⟩)] true 1))(g10:H.get p10=some (.cells [.map (some mb)] true 1))(g14:H.get p14=some (.cells [.map (some mo)] true 1))(gt:H.get mb=some (.map (ents t)))(gu:H.get mo=some (.map (ents u)))(gb:H.get bb=some (.cells [.slice sa n c, .int .i64 kerf, .slice wa n wc] true 1))(hmm:mb≠mo):
 FW T (.yield l) [boardV (a,b)] H fun r H'=>r= .ret (.bool true)∧(∀z∈H'.log,mo≤z∧z<mo+1)∧(∀z,z<H.next→z≠mo→H'.get z=H.get z)∧H'.get mo=some (.map (ents (upd u (a,b) (deepV kerf t a b)))):=by
 have n2:=ne_loop g4 gl
 have n3:=ne_loop gb gl
 have n4:=ne_loop g10 gl
 have n5:=ne_loop g14 gl
 have n6:=ne_map gt gl
 have n7:=ne_map gu gl
 have m1:=ne_cm g4 gu
 have m2:=ne_cm g10 gu
 have m3:=ne_cm gb gu
 have m4:=ne_cm g14 gu
 have k2:=WF.get_lt hr.wf g4
 have k3:=WF.get_lt hr.wf gb
 have k4:=WF.get_lt hr.wf g10
 have k5:=WF.get_lt hr.wf gl
 have k6:=WF.get_lt hr.wf g14
 have k7:=WF.get_lt hr.wf gt
 have k8:=WF.get_lt hr.wf gu
 refine FW.yieldN F.p (R:=fun H'=>(∀z,z<H.next→z≠mo→H'.get z=H.get z)∧H'.get mo=some (.map (ents (upd u (a,b) (deepV kerf t a b))))) gl rfl k5 ?_
 unfold asgSc
 refine wE_region ?_;refine wO_val a_new ?_;refine yS ?_;refine wO_nil ?_
 refine y1 ?_
 refine⟨rfl,by(simp(disch:=first|omega|(simp only[z1,z2];omega))only[z3,z4,z5,z6,z7,z1,z2, *];exact rfl),?_⟩
 unfold bodySc
 refine wE_block ?_;refine y4 ?_;refine yL ?_
 refine yN ?_
 refine wO_val (a_lookup (x:=((a:Int),(b:Int))) (by exact rfl) (by exact rfl) (by(simp(disch:=first|omega|(simp only[z1,z2];omega))only[z3,z4,z5,z6,z7,z1,z2, *];exact rfl))) ?_
 refine wO_val a_new ?_;refine yS ?_
 refine y3 ?_;refine wE_seq ?_;refine y4 ?_
 refine yL ?_
 refine yN ?_
 refine WO.gen ?_
 intro hA hAe
 have A1:∀z,z<H.next→z≠l→hA.get z=H.get z:=fun z hz hne=>by rw[hAe];simp(disch:=first|omega|(simp only[z1,z2];omega))only[z5,z4]
 have A2:hA.get l=some (.loop [(1,v1),(2,v2),(4, .pointer (some ⟨p4,0,none⟩)),(9,v9),(10, .pointer (some ⟨p10,0,none⟩)),(13,v13),(14, .pointer (some ⟨p14,0,none⟩)),(50,v50),(51,v51),(56,fv)] [57] asgSc bodySc 1 .normal):=by rw[hAe];(simp(disch:=first|omega|(simp only[z1,z2];omega))only[z3,z4,z5,z6,z7,z1,z2, *];exact rfl)
 have A3:hA.get H.next=some (.cells [.int .i64 a, .int .i64 b] true 1):=by rw[hAe];(simp(disch:=first|omega|(simp only[z1,z2];omega))only[z3,z4,z5,z6,z7,z1,z2, *];exact rfl)
 have A4:hA.get (H.next+1)=some (.cells [.int .i64 (look t (a,b))] true 1):=by rw[hAe];(simp(disch:=first|omega|(simp only[z1,z2];omega)|(simp only[z1,z2];done)|fail)only[z8,z4,z5,z9,z7,z1,z2, *];exact rfl)
 have A5:hA.next=H.next+2:=by rw[hAe];rfl
 have A6:hA.log=[]:=by rw[hAe];simp(disch:=first|omega|(simp only[z1,z2];omega))only[Heap.log_wr_new,Heap.log_push];exact hr.log
 have A7:WF hA:=by rw[hAe];exact((((hr.wf.push _).as (AS.wr _ _ _ _)).as (AS.wr _ _ _ _)).push _).as (AS.wr _ _ _ _)
 clear hAe
 have A8:=(A1 p4 k2 n2).trans g4
 refine yC ?_
 refine FW.al (cuts105 F.p F.f105 (.of A7) _ a b) (fun _ _ _ q=>q) ?_
 rintro _ h4 hx4 ⟨rfl,hn4,gx4⟩
 have e3:({hA with log:=[]}:Heap).next=H.next+2:=A5
 rw[e3]at hn4 gx4
 rw[e3]
 have E1:∀z,z<H.next→z≠l→h4.get z=H.get z:=fun z hz hne=>(hx4.old z (by omega)).trans (A1 z hz hne)
 have E2:=(hx4.old l (by omega)).trans A2
 have E3:=(hx4.old _ (by omega)).trans A3
 have E4:=(hx4.old _ (by omega)).trans A4
 have E6:h4.log=[]:=hx4.log.trans A6
 have E7:WF h4:=hx4.wf A7
 clear hx4 A1 A2 A3 A4 A6 A7 A8
 refine y3 ?_;refine wE_block ?_
 refine inner_range (q:=H.next+1) (all:=cutsL a b) (O:=fun d=> .cells [.int .i64 (cutM kerf t a b d (look t (a,b)))] true 1) (round_ok E2) (by rfl) (by rw[F.f141];rfl) (by omega) (by omega) E6 E7 ?_ (by omega) ?_
 ·refine cuts141 F.p F.f141 (.of (E7.push _)) (bx:=H.next+2) (l:=h4.next) (N:=h4.next+1) (lo:=H.next+1) (a:=a) (b:=b) (Nat.le_refl _) (by show H.next+1≤h4.next+1;omega) ha hb
   (PW.yld F.p (by omega) fun done x H' hx hr' hlt hP=> ?_) (fun d H' hP=>(hP.old _ (by omega) (by omega)).trans gx4) ⟨fun z hz _=>z4 hz,(z4 (by omega)).trans E4,z3 _ _,Nat.lt_succ_self _⟩
  have hxc:=cuts_of hx
  refine FW.mono' (scut_round F.p F.f106 hr' (x:=x) (t:=t) (by omega) (by omega) ha hb hk (hsum x hx) hP.loop hP.obj ((hP.old p4 (by omega) (by omega)).trans ((E1 p4 k2 n2).trans g4)) ((hP.old p10 (by omega) (by omega)).trans ((E1 p10 k4 n4).trans g10)) ((hP.old H.next (by omega) (by omega)).trans E3) ((hP.old bb (by omega) (by omega)).trans ((E1 bb k3 n3).trans gb)) ((hP.old mb (by omega) (by omega)).trans ((E1 mb k7 n6).trans gt)) (show p10≠H.next+1 by omega)) ?_
  rintro r H'' ⟨q1,q2,q3,q4⟩
  exact⟨q1,q2,q3,by rw[cutM_snoc];exact q4⟩
 intro h5 c1 c2 c3 c4 c5
 have G1:∀z,z<H.next→z≠l→h5.get z=H.get z:=fun z hz hne=>(c4 z (by omega) (by omega)).trans (E1 z hz hne)
 have G2:=(c4 l (by omega) (by omega)).trans E2
 have G3:=(c4 _ (by omega) (by omega)).trans E3
 have G7:=(G1 p14 k6 n5).trans g14
 have G8:=(G1 mo k8 n7).trans gu
 clear E1 E2 E3 E4 E6 E7 c4 gx4
 refine kB_n ?_;refine kS_n ?_;refine wE_region ?_;refine yL ?_;refine yN ?_;refine yL ?_
 refine wO_val (a_mapUp (x:=(a,b)) (by exact rfl) (by exact rfl) (by exact rfl) G8) ?_
 refine wO_nil ?_;refine y1 ?_;refine kB_n ?_
 refine⟨rfl,⟨_,by(simp(disch:=first|omega|(simp only[z1,z2];omega))only[z3,z4,z5,z6,z7,z1,z2, *];exact rfl),rfl⟩,?_,?_⟩
 ·intro z hz
  rw[log_wr_q c1 k8]at hz
  simp at hz;omega
 ·intro h6 hn6 hag hl6
  refine⟨fun z hz hne=> ?_,(hag mo k8 n7).trans (Heap.get_wr_new G8)⟩
  by_cases hz2:z=l
  ·rw[hz2];exact hl6.trans gl.symm
  ·exact(hag z hz hz2).trans ((z5 hne).trans (G1 z hz hz2))
end Go.A.Pk
end
section
set_option maxRecDepth 100000
namespace Go.A.Pk
variable {T:Nat→Option AFunc}
structure YldB (T:Nat→Option AFunc) (lo N l:Nat) (V:Nat×Nat→Value) (all:List (Nat×Nat)) (P:List (Nat×Nat)→Heap→Prop):Prop where
 yields:∀done x H,x∈all→Rdy H→N≤H.next→P done H→FW T (.yield l) [V x] H fun r H'=>r= .ret (.bool true)∧(∀z∈H'.log,lo≤z)∧P (done++[x]) H'
 stable:∀done H H',P done H→N≤H'.next→(∀x,x<N→H'.get x=H.get x)→P done H'
theorem YldB.call(hp:primAS T){lo N l:Nat}{V:Nat×Nat→Value}{all:List (Nat×Nat)}{P:List (Nat×Nat)→Heap→Prop}(Y:YldB T lo N l V all P){base:Nat}{Q:XQ}{e:Env}{ds:Dfs}{h:Heap}{K:Env→Dfs→Heap→Prop}{dst:Option Nat}{done:List (Nat×Nat)}{x:Nat×Nat}(hx:x∈all)(hw:WF h)(hlo:lo≤h.next)(hN:N≤h.next)(hP:P done h)
 (hK:∀h',Lk lo h h'→P (done++[x]) h'→K (dstE e dst (.bool true)) ds h'):FW T (.yield l) [V x] {h with log:=[]} (KO K Q base dst e ds h.log):=by
 refine FW.mono' (FW.withAS hp (Y.yields done x _ hx (.of hw) hN (Y.stable _ _ _ hP hN fun _ _=>rfl)) rfl) ?_
 rintro r h2 ⟨hA,rfl,hl,hq⟩
 have hk:Lk lo {h with log:=[]} h2:=Lk.of_as hA hlo fun z hz=>hl z hz
 exact⟨hK _ hk.call (Y.stable _ _ _ hq (Nat.le_trans hN hA.next) fun _ _=>rfl)⟩
set_option maxHeartbeats 4000000 in
theorem boards136B(hp:primAS T)(hf:T 136=some f136){h:Heap}(hr:Rdy h){bw bh l N lo w ht:Nat}{P:List (Nat×Nat)→Heap→Prop}(hN:N≤h.next)(hlo:lo≤h.next)(hw16:w<1000)(hh16:ht<1000)(Y:YldB T lo N l boardV (boardsL w ht) P)
 (hbw:∀d H,P d H→H.get bw=some (.cells [.int .i64 w] true 1))(hbh:∀d H,P d H→H.get bh=some (.cells [.int .i64 ht] true 1))(h0:P [] h):
 Gr T 136 [.func (.yield l) #[] #[], .pointer (some ⟨bw,0,none⟩), .pointer (some ⟨bh,0,none⟩)] h lo fun v h'=>v= .tuple #[]∧P (boardsL w ht) h':=by
 refine Gr.of hp hf hlo (fun v h1 h2 _ hn ha q=>unit_gc Y.stable hN hn ha q) ?_
 refine y4 ?_;refine yM ?_;refine y3 ?_;refine wE_block ?_
 refine wE_loop (fun k e ds h'=>∃i:Nat,i≤w∧k=w-i∧e=[(0, .func (.yield l) #[] #[]),(1, .pointer (some ⟨bw,0,none⟩)),(2, .pointer (some ⟨bh,0,none⟩)),(4, .int .i64 (i+1:Nat))]∧ds=[]∧Lk lo h h'∧P (boardsL i ht) h')
  ⟨0,Nat.zero_le _,rfl,rfl,rfl, .refl _ _,h0⟩ ?_
 rintro k e ds h' ⟨i,hi,rfl,rfl,rfl,hk,hP⟩
 have g1:=hbw _ _ hP
 by_cases hlt:i<w
 ·refine wE_seq ?_;refine y4 ?_;refine yM ?_;refine yL ?_;refine yt ?_;refine y3 ?_
  refine yY ?_;refine wE_skip ?_;refine kS_n ?_;refine wE_seq ?_;refine wE_block ?_;refine y4 ?_;refine yM ?_;refine y3 ?_;refine wE_block ?_
  refine wE_loop (fun k e ds h''=>∃j:Nat,j≤ht∧k=ht-j∧e=[(0, .func (.yield l) #[] #[]),(1, .pointer (some ⟨bw,0,none⟩)),(2, .pointer (some ⟨bh,0,none⟩)),(4, .int .i64 (i+1:Nat)),(5, .int .i64 (j+1:Nat))]∧ds=[]∧Lk lo h h''∧P (boardsL i ht++row (i+1) j) h'')
   ⟨0,Nat.zero_le _,rfl,rfl,rfl,hk,by simpa[row]using hP⟩ ?_
  clear g1 hP hk h'
  rintro k e ds h' ⟨j,hj,rfl,rfl,rfl,hk,hP⟩
  have g2:=hbh _ _ hP
  by_cases hjt:j<ht
  ·refine wE_seq ?_;refine y4 ?_;refine yM ?_;refine yL ?_;refine yt ?_;refine y3 ?_
   refine yY ?_;refine wE_skip ?_;refine kS_n ?_;refine wE_seq ?_;refine wE_block ?_;refine y4 ?_;refine yM ?_;refine yM ?_;refine yM ?_;refine wO_val (a_build (by exact rfl)) ?_
   refine wO_call (fn:= .yield l) (args:=[boardV (i+1,j+1)]) (by rfl) ?_
   refine Y.call hp (boardsL_mem hlt hjt) (hk.wf hr.wf) (Nat.le_trans hlo hk.next) (Nat.le_trans hN hk.next) hP ?_
   intro h2 hk2 hP2
   rw[List.append_assoc,←row_succ]at hP2
   refine yA ?_;refine y3 ?_;refine yX ?_;refine wE_skip ?_;refine kB_n ?_;refine kS_n ?_;refine wE_region ?_;refine yM ?_
   refine yinc ?_;refine yM ?_;refine y3 ?_
   exact⟨ht-(j+1),by omega,j+1,by omega,rfl,rfl,rfl,hk.trans hk2,hP2⟩
  ·obtain rfl:j=ht:=by omega
   refine wE_seq ?_;refine y4 ?_;refine yM ?_;refine yL ?_;refine yf ?_;refine y3 ?_
   refine yX ?_;refine wE_exit ?_;refine kS_e ?_;refine kS_e ?_;refine kB_e ?_;refine kB_n ?_;refine kS_n ?_;refine wE_region ?_;refine yM ?_;refine yinc ?_;refine yM ?_;refine y3 ?_
   exact⟨w-(i+1),by omega,i+1,by omega,rfl,rfl,rfl,hk,hP⟩
 ·obtain rfl:i=w:=by omega
  refine wE_seq ?_;refine y4 ?_;refine yM ?_;refine yL ?_;refine yf ?_;refine y3 ?_
  refine yX ?_;refine wE_exit ?_;refine kS_e ?_;refine kS_e ?_;refine kB_e ?_
  exact endG_end (hk.log (by rw[hr.log];exact LogGe.nil _)) rfl ⟨rfl,hP⟩
end Go.A.Pk
end
section
set_option maxRecDepth 100000
namespace Go.A
variable {T:Nat→Option AFunc}
structure OwnC (lo:Nat) (h:Heap) (sz:Nat) (v:Value) (n:Nat) (cs:List Value):Prop where
 ex:∃q c,v= .slice (some ⟨q,0,none⟩) n c∧lo≤q∧q<h.next∧h.get q=some (.cells cs true sz)∧cs.length=n*sz∧(c=UNK∨c=n)
theorem OwnC.keep{lo sz n:Nat}{h h':Heap}{v:Value}{cs:List Value}(s:OwnC lo h sz v n cs)(hn:h.next≤h'.next)(ha:∀z,lo≤z→z<h.next→h'.get z=h.get z):OwnC lo h' sz v n cs:=by
 obtain⟨q,c,h1,h2,h3,h4,h5⟩:=s.ex
 exact⟨q,c,h1,h2,by omega,(ha _ h2 h3).trans h4,h5⟩
theorem OwnC.low{lo lo' sz n:Nat}{h:Heap}{v:Value}{cs:List Value}(s:OwnC lo h sz v n cs)(hl:lo'≤lo):OwnC lo' h sz v n cs:=by
 obtain⟨q,c,h1,h2,h3⟩:=s.ex
 exact⟨q,c,h1,by omega,h3⟩
theorem OwnC.slice{lo sz n:Nat}{h:Heap}{v:Value}{cs:List Value}(s:OwnC lo h sz v n cs)(hn:n<4000000):SliceOf h sz v n cs:=by
 obtain⟨q,c,rfl,h2,h3,h4,h5,h6⟩:=s.ex
 refine .mem ⟨h3,⟨_,_,_,h4,?_⟩,h5⟩ (by unfold UNK at h6;omega)
 rw[ltake_eq,ldrop_eq,List.drop_zero,List.take_of_length_le (by omega)]
theorem wO_app1c{base:Nat}{rnd:Option Nat}{Q:XQ}{e:Env}{ds:Dfs}{h:Heap}{lo sz bytes n:Nat}{dst:Option Nat}{os:List AOper}{x y:Operand}{v u:Value}{cs c1:List Value}(s:OwnC lo h sz v n cs)(hn:n<1000000)(hsz:0<sz)(hb:bytes≤100000)(hbase:base≤lo)
 (hx:ev h e x=some v)(hy:ev h e y=some u)(hs:srcCells h sz u=some (c1,1))(hl1:c1.length=sz)(h1:ones c1=true)
 (hK:∀h',OwnC h.next h' sz (.slice (some ⟨h.next,0,none⟩) (n+1) UNK) (n+1) (cs++c1)→h'.next=h.next+1→h'.log=h.log→(WF h→WF h')→(∀z,z<h.next→(∀q a c,v= .slice (some ⟨q,0,none⟩) a c→z≠q)→h'.get z=h.get z)→WO T base rnd Q os (dstE e dst (.slice (some ⟨h.next,0,none⟩) (n+1) UNK)) ds h'):WO T base rnd Q (⟨dst, .append sz bytes x y,none⟩::os) e ds h:=by
 have hbd:(2*(n+1)+768)*bytes≤281474976710656:=by
  have:(2*(n+1)+768)*bytes≤2000768*100000:=Nat.mul_le_mul (by omega) hb
  omega
 obtain⟨q,c,rfl,q1,q2,q3,q4,q5⟩:=s.ex
 have hlen:(cs++c1).length=(n+1)*sz:=by rw[List.length_append,q4,hl1,Nat.add_mul,Nat.one_mul]
 rcases q5 with rfl|rfl
 ·refine wO_val (a_app_open (n:=1) (vs:=cs) (ws:=cs++c1) hx hy hs (by omega) q3 q4 hsz h1 hbd (lcat_eq _ _)) ?_
  exact hK _ ⟨_,_,rfl,Nat.le_refl _,Nat.lt_succ_self _,z3 _ _,hlen, .inl rfl⟩ rfl (Heap.log_wr_new (o:= .dead) (by omega)) (fun w=>(w.as (AS.wr base _ q .dead)).push _) (fun z hz hne=>(z4 (by exact hz)).trans (z5 (hne q _ _ rfl)))
 ·refine wO_val (a_app_full (n:=1) (vs:=cs) (ws:=cs++c1) hx hy hs (by omega) (by omega) (by unfold UNK;omega) q3 (by omega) hbd (by rw[lcat_eq,ltake_eq,ldrop_eq,List.drop_zero,List.take_of_length_le (by omega)])) ?_
  exact hK _ ⟨_,_,rfl,Nat.le_refl _,Nat.lt_succ_self _,z3 _ _,hlen, .inl rfl⟩ rfl rfl (fun w=>w.push _) (fun z hz hne=>z4 (by exact hz))
end Go.A
namespace Go.A.Pk
variable {T:Nat→Option AFunc}
def tab0(ws:List Int)(kl:List Kd)(xs:List (Nat×Nat)):Tab:=xs.foldl (fun t x=>leafS ws x.1 x.2 (leavesL x.1 x.2 kl 0) t) []
def tabD(kerf:Int)(t:Tab)(xs:List (Nat×Nat)):Tab:=xs.foldl (fun u x=>upd u x (deepV kerf t x.1 x.2)) []
def tabS(kerf:Int)(ws:List Int)(kl:List Kd)(bs:List (Nat×Nat)):Nat→Tab
 |0=>tab0 ws kl bs
 |d+1=>tabD kerf (tabS kerf ws kl bs d) bs
theorem tab0_snoc(ws:List Int)(kl:List Kd)(xs:List (Nat×Nat))(x:Nat×Nat):tab0 ws kl (xs++[x])=leafS ws x.1 x.2 (leavesL x.1 x.2 kl 0) (tab0 ws kl xs):=by simp[tab0]
theorem tabD_snoc(kerf:Int)(t:Tab)(xs:List (Nat×Nat))(x:Nat×Nat):tabD kerf t (xs++[x])=upd (tabD kerf t xs) x (deepV kerf t x.1 x.2):=by simp[tabD]
theorem getD_bd{W:Int}{ws:List Int}(hW:0≤W)(hws:∀x∈ws,0≤x∧x≤W)(i:Nat):0≤ws.getD i 0∧ws.getD i 0≤W:=by
 rw[List.getD_eq_getElem?_getD]
 cases e:ws[i]? with
 |none=>exact⟨Int.le_refl _,hW⟩
 |some x=>exact hws x (List.mem_of_getElem? e)
theorem look_bd2{W:Int}{t:Tab}(ht:Bd W t)(hW:0≤W){a b:Nat}:0≤look t (a,b)∧look t (a,b)≤W*((a:Int)*(b:Int)):=by
 rcases look_bd ((a:Int),(b:Int)) ht with h|h
 ·rw[h];exact⟨Int.le_refl _,Int.mul_nonneg hW (Int.mul_nonneg (by omega) (by omega))⟩
 ·exact⟨h.2.2.1,h.2.2.2⟩
theorem leafS_bd{W:Int}{ws:List Int}(hW:0≤W)(hws:∀x∈ws,0≤x∧x≤W){a b:Nat}(ha:1≤a)(hb:1≤b):∀{ys:List (Nat×Nat)} {t:Tab},Bd W t→Bd W (leafS ws a b ys t)
 |[],t,h=>h
 |y::ys,t,h=>by
  show Bd W (leafS ws a b ys (upd t (a,b) (mx (look t (a,b)) (ws.getD y.2 0))))
  refine leafS_bd hW hws ha hb (upd_bd ⟨ha,hb⟩ ?_ h)
  have h1:=look_bd2 h hW (a:=a) (b:=b)
  have h2:=getD_bd hW hws y.2
  have h3:W*(1*1)≤W*((a:Int)*(b:Int)):=area_mono hW (by omega) (by omega) (by omega) (by omega)
  have h4:=(mx_ge (a:=look t (a,b)) (b:=ws.getD y.2 0)).1
  dsimp only
  exact⟨by omega,mx_le h1.2 (by omega)⟩
theorem tab0_bd{W:Int}{ws:List Int}{kl:List Kd}(hW:0≤W)(hws:∀x∈ws,0≤x∧x≤W){xs:List (Nat×Nat)}(hx:∀x∈xs,1≤x.1∧1≤x.2):Bd W (tab0 ws kl xs):=by
 have:∀(xs:List (Nat×Nat)) (t:Tab),(∀x∈xs,1≤x.1∧1≤x.2)→Bd W t→Bd W (xs.foldl (fun t x=>leafS ws x.1 x.2 (leavesL x.1 x.2 kl 0) t) t):=by
  intro xs
  induction xs with
  |nil=>intro t _ h;exact h
  |cons x xs ih=>intro t hx h;exact ih _ (fun y hy=>hx y (List.mem_cons_of_mem _ hy)) (leafS_bd hW hws (hx x (List.mem_cons_self ..)).1 (hx x (List.mem_cons_self ..)).2 h)
 exact this xs [] hx (fun e he=>by cases he)
theorem deepV_bd{W kerf:Int}{t:Tab}(hW:0≤W)(hk:0≤kerf)(ht:Bd W t){a b:Nat}:0≤deepV kerf t a b∧deepV kerf t a b≤W*((a:Int)*(b:Int)):=by
 have h1:=look_bd2 ht hW (a:=a) (b:=b)
 exact cutM_bd (fun x hx=>(cut_bd hW hk ht hx).2) h1.1 h1.2
theorem tabD_bd{W kerf:Int}{t:Tab}(hW:0≤W)(hk:0≤kerf)(ht:Bd W t){xs:List (Nat×Nat)}(hx:∀x∈xs,1≤x.1∧1≤x.2):Bd W (tabD kerf t xs):=by
 have:∀(xs:List (Nat×Nat)) (u:Tab),(∀x∈xs,1≤x.1∧1≤x.2)→Bd W u→Bd W (xs.foldl (fun u x=>upd u x (deepV kerf t x.1 x.2)) u):=by
  intro xs
  induction xs with
  |nil=>intro u _ h;exact h
  |cons x xs ih=>intro u hx h;exact ih _ (fun y hy=>hx y (List.mem_cons_of_mem _ hy)) (upd_bd (hx x (List.mem_cons_self ..)) (deepV_bd hW hk ht) h)
 exact this xs [] hx (fun e he=>by cases he)
theorem tabS_bd{W kerf:Int}{ws:List Int}{kl:List Kd}(hW:0≤W)(hk:0≤kerf)(hws:∀x∈ws,0≤x∧x≤W){xs:List (Nat×Nat)}(hx:∀x∈xs,1≤x.1∧1≤x.2):∀d,Bd W (tabS kerf ws kl xs d)
 |0=>tab0_bd hW hws hx
 |d+1=>tabD_bd hW hk (tabS_bd hW hk hws hx d) hx
def shL(kerf:Int)(ws:List Int)(kl:List Kd)(w ht m:Nat):List Int:=(List.range m).map fun d=>look (tabS kerf ws kl (boardsL w ht) d) (w,ht)
theorem shL_succ(kerf:Int)(ws:List Int)(kl:List Kd)(w ht m:Nat):shL kerf ws kl w ht (m+1)=shL kerf ws kl w ht m++[look (tabS kerf ws kl (boardsL w ht) m) (w,ht)]:=by simp[shL,List.range_succ]
structure ShI (kerf:Int) (ws:List Int) (kl:List Kd) (w ht N bb i:Nat) (h:Heap) (v:Value) (H:Heap):Prop where
 old:∀z,z<N→H.get z=h.get z
 g4:H.get N=some (.cells [.pointer (some ⟨bb,0,none⟩)] true 1)
 g9:H.get (N+1)=some (.cells [.int .i64 w, .int .i64 ht] true 1)
 tab:∃mb,H.get (N+3)=some (.cells [.map (some mb)] true 1)∧H.get mb=some (.map (ents (tabS kerf ws kl (boardsL w ht) i)))
 own:OwnC (N+4) H 1 v (i+1) (ints (shL kerf ws kl w ht (i+1)))
 log:H.log=[]
 wf:WF H
 nx:N+4≤H.next
set_option maxHeartbeats 16000000 in
theorem shallow78(F:FnsV T)(hf:T 78=some f78){h:Heap}(hr:Rdy h){bb n c wc w ht dp:Nat}{sa wa:Option Addr}{kerf W:Int}{ws:List Int}{kl:List Kd}(hw:w<1000)(hh:ht<1000)(hd:dp<1000)(hn:n<1000)(hk:0≤kerf∧kerf≤100)(hW:0≤W∧W≤1000000000)(hws0:∀x∈ws,0≤x∧x≤W)
 (gb:h.get bb=some (.cells [.slice sa n c, .int .i64 kerf, .slice wa n wc] true 1))(hks:SliceOf h 5 (.slice sa n c) n (kcs kl))(hws:SliceOf h 1 (.slice wa n wc) n (ints ws)):
 Al T 78 [.pointer (some ⟨bb,0,none⟩), .int .i64 w, .int .i64 ht, .int .i64 dp] h fun v h'=>OwnC h.next h' 1 v (dp+1) (ints (shL kerf ws kl w ht (dp+1))):=by
 refine .of F.p hf hr (fun v h1 hv q=>by obtain⟨q,c,rfl,_⟩:=q.ex;cases hv) ?_
 have kb:=WF.get_lt hr.wf gb
 have hbs:∀x∈boardsL w ht,1≤x.1∧1≤x.2:=fun x hx=>by have:=boards_of hx;omega
 refine y4 ?_;refine yB ?_;refine yM ?_;refine y3 ?_;refine y4 ?_;refine yM ?_;refine yM ?_
 refine wO_val (a_build (by exact rfl)) ?_;refine wO_val a_new ?_
 refine yS ?_;refine y3 ?_;refine y4 ?_
 refine wO_val a_mkMap ?_
 refine wO_val a_new ?_;refine yS ?_
 refine y3 ?_;refine wE_seq ?_;refine y4 ?_;refine yM ?_;refine yM ?_
 refine WO.gen ?_
 intro hA hAe
 have A1:∀z,z<h.next→hA.get z=h.get z:=fun z hz=>by rw[hAe];simp(disch:=first|omega|(simp only[z1,z2];omega))only[z5,z4]
 have A2:hA.get h.next=some (.cells [.pointer (some ⟨bb,0,none⟩)] true 1):=by rw[hAe];(simp(disch:=first|omega|(simp only[z1,z2];omega))only[z3,z4,z5,z6,z7,z1,z2, *];exact rfl)
 have A9:hA.get (h.next+1)=some (.cells [.int .i64 w, .int .i64 ht] true 1):=by rw[hAe];(simp(disch:=first|omega|(simp only[z1,z2];omega)|(simp only[z1,z2];done)|fail)only[z8,z4,z5,z9,z7,z1,z2, *];exact rfl)
 have A3:hA.get (h.next+2)=some (.map []):=by rw[hAe];(simp(disch:=first|omega|(simp only[z1,z2];omega)|(simp only[z1,z2];done)|fail)only[z8,z4,z5,z9,z7,z1,z2, *];done)
 have A4:hA.get (h.next+3)=some (.cells [.map (some (h.next+2))] true 1):=by rw[hAe];(simp(disch:=first|omega|(simp only[z1,z2];omega)|(simp only[z1,z2];done)|fail)only[z8,z4,z5,z9,z7,z1,z2, *];exact rfl)
 have A5:hA.next=h.next+4:=by rw[hAe];rfl
 have A6:hA.log=[]:=by rw[hAe];simp(disch:=first|omega|(simp only[z1,z2];omega))only[Heap.log_wr_new,Heap.log_push];exact hr.log
 have A7:WF hA:=by rw[hAe];exact(((((hr.wf.push _).push _).as (AS.wr _ _ _ _)).push _).push _).as (AS.wr _ _ _ _)
 clear hAe
 refine yC ?_
 refine FW.al (boards94 F.p F.f94 (.of A7) w ht) (fun _ _ _ q=>q) ?_
 rintro _ h1 hx1 ⟨rfl,hn1,gp,gx⟩
 have eA:({hA with log:=[]}:Heap).next=h.next+4:=A5
 rw[eA]at hn1 gp gx
 rw[eA]
 have B1:∀z,z<h.next→h1.get z=h.get z:=fun z hz=>(hx1.old z (by omega)).trans (A1 z hz)
 have B2:=(hx1.old _ (by omega)).trans A2
 have B9:=(hx1.old _ (by omega)).trans A9
 have B3:=(hx1.old _ (by omega)).trans A3
 have B4:=(hx1.old _ (by omega)).trans A4
 have B6:h1.log=[]:=hx1.log.trans A6
 have B7:WF h1:=hx1.wf A7
 clear hx1 A1 A2 A3 A4 A6 A7 A9
 refine y3 ?_;refine wE_block ?_
 refine inner_range (q:=h.next+2) (all:=boardsL w ht) (O:=fun d=> .map (ents (tab0 ws kl d))) rfl (by rfl) (by rw[F.f136];rfl) (by omega) (by omega) B6 B7 ?_ (by omega) ?_
 ·have Y:YldB T (h.next+2) (h1.next+1) h1.next boardV (boardsL w ht) fun d H=>PW h1.next (h.next+2) h1 (.loop [(1, .int .i64 w),(2, .int .i64 ht),(3, .int .i64 dp),(4, .pointer (some ⟨h.next,0,none⟩)),(9, .pointer (some ⟨h.next+1,0,none⟩)),(10, .pointer (some ⟨h.next+3,0,none⟩)),(26,fn2 136 (h.next+4) (h.next+5))] [27] asgSa bodySa 0 .normal) (fun d=> .map (ents (tab0 ws kl d))) d H:=by
   refine⟨fun done x H hx hrH hN hP=> ?_,fun d H H' hP hN hag=>PW.stable (by omega) d H H' hP hN hag⟩
   obtain⟨x1,x2⟩:=x
   refine FW.mono' (FW.withAS F.p (sboard_round F hrH (a:=x1) (b:=x2) (t:=tab0 ws kl done) hn hP.loop ((hP.old _ (by omega) (by omega)).trans B2) ((hP.old _ (by omega) (by omega)).trans B4) hP.obj ((hP.old bb (by omega) (by omega)).trans ((B1 bb kb).trans gb)) (SliceOf.agree hks (by omega) fun b0 vs o t hb he=>(hP.old b0 (by omega) (by omega)).trans (B1 b0 hb)) (SliceOf.agree hws (by omega) fun b0 vs o t hb he=>(hP.old b0 (by omega) (by omega)).trans (B1 b0 hb))) hrH.log) ?_
   rintro r H' ⟨hA',q1,q2,q3,q4⟩
   exact⟨q1,fun z hz=>(q2 z hz).1,⟨fun y hy hne=>(q3 y (by omega) hne).trans (hP.old y hy hne),by rw[tab0_snoc];exact q4,(q3 _ (by omega) (by omega)).trans hP.loop,Nat.lt_of_lt_of_le hP.nx hA'.next⟩⟩
  exact boards136B F.p F.f136 (.of (B7.push _)) (bw:=h.next+4) (bh:=h.next+5) (l:=h1.next) (N:=h1.next+1) (lo:=h.next+2) (w:=w) (ht:=ht) (Nat.le_refl _) (by show h.next+2≤h1.next+1;omega) hw hh Y (fun d H hP=>(hP.old _ (by omega) (by omega)).trans gp) (fun d H hP=>(hP.old _ (by omega) (by omega)).trans gx)
   ⟨fun z hz _=>z4 hz,(z4 (by omega)).trans B3,z3 _ _,Nat.lt_succ_self _⟩
 intro h3 c1 c2 c3 c4 c5
 have D1:∀z,z<h.next→h3.get z=h.get z:=fun z hz=>(c4 _ (by omega) (by omega)).trans (B1 z hz)
 have D2:=(c4 _ (by omega) (by omega)).trans B2
 have D9:=(c4 _ (by omega) (by omega)).trans B9
 have D4:=(c4 _ (by omega) (by omega)).trans B4
 clear B1 B2 B3 B4 B6 B7 B9 c4 gp gx
 refine kB_n ?_;refine kS_n ?_;refine y4 ?_;refine yL ?_;refine yN ?_
 refine wO_val (a_lookup (x:=((w:Int),(ht:Int))) (by exact rfl) (by exact rfl) c5) ?_
 refine wO_val (a_bslice (by exact rfl) (by exact rfl)) ?_;refine yM ?_;refine y3 ?_;refine wE_seq ?_;refine y4 ?_;refine yM ?_;refine yM ?_;refine y3 ?_;refine wE_block ?_
 refine WE.gen ?_
 intro hB hBe
 have I0:ShI kerf ws kl w ht h.next bb 0 h (.slice (some ⟨h3.next,0,none⟩) 1 1) hB:=by
  refine⟨fun z hz=> ?_,?_,?_,⟨h.next+2,?_,?_⟩,⟨_,_,rfl,by omega,?_,?_,rfl, .inr rfl⟩,?_,?_,?_⟩
  ·rw[hBe];exact(z4 (by omega)).trans (D1 z hz)
  ·rw[hBe];exact(z4 (by omega)).trans D2
  ·rw[hBe];exact(z4 (by omega)).trans D9
  ·rw[hBe];exact(z4 (by omega)).trans D4
  ·rw[hBe];exact(z4 (by omega)).trans c5
  ·rw[hBe];exact Nat.lt_succ_self _
  ·rw[hBe];exact z3 _ _
  ·rw[hBe];exact c1
  ·rw[hBe];exact c2.push _
  ·rw[hBe];show h.next+4≤h3.next+1;omega
 clear hBe D1 D2 D9 D4 c1 c2 c5
 refine wE_loop (fun m e ds h'=>∃(i:Nat) (v:Value),i≤dp∧m=dp-i∧e=[(1, .int .i64 w),(2, .int .i64 ht),(4, .pointer (some ⟨h.next,0,none⟩)),(9, .pointer (some ⟨h.next+1,0,none⟩)),(10, .pointer (some ⟨h.next+3,0,none⟩)),(13,v),(50, .int .i64 dp),(51, .int .i64 i)]∧ds=[]∧ShI kerf ws kl w ht h.next bb i h v h')
  ⟨0,_,Nat.zero_le _,rfl,rfl,rfl,I0⟩ ?_
 clear I0
 rintro m e ds H ⟨i,v,hi,rfl,rfl,rfl,I⟩
 by_cases hlt:i<dp
 ·obtain⟨mb,g10,gm⟩:=I.tab
  have km:=WF.get_lt I.wf gm
  have i4:=I.g4
  have i9:=I.g9
  have nx:=I.nx
  have m10:=ne_cm g10 gm
  have m4:=ne_cm i4 gm
  have m9:=ne_cm i9 gm
  refine y4 ?_;refine yt ?_;refine y3 ?_;refine wE_seq ?_;refine yY ?_;refine wE_skip ?_;refine kS_n ?_;refine wE_seq ?_;refine wE_block ?_;refine y4 ?_
  refine wO_val a_mkMap ?_
  refine wO_val a_new ?_;refine yS ?_
  refine y3 ?_;refine wE_seq ?_;refine y4 ?_;refine yM ?_;refine yM ?_
  refine WO.gen ?_
  intro hA hAe
  have A1:∀z,z<H.next→hA.get z=H.get z:=fun z hz=>by rw[hAe];simp(disch:=first|omega|(simp only[z1,z2];omega))only[z5,z4]
  have A3:hA.get H.next=some (.map []):=by rw[hAe];(simp(disch:=first|omega|(simp only[z1,z2];omega))only[z3,z4,z5,z6,z7,z1,z2, *];done)
  have A4:hA.get (H.next+1)=some (.cells [.map (some H.next)] true 1):=by rw[hAe];(simp(disch:=first|omega|(simp only[z1,z2];omega)|(simp only[z1,z2];done)|fail)only[z8,z4,z5,z9,z7,z1,z2, *];exact rfl)
  have A5:hA.next=H.next+2:=by rw[hAe];rfl
  have A6:hA.log=[]:=by rw[hAe];simp(disch:=first|omega|(simp only[z1,z2];omega))only[Heap.log_wr_new,Heap.log_push];exact I.log
  have A7:WF hA:=by rw[hAe];exact((I.wf.push _).push _).as (AS.wr _ _ _ _)
  clear hAe
  refine yC ?_
  refine FW.al (boards94 F.p F.f94 (.of A7) w ht) (fun _ _ _ q=>q) ?_
  rintro _ h1 hx1 ⟨rfl,hn1,gp,gx⟩
  have eA:({hA with log:=[]}:Heap).next=H.next+2:=A5
  rw[eA]at hn1 gp gx
  rw[eA]
  have B1:∀z,z<H.next→h1.get z=H.get z:=fun z hz=>(hx1.old z (by omega)).trans (A1 z hz)
  have B3:=(hx1.old _ (by omega)).trans A3
  have B4:=(hx1.old _ (by omega)).trans A4
  have B6:h1.log=[]:=hx1.log.trans A6
  have B7:WF h1:=hx1.wf A7
  clear hx1 A1 A3 A4 A6 A7
  refine y3 ?_;refine wE_block ?_
  refine inner_range (q:=H.next) (all:=boardsL w ht) (O:=fun d=> .map (ents (tabD kerf (tabS kerf ws kl (boardsL w ht) i) d))) rfl (by rfl) (by rw[F.f136];rfl) (by omega) (by omega) B6 B7 ?_ (by omega) ?_
  ·have hBd:=tabS_bd (kl:=kl) hW.1 hk.1 hws0 hbs i
   have Y:Yld T H.next (h1.next+1) h1.next boardV (boardsL w ht) fun d H2=>PW h1.next H.next h1 (.loop [(1, .int .i64 w),(2, .int .i64 ht),(4, .pointer (some ⟨h.next,0,none⟩)),(9, .pointer (some ⟨h.next+1,0,none⟩)),(10, .pointer (some ⟨h.next+3,0,none⟩)),(13,v),(14, .pointer (some ⟨H.next+1,0,none⟩)),(50, .int .i64 dp),(51, .int .i64 i),(56,fn2 136 (H.next+2) (H.next+3))] [57] asgSc bodySc 0 .normal) (fun d=> .map (ents (tabD kerf (tabS kerf ws kl (boardsL w ht) i) d))) d H2:=by
    refine⟨fun done x H2 hx hrH hN hP=> ?_,fun d H2 H' hP hN hag=>PW.stable (by omega) d H2 H' hP hN hag⟩
    have hxb:=boards_of hx
    obtain⟨x1,x2⟩:=x
    simp only at hxb
    have ga:∀z,z<H.next→H2.get z=H.get z:=fun z hz=>(hP.old z (by omega) (by omega)).trans (B1 z hz)
    refine FW.mono' (FW.withAS F.p (snext_round F hrH (a:=x1) (b:=x2) (mb:=mb) (t:=tabS kerf ws kl (boardsL w ht) i) (u:=tabD kerf (tabS kerf ws kl (boardsL w ht) i) done) (by omega) (by omega) hk (fun y hy=> ?_) hP.loop ((ga _ (by omega)).trans i4) ((ga _ (by omega)).trans g10) ((hP.old _ (by omega) (by omega)).trans B4) ((ga _ km).trans gm) hP.obj ((ga bb (by omega)).trans ((I.old bb kb).trans gb)) (by omega)) hrH.log) ?_
    ·have h1:=cut_bd hW.1 hk.1 hBd hy
     have h2:W*((x1:Int)*(x2:Int))≤1000000000*(1000*1000):=Int.le_trans (area_mono (W:=W) (a:=x1) (b:=x2) (c:=1000) (d:=1000) hW.1 (by omega) (by omega) (by omega) (by omega)) (Int.mul_le_mul_of_nonneg_right hW.2 (by omega))
     omega
    ·rintro r H' ⟨hA',q1,q2,q3,q4⟩
     exact⟨q1,fun z hz=>by have:=q2 z hz;omega,⟨fun y hy hne=>(q3 y (by omega) hne).trans (hP.old y hy hne),by rw[tabD_snoc];exact q4,(q3 _ (by omega) (by omega)).trans hP.loop,Nat.lt_of_lt_of_le hP.nx hA'.next⟩⟩
   exact boards136 F.p F.f136 (.of (B7.push _)) (bw:=H.next+2) (bh:=H.next+3) (l:=h1.next) (N:=h1.next+1) (lo:=H.next) (w:=w) (ht:=ht) (Nat.le_refl _) (by show H.next≤h1.next+1;omega) hw hh Y (fun d H2 hP=>(hP.old _ (by omega) (by omega)).trans gp) (fun d H2 hP=>(hP.old _ (by omega) (by omega)).trans gx)
    ⟨fun z hz _=>z4 hz,(z4 (by omega)).trans B3,z3 _ _,Nat.lt_succ_self _⟩
  intro h3 c1 c2 c3 c4 c5
  have D1:∀z,z<H.next→h3.get z=H.get z:=fun z hz=>(c4 _ (by omega) (by omega)).trans (B1 z hz)
  have D4:=(D1 _ (by omega)).trans g10
  have D9:=(D1 _ (by omega)).trans i9
  have D14:=(c4 _ (by omega) (by omega)).trans B4
  clear B1 B3 B4 B6 B7 c4 gp gx
  refine kB_n ?_;refine kS_n ?_;refine y4 ?_;refine yL ?_;refine yS ?_;refine y3 ?_
  refine wE_region ?_;refine yM ?_;refine yL ?_
  refine yN ?_
  refine wO_val (a_lookup (t:=tabS kerf ws kl (boardsL w ht) (i+1)) (x:=((w:Int),(ht:Int))) (by exact rfl) (by exact rfl) ((z5 (by omega)).trans c5)) ?_
  refine wO_val (a_bslice (by exact rfl) (by exact rfl)) ?_
  refine WO.gen ?_
  intro hB hBe
  have E1:∀z,z<H.next→z≠h.next+3→hB.get z=H.get z:=fun z hz hne=>by rw[hBe];exact(z4 (by show z<h3.next;omega)).trans ((z5 hne).trans (D1 z hz))
  have E3:hB.get H.next=some (.map (ents (tabS kerf ws kl (boardsL w ht) (i+1)))):=by rw[hBe];exact(z4 (by show H.next<h3.next;omega)).trans ((z5 (by omega)).trans c5)
  have E10:hB.get (h.next+3)=some (.cells [.map (some H.next)] true 1):=by rw[hBe];exact(z4 (by show h.next+3<h3.next;omega)).trans (Heap.get_wr_new D4)
  have Es:srcCells hB 1 (.slice (some ⟨h3.next,0,none⟩) 1 1)=some ([.int .i64 (look (tabS kerf ws kl (boardsL w ht) (i+1)) (w,ht))],1):=by rw[hBe];exact src_slice (z3 _ _) rfl rfl
  have E5:hB.next=h3.next+1:=by rw[hBe];rfl
  have E6:hB.log=[]:=by rw[hBe];exact(Heap.log_wr_new (o:= .cells [.map (some H.next)] true 1) (by omega)).trans c1
  have E7:WF hB:=by rw[hBe];exact(c2.as (AS.wr _ _ _ _)).push _
  clear hBe D1 D4 D9 D14 c5 c1 c2
  have own:=(I.own.keep (h':=hB) (by omega) fun z hz hz2=>E1 z hz2 (by omega))
  refine wO_app1c own (by omega) (by omega) (by omega) (by omega) (by exact rfl) (by exact rfl) Es rfl rfl ?_
  intro hC f1 f2 f3 f4 f5
  have f5':∀z,z<hB.next→z<h.next+4→hC.get z=hB.get z:=fun z hz hz4=>f5 z hz fun q a c e=>by
   obtain⟨q',c',e',hq',_⟩:=own.ex
   rw[e']at e;cases e
   omega
  have f5m:hC.get H.next=hB.get H.next:=f5 _ (by omega) fun q a c e=>by
   obtain⟨q',c',e',hq',hq2,hq3,_⟩:=own.ex
   rw[e']at e;cases e
   rintro rfl
   rw[E3]at hq3;cases hq3
  refine yM ?_;refine wO_nil ?_;refine y1 ?_;refine kB_n ?_;refine kS_n ?_;refine wE_region ?_;refine yinc ?_;refine yM ?_;refine y3 ?_
  refine⟨dp-(i+1),by omega,i+1,_,by omega,rfl,rfl,rfl,fun z hz=> ?_,?_,?_,⟨H.next,?_,?_⟩,?_,?_,?_,?_⟩
  ·exact(f5' z (by omega) (by omega)).trans ((E1 z (by omega) (by omega)).trans (I.old z hz))
  ·exact(f5' _ (by omega) (by omega)).trans ((E1 _ (by omega) (by omega)).trans i4)
  ·exact(f5' _ (by omega) (by omega)).trans ((E1 _ (by omega) (by omega)).trans i9)
  ·exact(f5' _ (by omega) (by omega)).trans E10
  ·exact f5m.trans E3
  ·rw[shL_succ]
   have:=f1.low (lo':=h.next+4) (by omega)
   simp only[ints,List.map_append]at this⊢
   exact this
  ·exact f3.trans E6
  ·exact f4 E7
  ·omega
 ·obtain rfl:i=dp:=by omega
  have lg:=I.log
  refine y4 ?_;refine yf ?_;refine y3 ?_;refine wE_seq ?_;refine yX ?_;refine wE_exit ?_;refine kS_e ?_;refine kS_e ?_;refine kB_e ?_;refine kS_n ?_
  refine y4 ?_;refine yM ?_;refine yM ?_;refine y3 ?_;refine wE_ret ?_
  exact endA_ret (vs:=[v]) lg (by rfl) (I.own.low (by omega))
end Go.A.Pk
end
section
namespace Go.A.Pk
def foldM{α:Type}(f:α→Int)(xs:List α)(m:Int):Int:=xs.foldl (fun m x=>mx m (f x)) m
theorem foldM_ge{α:Type}{f:α→Int}:∀{xs:List α} {m:Int},m≤foldM f xs m∧∀x∈xs,f x≤foldM f xs m
 |[],m=>⟨Int.le_refl _,fun x hx=>by cases hx⟩
 |y::xs,m=>by
  have h:=foldM_ge (f:=f) (xs:=xs) (m:=mx m (f y))
  have hm:=mx_ge (a:=m) (b:=f y)
  refine⟨Int.le_trans hm.1 h.1,fun x hx=> ?_⟩
  rcases List.mem_cons.1 hx with rfl|hx
  ·exact Int.le_trans hm.2 h.1
  ·exact h.2 x hx
theorem foldM_le{α:Type}{f:α→Int}{B:Int}:∀{xs:List α} {m:Int},m≤B→(∀x∈xs,f x≤B)→foldM f xs m≤B
 |[],m,h,_=>h
 |y::xs,m,h,hx=>foldM_le (xs:=xs) (m:=mx m (f y)) (mx_le h (hx y (List.mem_cons_self ..))) fun x hx'=>hx x (List.mem_cons_of_mem _ hx')
theorem foldM_congr{α:Type}{f g:α→Int}:∀{xs:List α} {m:Int},(∀x∈xs,f x=g x)→foldM f xs m=foldM g xs m
 |[],_,_=>rfl
 |y::xs,m,h=>by
  show foldM f xs (mx m (f y))=foldM g xs (mx m (g y))
  rw[h y (List.mem_cons_self ..),foldM_congr fun x hx=>h x (List.mem_cons_of_mem _ hx)]
def VF(kerf:Int)(ws:List Int)(kl:List Kd):Nat→Int×Int→Int
 |0,_=>0
 |n+1,p=>if 1≤p.1∧1≤p.2 then foldM (fun x=>VF kerf ws kl n (oneB x p.1.toNat p.2.toNat)+VF kerf ws kl n (twoB kerf x p.1.toNat p.2.toNat)) (cutsL p.1.toNat p.2.toNat) (leafM ws (leavesL p.1.toNat p.2.toNat kl 0) 0)else 0
def sz(p:Int×Int):Nat:=p.1.toNat+p.2.toNat
theorem cut_lt{kerf:Int}(hk:0≤kerf){a b:Nat}{x:Nat×Nat}(hx:x∈cutsL a b):sz (oneB x a b)<a+b∧sz (twoB kerf x a b)<a+b:=by
 unfold sz
 rcases cuts_of hx with⟨e3,hl,hu⟩|⟨e4,hl,hu⟩
 ·simp only[oneB,twoB,e3,if_true];omega
 ·have n3:¬x.1=3:=by omega
  simp only[oneB,twoB,if_neg n3];omega
theorem VF_succ{kerf:Int}(hk:0≤kerf){ws:List Int}{kl:List Kd}:∀{n:Nat} {p:Int×Int},sz p≤n→VF kerf ws kl (n+1) p=VF kerf ws kl n p
 |0,p,h=>by
  unfold sz at h
  simp only[VF]
  rw[if_neg (by omega)]
 |n+1,p,h=>by
  rw[VF,VF]
  split
  ·refine foldM_congr fun x hx=> ?_
   have:=cut_lt hk hx
   unfold sz at h
   rw[VF_succ hk (by omega),VF_succ hk (by omega)]
  ·rfl
theorem VF_ge{kerf:Int}(hk:0≤kerf){ws:List Int}{kl:List Kd}{n:Nat}{p:Int×Int}(h:sz p≤n):∀{m:Nat},n≤m→VF kerf ws kl m p=VF kerf ws kl n p:=by
 intro m hm
 induction m with
 |zero=>obtain rfl:n=0:=by omega
        rfl
 |succ m ih=>
  by_cases e:n=m+1
  ·rw[e]
  ·rw[VF_succ hk (by omega),ih (by omega)]
def V(kerf:Int)(ws:List Int)(kl:List Kd)(p:Int×Int):Int:=VF kerf ws kl (sz p) p
theorem V_out{kerf:Int}{ws:List Int}{kl:List Kd}{p:Int×Int}(h:¬ (1≤p.1∧1≤p.2)):V kerf ws kl p=0:=by
 unfold V
 cases sz p with
 |zero=>rfl
 |succ n=>rw[VF,if_neg h]
theorem V_eq{kerf:Int}(hk:0≤kerf){ws:List Int}{kl:List Kd}{a b:Nat}(ha:1≤a)(hb:1≤b):V kerf ws kl ((a:Int),(b:Int))=foldM (fun x=>V kerf ws kl (oneB x a b)+V kerf ws kl (twoB kerf x a b)) (cutsL a b) (leafM ws (leavesL a b kl 0) 0):=by
 have hs:sz ((a:Int),(b:Int))=a+b:=by simp[sz]
 unfold V
 rw[hs]
 obtain⟨n,hn⟩:∃n,a+b=n+1:=⟨a+b-1,by omega⟩
 rw[hn,VF,if_pos ⟨by show(1:Int)≤a;omega,by show(1:Int)≤b;omega⟩]
 show foldM (fun x=>VF kerf ws kl n (oneB x a b)+VF kerf ws kl n (twoB kerf x a b)) (cutsL a b) _=_
 refine foldM_congr fun x hx=> ?_
 have:=cut_lt hk hx
 rw[VF_ge hk (n:=sz (oneB x a b)) (Nat.le_refl _) (by omega),VF_ge hk (n:=sz (twoB kerf x a b)) (Nat.le_refl _) (by omega)]
theorem look_upd{x:Nat×Nat}{v:Int}:∀(t:Tab) (y:Int×Int),look (upd t x v) y=if y=((x.1:Int),(x.2:Int))then v else look t y
 |[],y=>by
  have e1:isKey y (x,v)=decide (y=((x.1:Int),(x.2:Int))):=by
   unfold isKey
   exact decide_eq_decide.2 ⟨fun q=>Prod.ext q.1 q.2,fun q=>by rw[q];exact⟨rfl,rfl⟩⟩
  simp only[upd,look]
  rw[e1]
  by_cases h:y=((x.1:Int),(x.2:Int))
  ·simp[h]
  ·simp[h]
 |e::t,y=>by
  simp only[upd]
  by_cases hk:isKey (x.1,x.2) e=true
  ·rw[if_pos hk]
   simp only[look]
   simp only[isKey,decide_eq_true_eq]at hk
   have e1:isKey y (x,v)=decide (y=((x.1:Int),(x.2:Int))):=by
    unfold isKey
    exact decide_eq_decide.2 ⟨fun q=>Prod.ext q.1 q.2,fun q=>by rw[q];exact⟨rfl,rfl⟩⟩
   have e2:isKey y e=decide (y=((x.1:Int),(x.2:Int))):=by
    unfold isKey
    exact decide_eq_decide.2 ⟨fun q=>Prod.ext (q.1.trans hk.1.symm) (q.2.trans hk.2.symm),fun q=>by rw[q];exact hk⟩
   rw[e1,e2]
   by_cases h:y=((x.1:Int),(x.2:Int))
   ·simp[h]
   ·simp[h]
  ·rw[if_neg hk]
   simp only[look]
   rw[look_upd t y]
   by_cases h:y=((x.1:Int),(x.2:Int))
   ·have:isKey y e=false:=by rw[h];simpa using hk
    simp[h,this]
    intro q
    rw[h]at this
    rw[this]at q;cases q
   ·simp[h]
theorem tab_look{kerf:Int}(hk:0≤kerf){ws:List Int}{kl:List Kd}{h:Nat}:∀(i j:Nat),j≤h→∀y:Int×Int,look (tabL kerf ws kl (boardsL i h++row (i+1) j)) y=
 if(1≤y.1∧y.1≤i∧1≤y.2∧y.2≤h)∨(y.1=(i:Int)+1∧1≤y.2∧y.2≤j)then V kerf ws kl y else 0
 |0,0,_,y=>by
  rw[if_neg (by omega)]
  rfl
 |i+1,0,hj,y=>by
  have e:boardsL (i+1) h++row (i+1+1) 0=boardsL i h++row (i+1) h:=by simp[boardsL,row]
  rw[e,tab_look hk i h (Nat.le_refl _) y]
  have:((1≤y.1∧y.1≤i∧1≤y.2∧y.2≤h)∨(y.1=(i:Int)+1∧1≤y.2∧y.2≤h))↔((1≤y.1∧y.1≤(i+1:Nat)∧1≤y.2∧y.2≤h)∨(y.1=((i+1:Nat):Int)+1∧1≤y.2∧y.2≤(0:Nat))):=by omega
  by_cases hc:(1≤y.1∧y.1≤i∧1≤y.2∧y.2≤h)∨(y.1=(i:Int)+1∧1≤y.2∧y.2≤h)
  ·rw[if_pos hc,if_pos (this.1 hc)]
  ·rw[if_neg hc,if_neg (fun q=>hc (this.2 q))]
 |i,j+1,hj,y=>by
  have ih:=tab_look hk (ws:=ws) (kl:=kl) (h:=h) i j (by omega)
  rw[row_succ,←List.append_assoc,tabL_snoc,look_upd,ih y]
  have hval:val kerf ws kl (tabL kerf ws kl (boardsL i h++row (i+1) j)) (i+1) (j+1)=V kerf ws kl (((i+1:Nat):Int),((j+1:Nat):Int)):=by
   rw[V_eq hk (by omega) (by omega)]
   show foldM _ _ _=foldM _ _ _
   refine foldM_congr fun x hx=> ?_
   rw[ih,ih]
   have key:∀z:Int×Int,(1≤z.1∧1≤z.2→((1≤z.1∧z.1≤i∧1≤z.2∧z.2≤h)∨(z.1=(i:Int)+1∧1≤z.2∧z.2≤j)))→(if(1≤z.1∧z.1≤i∧1≤z.2∧z.2≤h)∨(z.1=(i:Int)+1∧1≤z.2∧z.2≤j)then V kerf ws kl z else 0)=V kerf ws kl z:=fun z hz=>by
    by_cases hc:1≤z.1∧1≤z.2
    ·rw[if_pos (hz hc)]
    ·rw[if_neg (by omega),V_out hc]
   rcases cuts_of hx with⟨e3,hl,hu⟩|⟨e4,hl,hu⟩
   ·rw[key _ (by simp only[oneB,e3,if_true];omega),key _ (by simp only[twoB,e3,if_true];omega)]
   ·have n3:¬x.1=3:=by omega
    rw[key _ (by simp only[oneB,if_neg n3];omega),key _ (by simp only[twoB,if_neg n3];omega)]
  by_cases he:y=(((i+1:Nat):Int),((j+1:Nat):Int))
  ·rw[if_pos he,hval,if_pos (by rw[he];simp;omega),he]
  ·rw[if_neg he]
   have hne:¬ (y.1=((i+1:Nat):Int)∧y.2=((j+1:Nat):Int)):=fun q=>he (Prod.ext q.1 q.2)
   by_cases hc:(1≤y.1∧y.1≤i∧1≤y.2∧y.2≤h)∨(y.1=(i:Int)+1∧1≤y.2∧y.2≤j)
   ·rw[if_pos hc,if_pos (by omega)]
   ·rw[if_neg hc,if_neg (by omega)]
theorem bestV_eq{kerf:Int}(hk:0≤kerf){l:List Kd}{w ht:Int}(hw:1≤w)(hh:1≤ht):bestV kerf l w ht=V kerf (l.map (·.worth)) l (w,ht):=by
 unfold bestV
 have:=tab_look hk (ws:=l.map (·.worth)) (kl:=l) (h:=ht.toNat) w.toNat 0 (Nat.zero_le _) (w,ht)
 rw[show boardsL w.toNat ht.toNat++row (w.toNat+1) 0=boardsL w.toNat ht.toNat by simp[row]]at this
 rw[this,if_pos]
 exact .inl ⟨hw,by show w≤w.toNat;omega,hh,by show ht≤ht.toNat;omega⟩
end Go.A.Pk
end
section
namespace Go.A.Pk
variable {kerf:Int} {ws:List Int} {kl:List Kd}
theorem V_nonneg(hk:0≤kerf)(p:Int×Int):0≤V kerf ws kl p:=by
 by_cases h:1≤p.1∧1≤p.2
 ·obtain⟨a,ha⟩:=Int.eq_ofNat_of_zero_le (show 0≤p.1 by omega)
  obtain⟨b,hb⟩:=Int.eq_ofNat_of_zero_le (show 0≤p.2 by omega)
  have e:p=((a:Int),(b:Int)):=Prod.ext ha hb
  rw[e,V_eq hk (by omega) (by omega)]
  have h1:(0:Int)≤leafM ws (leavesL a b kl 0) 0:=(foldM_ge (f:=fun x:Nat×Nat=>ws.getD x.2 0) (xs:=leavesL a b kl 0) (m:=0)).1
  exact Int.le_trans h1 foldM_ge.1
 ·rw[V_out h];exact Int.le_refl _
end Go.A.Pk
end
section
namespace Go.A.Pk
def ShF(kerf:Int)(ws:List Int)(kl:List Kd):Nat→Int×Int→Int
 |0,p=>if 1≤p.1∧1≤p.2 then leafM ws (leavesL p.1.toNat p.2.toNat kl 0) 0 else 0
 |d+1,p=>if 1≤p.1∧1≤p.2 then foldM (fun x=>ShF kerf ws kl d (oneB x p.1.toNat p.2.toNat)+ShF kerf ws kl d (twoB kerf x p.1.toNat p.2.toNat)) (cutsL p.1.toNat p.2.toNat) (ShF kerf ws kl d p)else 0
theorem ShF_out{kerf:Int}{ws:List Int}{kl:List Kd}{p:Int×Int}(h:¬ (1≤p.1∧1≤p.2)):∀d,ShF kerf ws kl d p=0
 |0=>if_neg h
 |_+1=>if_neg h
theorem ShF_zero{kerf:Int}{ws:List Int}{kl:List Kd}{a b:Nat}(ha:1≤a)(hb:1≤b):ShF kerf ws kl 0 ((a:Int),(b:Int))=leafM ws (leavesL a b kl 0) 0:=if_pos (by dsimp only;omega)
theorem ShF_succ{kerf:Int}{ws:List Int}{kl:List Kd}{a b:Nat}(ha:1≤a)(hb:1≤b)(d:Nat):ShF kerf ws kl (d+1) ((a:Int),(b:Int))=foldM (fun x=>ShF kerf ws kl d (oneB x a b)+ShF kerf ws kl d (twoB kerf x a b)) (cutsL a b) (ShF kerf ws kl d ((a:Int),(b:Int))):=if_pos (by dsimp only;omega)
theorem leafM_ge{ws:List Int}{ys:List (Nat×Nat)}{m:Int}:m≤leafM ws ys m∧∀y∈ys,ws.getD y.2 0≤leafM ws ys m:=foldM_ge (f:=fun y:Nat×Nat=>ws.getD y.2 0)
theorem leafM_top{ws:List Int}:∀{ys:List (Nat×Nat)} {m:Int},(∀y∈ys,ws.getD y.2 0≤m)→leafM ws ys m=m
 |[],_,_=>rfl
 |y::ys,m,h=>by
  have h1:=h y (List.mem_cons_self ..)
  have e:mx m (ws.getD y.2 0)=m:=if_neg (by omega)
  show leafM ws ys (mx m (ws.getD y.2 0))=m
  rw[e]
  exact leafM_top fun z hz=>h z (List.mem_cons_of_mem _ hz)
theorem leafM_idem{ws:List Int}{ys:List (Nat×Nat)}{m:Int}:leafM ws ys (leafM ws ys m)=leafM ws ys m:=leafM_top leafM_ge.2
theorem look_leafS{ws:List Int}{a b:Nat}:∀(ys:List (Nat×Nat)) (t:Tab) (y:Int×Int),look (leafS ws a b ys t) y=if y=((a:Int),(b:Int))then leafM ws ys (look t (a,b))else look t y
 |[],t,y=>by
  by_cases h:y=((a:Int),(b:Int))
  ·rw[if_pos h,h];rfl
  ·rw[if_neg h];rfl
 |x::ys,t,y=>by
  show look (leafS ws a b ys (upd t (a,b) (mx (look t (a,b)) (ws.getD x.2 0)))) y=_
  rw[look_leafS ys,look_upd,look_upd,if_pos rfl]
  by_cases h:y=((a:Int),(b:Int))
  ·rw[if_pos h,if_pos h];rfl
  ·rw[if_neg h,if_neg h,if_neg h]
def inL(xs:List (Nat×Nat))(y:Int×Int):Prop:=∃x∈xs,y=((x.1:Int),(x.2:Int))
theorem inL_snoc{xs:List (Nat×Nat)}{x:Nat×Nat}{y:Int×Int}:inL (xs++[x]) y↔inL xs y∨y=((x.1:Int),(x.2:Int)):=by
 constructor
 ·rintro⟨z,hz,h⟩
  rcases List.mem_append.1 hz with hz|hz
  ·exact .inl ⟨z,hz,h⟩
  ·rw[List.mem_singleton.1 hz]at h;exact .inr h
 ·rintro(⟨z,hz,h⟩|h)
  ·exact⟨z,List.mem_append_left _ hz,h⟩
  ·exact⟨x,List.mem_append_right _ (List.mem_singleton.2 rfl),h⟩
theorem snoc_ind{α:Type}{P:List α→Prop}(h0:P [])(h1:∀xs x,P xs→P (xs++[x]))(xs:List α):P xs:=by
 have:∀n (xs:List α),xs.length=n→P xs:=by
  intro n
  induction n with
  |zero=>intro xs h;rw[List.length_eq_zero_iff.1 h];exact h0
  |succ n ih=>
   intro xs h
   have hne:xs≠[]:=fun e=>by rw[e]at h;cases h
   rw[←List.dropLast_concat_getLast hne]
   exact h1 _ _ (ih _ (by rw[List.length_dropLast];omega))
 exact this _ xs rfl
theorem tab0_look{ws:List Int}{kl:List Kd}(xs:List (Nat×Nat)):∀y:Int×Int,(inL xs y→look (tab0 ws kl xs) y=leafM ws (leavesL y.1.toNat y.2.toNat kl 0) 0)∧(¬inL xs y→look (tab0 ws kl xs) y=0):=by
 induction xs using snoc_ind with
 |h0=>intro y;exact⟨fun⟨x,hx,_⟩=>by(cases hx),fun _=>rfl⟩
 |h1 xs x ih=>
  intro y
  rw[tab0_snoc,look_leafS,inL_snoc]
  by_cases h:y=((x.1:Int),(x.2:Int))
  ·rw[if_pos h]
   refine⟨fun _=> ?_,fun q=>absurd (.inr h) q⟩
   rw[h]
   have:=ih ((x.1:Int),(x.2:Int))
   by_cases hi:inL xs ((x.1:Int),(x.2:Int))
   ·rw[this.1 hi];exact leafM_idem
   ·rw[this.2 hi];rfl
  ·rw[if_neg h]
   exact⟨fun q=>(ih y).1 (q.resolve_right h),fun q=>(ih y).2 fun q'=>q (.inl q')⟩
theorem tabD_look{kerf:Int}{t:Tab}(xs:List (Nat×Nat)):∀y:Int×Int,(inL xs y→look (tabD kerf t xs) y=deepV kerf t y.1.toNat y.2.toNat)∧(¬inL xs y→look (tabD kerf t xs) y=0):=by
 induction xs using snoc_ind with
 |h0=>intro y;exact⟨fun⟨x,hx,_⟩=>by(cases hx),fun _=>rfl⟩
 |h1 xs x ih=>
  intro y
  rw[tabD_snoc,look_upd,inL_snoc]
  by_cases h:y=((x.1:Int),(x.2:Int))
  ·rw[if_pos h]
   exact⟨fun _=>by rw[h];rfl,fun q=>absurd (.inr h) q⟩
  ·rw[if_neg h]
   exact⟨fun q=>(ih y).1 (q.resolve_right h),fun q=>(ih y).2 fun q'=>q (.inl q')⟩
theorem inL_boards{w ht:Nat}{y:Int×Int}:inL (boardsL w ht) y↔1≤y.1∧y.1≤w∧1≤y.2∧y.2≤ht:=by
 constructor
 ·rintro⟨x,hx,rfl⟩
  have:=boards_of hx
  dsimp only
  omega
 ·rintro⟨h1,h2,h3,h4⟩
  refine⟨(y.1.toNat-1+1,y.2.toNat-1+1),boardsL_mem (by omega) (by omega),Prod.ext ?_ ?_⟩
  ·dsimp only;omega
  ·dsimp only;omega
theorem cut_in{kerf:Int}(hk:0≤kerf){a b:Nat}{x:Nat×Nat}(hx:x∈cutsL a b):(1≤(oneB x a b).1∧(oneB x a b).1≤a∧1≤(oneB x a b).2∧(oneB x a b).2≤b∨¬ (1≤a∧1≤b))∧(twoB kerf x a b).1≤a∧(twoB kerf x a b).2≤b:=by
 rcases cuts_of hx with⟨e3,_,_⟩|⟨e4,_,_⟩
 ·simp only[oneB,twoB,e3,if_true];omega
 ·have q3:¬x.1=3:=by omega
  simp only[oneB,twoB,if_neg q3];omega
theorem tabS_look{kerf:Int}(hk:0≤kerf){ws:List Int}{kl:List Kd}{w ht:Nat}:∀(d:Nat) (y:Int×Int),look (tabS kerf ws kl (boardsL w ht) d) y=if 1≤y.1∧y.1≤w∧1≤y.2∧y.2≤ht then ShF kerf ws kl d y else 0
 |0,y=>by
  by_cases h:1≤y.1∧y.1≤w∧1≤y.2∧y.2≤ht
  ·rw[if_pos h]
   refine((tab0_look _ y).1 (inL_boards.2 h)).trans ?_
   exact(if_pos ⟨h.1,h.2.2.1⟩:ShF kerf ws kl 0 y=_).symm
  ·rw[if_neg h]
   exact(tab0_look _ y).2 (fun q=>h (inL_boards.1 q))
 |d+1,y=>by
  by_cases h:1≤y.1∧y.1≤w∧1≤y.2∧y.2≤ht
  ·rw[if_pos h]
   refine((tabD_look _ y).1 (inL_boards.2 h)).trans ?_
   obtain⟨y1,y2⟩:=y
   obtain⟨h1,h2,h3,h4⟩:=h
   dsimp only at h1 h2 h3 h4
   obtain⟨a,rfl⟩:=Int.eq_ofNat_of_zero_le (show 0≤y1 by omega)
   obtain⟨b,rfl⟩:=Int.eq_ofNat_of_zero_le (show 0≤y2 by omega)
   rw[ShF_succ (by omega) (by omega)]
   have e:=tabS_look hk (ws:=ws) (kl:=kl) (w:=w) (ht:=ht) d ((a:Int),(b:Int))
   rw[if_pos ⟨h1,h2,h3,h4⟩]at e
   show foldM (fun x=>look (tabS kerf ws kl (boardsL w ht) d) (oneB x a b)+look (tabS kerf ws kl (boardsL w ht) d) (twoB kerf x a b)) (cutsL a b) (look (tabS kerf ws kl (boardsL w ht) d) (a,b))=_
   rw[e]
   refine foldM_congr fun x hx=> ?_
   have hc:=cut_in hk hx
   rw[tabS_look hk d,tabS_look hk d]
   congr 1
   ·rw[if_pos (by omega)]
   ·split
    ·rfl
    ·exact(ShF_out (by omega) d).symm
  ·rw[if_neg h]
   exact(tabD_look _ y).2 (fun q=>h (inL_boards.1 q))
theorem ShF_mono{kerf:Int}{ws:List Int}{kl:List Kd}(d:Nat)(p:Int×Int):ShF kerf ws kl d p≤ShF kerf ws kl (d+1) p:=by
 by_cases h:1≤p.1∧1≤p.2
 ·rw[show ShF kerf ws kl (d+1) p=_ from if_pos h]
  exact foldM_ge.1
 ·rw[ShF_out h,ShF_out h];exact Int.le_refl _
theorem ShF_monos{kerf:Int}{ws:List Int}{kl:List Kd}{d e:Nat}(h:d≤e)(p:Int×Int):ShF kerf ws kl d p≤ShF kerf ws kl e p:=by
 induction h with
 |refl=>exact Int.le_refl _
 |step _ ih=>exact Int.le_trans ih (ShF_mono _ _)
theorem ShF_le{kerf:Int}(hk:0≤kerf){ws:List Int}{kl:List Kd}:∀(d:Nat) (p:Int×Int),ShF kerf ws kl d p≤V kerf ws kl p:=by
 intro d
 induction d with
 |zero=>
  intro p
  by_cases h:1≤p.1∧1≤p.2
  ·obtain⟨y1,y2⟩:=p
   obtain⟨a,rfl⟩:=Int.eq_ofNat_of_zero_le (show 0≤y1 by dsimp only at h;omega)
   obtain⟨b,rfl⟩:=Int.eq_ofNat_of_zero_le (show 0≤y2 by dsimp only at h;omega)
   dsimp only at h
   rw[ShF_zero (by omega) (by omega),V_eq hk (by omega) (by omega)]
   exact foldM_ge.1
  ·rw[ShF_out h,V_out h];exact Int.le_refl _
 |succ d ih=>
  intro p
  by_cases h:1≤p.1∧1≤p.2
  ·obtain⟨y1,y2⟩:=p
   obtain⟨a,rfl⟩:=Int.eq_ofNat_of_zero_le (show 0≤y1 by dsimp only at h;omega)
   obtain⟨b,rfl⟩:=Int.eq_ofNat_of_zero_le (show 0≤y2 by dsimp only at h;omega)
   dsimp only at h
   rw[ShF_succ (by omega) (by omega)]
   refine foldM_le (ih _) fun x hx=> ?_
   rw[V_eq hk (by omega) (by omega)]
   have h1:=ih (oneB x a b)
   have h2:=ih (twoB kerf x a b)
   have:=(foldM_ge (f:=fun x=>V kerf ws kl (oneB x a b)+V kerf ws kl (twoB kerf x a b)) (xs:=cutsL a b) (m:=leafM ws (leavesL a b kl 0) 0)).2 x hx
   omega
  ·rw[ShF_out h,V_out h];exact Int.le_refl _
theorem foldM_start{α:Type}{f:α→Int}:∀{xs:List α} {m k:Int},m≤k→foldM f xs m≤foldM f xs k
 |[],_,_,h=>h
 |x::xs,m,k,h=>by
  show foldM f xs (mx m (f x))≤foldM f xs (mx k (f x))
  refine foldM_start ?_
  unfold mx
  split<;>split<;>omega
theorem ShF_V{kerf:Int}(hk:0≤kerf){ws:List Int}{kl:List Kd}:∀(d:Nat) (p:Int×Int),sz p≤d→ShF kerf ws kl d p=V kerf ws kl p:=by
 intro d
 induction d with
 |zero=>
  intro p h
  have hn:¬ (1≤p.1∧1≤p.2):=by unfold sz at h;omega
  rw[ShF_out hn,V_out hn]
 |succ d ih=>
  intro p hp
  by_cases h:1≤p.1∧1≤p.2
  ·obtain⟨y1,y2⟩:=p
   obtain⟨a,rfl⟩:=Int.eq_ofNat_of_zero_le (show 0≤y1 by dsimp only at h;omega)
   obtain⟨b,rfl⟩:=Int.eq_ofNat_of_zero_le (show 0≤y2 by dsimp only at h;omega)
   dsimp only at h
   have hab:a+b≤d+1:=by simpa[sz]using hp
   refine Int.le_antisymm (ShF_le hk _ _) ?_
   rw[ShF_succ (by omega) (by omega),V_eq hk (by omega) (by omega)]
   have e:foldM (fun x=>ShF kerf ws kl d (oneB x a b)+ShF kerf ws kl d (twoB kerf x a b)) (cutsL a b) (ShF kerf ws kl d ((a:Int),(b:Int)))=foldM (fun x=>V kerf ws kl (oneB x a b)+V kerf ws kl (twoB kerf x a b)) (cutsL a b) (ShF kerf ws kl d ((a:Int),(b:Int))):=foldM_congr fun x hx=>by
    have:=cut_lt hk hx
    rw[ih _ (by omega),ih _ (by omega)]
   rw[e]
   refine foldM_start ?_
   have:=ShF_monos (kerf:=kerf) (ws:=ws) (kl:=kl) (Nat.zero_le d) ((a:Int),(b:Int))
   rw[ShF_zero (by omega) (by omega)]at this
   exact this
  ·rw[ShF_out h,V_out h]
theorem ShF_nonneg{kerf:Int}{ws:List Int}{kl:List Kd}(d:Nat)(p:Int×Int):0≤ShF kerf ws kl d p:=by
 refine Int.le_trans ?_ (ShF_monos (Nat.zero_le d) p)
 by_cases h:1≤p.1∧1≤p.2
 ·rw[show ShF kerf ws kl 0 p=_ from if_pos h];exact leafM_ge.1
 ·rw[ShF_out h];exact Int.le_refl _
def enoughD(f:Nat→Int)(b:Int):Nat:=(List.range 41).findIdx fun d=>decide (f d=b)
theorem enough_of{f:Nat→Int}{b:Int}{d:Nat}(hd:d≤40)(h1:f d=b)(h2:∀j,j<d→f j≠b):enoughD f b=d:=by
 unfold enoughD
 have hl:d<(List.range 41).length:=by rw[List.length_range];omega
 rw[List.findIdx_eq hl]
 refine⟨by simpa using h1,fun j hj=> ?_⟩
 simpa using h2 j hj
end Go.A.Pk
end
section
set_option maxRecDepth 100000
namespace Go.A.Pk
variable {T:Nat→Option AFunc}
theorem lrow_len{α:Type}(z:List α):∀n,(lrow n z).length=n*z.length
 |0=>by simp[lrow]
 |n+1=>by rw[lrow,lcat_eq,List.length_append,lrow_len z n,Nat.add_mul,Nat.one_mul,Nat.add_comm]
theorem lrow_add{α:Type}(z:List α)(m:Nat):∀n,lrow (n+m) z=lrow n z++lrow m z
 |0=>by simp[lrow]
 |n+1=>by rw[Nat.succ_add,lrow,lrow,lcat_eq,lcat_eq,lrow_add z m n,List.append_assoc]
end Go.A.Pk
end
section
set_option maxRecDepth 100000
namespace Go.A.Pk
variable {T:Nat→Option AFunc}
set_option maxHeartbeats 8000000 in
theorem leavesX140(hp:primAS T)(hf:T 140=some f140){h:Heap}(hr:Rdy h){pb bb px l' N lo a b n c:Nat}{sa:Option Addr}{l:List Kd}{v1 v2:Value}{P:List (Nat×Nat)→Heap→Prop}{S:Heap→Prop}(hN:N≤h.next)(hlo:lo≤h.next)(hn:n<1000)(hlN:l'<N)(Y:YldX T lo N l' nodeV (leavesL a b l 0) P S)
 (hpb:h.get pb=some (.cells [.pointer (some ⟨bb,0,none⟩)] true 1))(hbb:h.get bb=some (.cells [.slice sa n c,v1,v2] true 1))
 (hks:∀d H,P d H→SliceOf H 5 (.slice sa n c) n (kcs l))(hpx:∀d H,P d H→H.get px=some (.cells [.int .i64 a, .int .i64 b] true 1))(h0:P [] h):
 GrX T 140 [.func (.yield l') #[] #[], .pointer (some ⟨pb,0,none⟩), .pointer (some ⟨px,0,none⟩)] h lo (P (leavesL a b l 0)) S:=by
 have hlb:l'<h.next:=by omega
 refine GrX.of (l:=l') hp hf hlo hlb (fun h1 h2 hn ha q=>Y.stable _ _ _ q (Nat.le_trans hN hn) fun x hx=>ha x (by omega)) Y.sloop ?_
 have hlen:l.length=n:=by have:=(hks _ _ h0).len;rw[kcs_length]at this;omega
 refine y4 ?_;refine yL ?_;refine wO_val (a_nilchk (by exact rfl)) ?_;refine yF ?_;refine yF ?_;refine yL ?_;refine yD ?_;refine yM ?_
 refine y3 ?_;refine wE_block ?_
 refine wE_loop (fun k e ds h'=>∃i:Nat,i≤n∧k=n-i∧e=[(0, .func (.yield l') #[] #[]),(2, .pointer (some ⟨px,0,none⟩)),(10, .slice sa n c),(11, .int .i64 n),(12, .int .i64 i)]∧ds=[]∧Lk lo h h'∧P (leavesL a b (l.take i) 0) h')
  ⟨0,Nat.zero_le _,rfl,rfl,rfl, .refl _ _,by simpa[leavesL]using h0⟩ ?_
 clear hpb hbb
 rintro k e ds h' ⟨i,hi,rfl,rfl,rfl,hk,hP⟩
 by_cases hlt:i<n
 ·obtain⟨x,hxl⟩:∃x,l[i]? =some x:=⟨l[i]'(by omega),List.getElem?_eq_getElem (by omega)⟩
  have hsl:=hks _ _ hP
  rcases hsl.inv with⟨_,_,hz,_⟩|⟨b0,o0,cap,hv,s,hcap⟩
  ·omega
  ·cases hv
   obtain⟨vs,own,t0,g5,g6⟩:=slice_elem s hxl
   have hpx':=hpx _ _ hP
   refine y4 ?_;refine yt ?_;refine y3 ?_;refine wE_seq ?_;refine yY ?_;refine wE_skip ?_;refine kS_n ?_;refine wE_seq ?_;refine wE_block ?_;refine y4 ?_;refine yM ?_;refine wO_val (a_iaddrS (by exact rfl) (by exact rfl) (by omega)) ?_
   refine wO_val (a_loadN (by exact rfl) g5 g6 (by exact rfl)) ?_
   have hpxl:px<h'.next:=WF.get_lt (hk.wf hr.wf) hpx'
   refine wO_val a_new ?_;refine yM ?_;refine yS ?_;refine y3 ?_;refine wE_seq ?_;refine y4 ?_
   refine yN ?_;refine yF ?_
   refine yL ?_;refine yF ?_
   refine yL ?_;refine wO_val (a_build (by exact rfl)) ?_
   have hN':N≤h'.next:=Nat.le_trans hN hk.next
   have hlo':lo≤h'.next:=Nat.le_trans hlo hk.next
   have hkq:Lk lo h' ((h'.push (.cells [.int .i64 0, .int .i64 0, .int .i64 0, .int .i64 0, .bool false] true 1)).wr h.next h'.next (.cells (kc x) true 1)):=((Lk.refl lo h').push hlo' _).wr hlo'
   have gk:(((h'.push (.cells [.int .i64 0, .int .i64 0, .int .i64 0, .int .i64 0, .bool false] true 1)).wr h.next h'.next (.cells (kc x) true 1))).get h'.next=some (.cells (kc x) true 1):=by(simp(disch:=first|omega|(simp only[z1,z2];omega))only[z3,z4,z5,z6,z7,z1,z2, *];done)
   have gp:(((h'.push (.cells [.int .i64 0, .int .i64 0, .int .i64 0, .int .i64 0, .bool false] true 1)).wr h.next h'.next (.cells (kc x) true 1))).get px=some (.cells [.int .i64 a, .int .i64 b] true 1):=by(simp(disch:=first|omega|(simp only[z1,z2];omega))only[z3,z4,z5,z6,z7,z1,z2, *];done)
   have hPq:P (leavesL a b (l.take i) 0) ((h'.push (.cells [.int .i64 0, .int .i64 0, .int .i64 0, .int .i64 0, .bool false] true 1)).wr h.next h'.next (.cells (kc x) true 1)):=Y.stable _ _ _ hP (Nat.le_succ_of_le hN') fun z hz=>(z5 (by omega)).trans (z4 (by omega))
   have hqn:h'.next<(((h'.push (.cells [.int .i64 0, .int .i64 0, .int .i64 0, .int .i64 0, .bool false] true 1)).wr h.next h'.next (.cells (kc x) true 1))).next:=Nat.lt_succ_self _
   have hmem:=leaves_mem (a:=a) (b:=b) hxl
   have hsucc:=leaves_succ (a:=a) (b:=b) hxl
   change WO T _ _ _ _ _ _ ((h'.push (.cells [.int .i64 0, .int .i64 0, .int .i64 0, .int .i64 0, .bool false] true 1)).wr h.next h'.next (.cells (kc x) true 1))
   generalize hH:Heap.wr (Heap.push h' _) _ _ _=H at*
   clear hH g5 g6 s hpx' hsl hP hpxl
   have hkH:=hk.trans hkq
   by_cases c1:(a:Int)=x.w∧(b:Int)=x.h
   ·have L1:leavesEq [.i .i64, .i .i64] [.int .i64 a, .int .i64 b] [.int .i64 x.w, .int .i64 x.h]=some true:=by rw[leaves2,decide_eq_true c1]
    refine wO_val (a_agg (b:=true) (by exact rfl) (by exact rfl) L1) ?_
    refine yM ?_;refine yO ?_;refine yM ?_;refine yO ?_;refine yM ?_;refine yO ?_;refine wO_val (a_build (by exact rfl)) ?_;refine yO ?_
    refine wO_call (fn:= .yield l') (args:=[nodeV (1,i)]) (by rfl) ?_
    refine Y.call hp (hmem _ (by simp[leafAt,c1])) (hkH.wf hr.wf) (Nat.le_trans hlo hkH.next) (Nat.le_trans hN hkH.next) hlb hPq ?_ ?_
    rotate_left
    ·intro h9 hk9 hm9 hS9
     refine yO ?_;refine yA ?_;refine yT ?_;refine y3 ?_;refine yY ?_;refine wE_ret ?_;refine kS_r ?_;refine kB_r ?_;refine kS_r ?_;refine kS_r ?_;refine kB_r ?_
     exact endX_ret ((hkH.trans hk9).log (by rw[hr.log];exact LogGe.nil _)) rfl hm9 hS9
    intro h2 hk2 hm2 hP2
    have gk2:=(hm2 h'.next hN' hqn).trans gk
    have gp2:=hpx _ _ hP2
    have hk3:=hkH.trans hk2
    by_cases c2:x.turn=true
    ·have ga:(h2).get h'.next=some (.cells [.int .i64 x.id, .int .i64 x.w, .int .i64 x.h, .int .i64 x.worth, .bool true] true 1):=by rw[gk2,kc,c2]
     clear gk gk2
     refine yO ?_;refine yA ?_;refine yT ?_;refine y3 ?_;refine yX ?_;refine wE_skip ?_;refine kS_n ?_;refine y4 ?_
     refine yF ?_;refine yL ?_;refine yM ?_;refine yO ?_;refine yN ?_;refine yO ?_;refine yF ?_;refine yO ?_
     refine yL ?_;refine yO ?_;refine yF ?_;refine yO ?_;refine yL ?_;refine yO ?_;refine wO_val (a_build (by exact rfl)) ?_;refine yO ?_
     by_cases c3:(a:Int)=x.h∧(b:Int)=x.w
     ·have L2:leavesEq [.i .i64, .i .i64] [.int .i64 a, .int .i64 b] [.int .i64 x.h, .int .i64 x.w]=some true:=by rw[leaves2,decide_eq_true c3]
      refine wO_val (a_agg (b:=true) (by exact rfl) (by exact rfl) L2) ?_
      refine yT ?_;refine yM ?_;refine yO ?_;refine yM ?_;refine yO ?_;refine yM ?_;refine yO ?_;refine wO_val (a_build (by exact rfl)) ?_;refine yO ?_
      refine wO_call (fn:= .yield l') (args:=[nodeV (2,i)]) (by rfl) ?_
      refine Y.call hp (hmem _ (by simp[leafAt,c2,c3])) (hk3.wf hr.wf) (Nat.le_trans hlo hk3.next) (Nat.le_trans hN hk3.next) hlb hP2 ?_ ?_
      rotate_left
      ·intro h9 hk9 hm9 hS9
       refine yO ?_;refine yA ?_;refine yT ?_;refine y3 ?_;refine yY ?_;refine wE_ret ?_;refine kB_r ?_;refine kS_r ?_;refine kS_r ?_;refine kB_r ?_
       exact endX_ret ((hk3.trans hk9).log (by rw[hr.log];exact LogGe.nil _)) rfl hm9 hS9
      intro h4 hk4 _ hP4
      refine yO ?_;refine yA ?_;refine yT ?_;refine y3 ?_;refine yX ?_;refine wE_skip ?_;refine kB_n ?_;refine kS_n ?_;refine wE_region ?_
      refine yinc ?_;refine yM ?_;refine y3 ?_
      refine⟨n-(i+1),by omega,i+1,by omega,rfl,rfl,rfl,hk3.trans hk4,?_⟩
      have hl:leafAt x i a b=[(1,i)]++[(2,i)]:=by unfold leafAt;rw[if_pos c1,if_pos ⟨c2,c3⟩]
      rw[hsucc,hl,←List.append_assoc];exact hP4
     ·have L2:leavesEq [.i .i64, .i .i64] [.int .i64 a, .int .i64 b] [.int .i64 x.h, .int .i64 x.w]=some false:=by rw[leaves2,decide_eq_false c3]
      refine wO_val (a_agg (b:=false) (by exact rfl) (by exact rfl) L2) ?_
      refine yT ?_;refine yM ?_;refine yP ?_;refine yP ?_;refine yP ?_;refine yP ?_;refine yP ?_;refine yU ?_
      refine y3 ?_;refine yX ?_;refine wE_skip ?_;refine kB_n ?_;refine kS_n ?_;refine wE_region ?_;refine yinc ?_;refine yM ?_;refine y3 ?_
      refine⟨n-(i+1),by omega,i+1,by omega,rfl,rfl,rfl,hk3,?_⟩
      have hl:leafAt x i a b=[(1,i)]++[]:=by unfold leafAt;rw[if_pos c1,if_neg (fun q=>c3 q.2)]
      rw[hsucc,hl,List.append_nil];exact hP2
    ·have c2:x.turn=false:=by simpa using c2
     have ga:(h2).get h'.next=some (.cells [.int .i64 x.id, .int .i64 x.w, .int .i64 x.h, .int .i64 x.worth, .bool false] true 1):=by rw[gk2,kc,c2]
     clear gk gk2
     refine yO ?_;refine yA ?_;refine yT ?_;refine y3 ?_;refine yX ?_;refine wE_skip ?_;refine kS_n ?_;refine y4 ?_
     refine yF ?_;refine yL ?_;refine yM ?_;refine yP ?_;refine yP ?_;refine yP ?_;refine yP ?_;refine yP ?_
     refine yP ?_;refine yP ?_;refine yU ?_;refine yM ?_;refine yP ?_;refine yP ?_;refine yP ?_;refine yP ?_
     refine yP ?_;refine yU ?_;refine y3 ?_;refine yX ?_;refine wE_skip ?_;refine kB_n ?_;refine kS_n ?_;refine wE_region ?_
     refine yinc ?_;refine yM ?_;refine y3 ?_
     refine⟨n-(i+1),by omega,i+1,by omega,rfl,rfl,rfl,hk3,?_⟩
     have hl:leafAt x i a b=[(1,i)]++[]:=by unfold leafAt;rw[if_pos c1,if_neg (fun q=>by rw[c2]at q;cases q.1)]
     rw[hsucc,hl,List.append_nil];exact hP2
   ·have L1:leavesEq [.i .i64, .i .i64] [.int .i64 a, .int .i64 b] [.int .i64 x.w, .int .i64 x.h]=some false:=by rw[leaves2,decide_eq_false c1]
    refine wO_val (a_agg (b:=false) (by exact rfl) (by exact rfl) L1) ?_
    by_cases c2:x.turn=true
    ·have ga:(H).get h'.next=some (.cells [.int .i64 x.id, .int .i64 x.w, .int .i64 x.h, .int .i64 x.worth, .bool true] true 1):=by rw[gk,kc,c2]
     clear gk
     refine yM ?_;refine yP ?_;refine yP ?_;refine yP ?_;refine yP ?_;refine yP ?_;refine yU ?_;refine y3 ?_;refine yX ?_;refine wE_skip ?_;refine kS_n ?_;refine y4 ?_;refine yF ?_;refine yL ?_;refine yM ?_
     refine yO ?_;refine yN ?_;refine yO ?_;refine yF ?_;refine yO ?_;refine yL ?_;refine yO ?_;refine yF ?_
     refine yO ?_;refine yL ?_;refine yO ?_;refine wO_val (a_build (by exact rfl)) ?_;refine yO ?_
     by_cases c3:(a:Int)=x.h∧(b:Int)=x.w
     ·have L2:leavesEq [.i .i64, .i .i64] [.int .i64 a, .int .i64 b] [.int .i64 x.h, .int .i64 x.w]=some true:=by rw[leaves2,decide_eq_true c3]
      refine wO_val (a_agg (b:=true) (by exact rfl) (by exact rfl) L2) ?_
      refine yT ?_;refine yM ?_;refine yO ?_;refine yM ?_;refine yO ?_;refine yM ?_;refine yO ?_;refine wO_val (a_build (by exact rfl)) ?_;refine yO ?_
      refine wO_call (fn:= .yield l') (args:=[nodeV (2,i)]) (by rfl) ?_
      refine Y.call hp (hmem _ (by simp[leafAt,c2,c3])) (hkH.wf hr.wf) (Nat.le_trans hlo hkH.next) (Nat.le_trans hN hkH.next) hlb hPq ?_ ?_
      rotate_left
      ·intro h9 hk9 hm9 hS9
       refine yO ?_;refine yA ?_;refine yT ?_;refine y3 ?_;refine yY ?_;refine wE_ret ?_;refine kB_r ?_;refine kS_r ?_;refine kS_r ?_;refine kB_r ?_
       exact endX_ret ((hkH.trans hk9).log (by rw[hr.log];exact LogGe.nil _)) rfl hm9 hS9
      intro h4 hk4 _ hP4
      refine yO ?_;refine yA ?_;refine yT ?_;refine y3 ?_;refine yX ?_;refine wE_skip ?_;refine kB_n ?_;refine kS_n ?_;refine wE_region ?_
      refine yinc ?_;refine yM ?_;refine y3 ?_
      refine⟨n-(i+1),by omega,i+1,by omega,rfl,rfl,rfl,hkH.trans hk4,?_⟩
      have hl:leafAt x i a b=[]++[(2,i)]:=by unfold leafAt;rw[if_neg c1,if_pos ⟨c2,c3⟩]
      rw[hsucc,hl,List.nil_append];exact hP4
     ·have L2:leavesEq [.i .i64, .i .i64] [.int .i64 a, .int .i64 b] [.int .i64 x.h, .int .i64 x.w]=some false:=by rw[leaves2,decide_eq_false c3]
      refine wO_val (a_agg (b:=false) (by exact rfl) (by exact rfl) L2) ?_
      refine yT ?_;refine yM ?_;refine yP ?_;refine yP ?_;refine yP ?_;refine yP ?_;refine yP ?_;refine yU ?_
      refine y3 ?_;refine yX ?_;refine wE_skip ?_;refine kB_n ?_;refine kS_n ?_;refine wE_region ?_;refine yinc ?_;refine yM ?_;refine y3 ?_
      refine⟨n-(i+1),by omega,i+1,by omega,rfl,rfl,rfl,hkH,?_⟩
      have hl:leafAt x i a b=[]++[]:=by unfold leafAt;rw[if_neg c1,if_neg (fun q=>c3 q.2)]
      rw[hsucc,hl,List.append_nil,List.append_nil];exact hPq
    ·have c2:x.turn=false:=by simpa using c2
     have ga:(H).get h'.next=some (.cells [.int .i64 x.id, .int .i64 x.w, .int .i64 x.h, .int .i64 x.worth, .bool false] true 1):=by rw[gk,kc,c2]
     clear gk
     refine yM ?_;refine yP ?_;refine yP ?_;refine yP ?_;refine yP ?_;refine yP ?_;refine yU ?_;refine y3 ?_;refine yX ?_;refine wE_skip ?_;refine kS_n ?_;refine y4 ?_;refine yF ?_;refine yL ?_;refine yM ?_
     refine yP ?_;refine yP ?_;refine yP ?_;refine yP ?_;refine yP ?_;refine yP ?_;refine yP ?_;refine yU ?_
     refine yM ?_;refine yP ?_;refine yP ?_;refine yP ?_;refine yP ?_;refine yP ?_;refine yU ?_;refine y3 ?_;refine yX ?_;refine wE_skip ?_;refine kB_n ?_;refine kS_n ?_;refine wE_region ?_;refine yinc ?_;refine yM ?_;refine y3 ?_
     refine⟨n-(i+1),by omega,i+1,by omega,rfl,rfl,rfl,hkH,?_⟩
     have hl:leafAt x i a b=[]++[]:=by unfold leafAt;rw[if_neg c1,if_neg (fun q=>by rw[c2]at q;cases q.1)]
     rw[hsucc,hl,List.append_nil,List.append_nil];exact hPq
 ·obtain rfl:i=n:=by omega
  have hfull:l.take i=l:=List.take_of_length_le (by omega)
  rw[hfull]at hP
  refine y4 ?_;refine yf ?_;refine y3 ?_;refine wE_seq ?_;refine yX ?_;refine wE_exit ?_;refine kS_e ?_;refine kS_e ?_;refine kB_e ?_
  exact endX_end (hk.log (by rw[hr.log];exact LogGe.nil _)) rfl hP
set_option maxHeartbeats 8000000 in
theorem cutsX141(hp:primAS T)(hf:T 141=some f141){h:Heap}(hr:Rdy h){bx l N lo a b:Nat}{P:List (Nat×Nat)→Heap→Prop}{S:Heap→Prop}(hN:N≤h.next)(hlo:lo≤h.next)(ha:a<1000)(hb:b<1000)(hlN:l<N)(Y:YldX T lo N l nodeV (cutsL a b) P S)
 (hbx:∀d H,P d H→H.get bx=some (.cells [.int .i64 a, .int .i64 b] true 1))(h0:P [] h):
 GrX T 141 [.func (.yield l) #[] #[], .pointer (some ⟨bx,0,none⟩)] h lo (P (cutsL a b)) S:=by
 have hlb:l<h.next:=by omega
 refine GrX.of (l:=l) hp hf hlo hlb (fun h1 h2 hn ha q=>Y.stable _ _ _ q (Nat.le_trans hN hn) fun x hx=>ha x (by omega)) Y.sloop ?_
 refine y4 ?_;refine wO_val (a_build (by exact rfl)) ?_;refine yM ?_;refine y3 ?_;refine wE_block ?_
 refine wE_loop (fun k e ds h'=>∃i:Nat,i≤2∧k=2-i∧e=[(0, .func (.yield l) #[] #[]),(1, .pointer (some ⟨bx,0,none⟩)),(6, .agg (List.toArray [.int .u8 3, .int .u8 4])),(7, .int .i64 i)]∧ds=[]∧Lk lo h h'∧P (if i=0 then []else if i=1 then row 3 (a-1)else cutsL a b) h')
  ⟨0,Nat.zero_le _,rfl,rfl,rfl, .refl _ _,h0⟩ ?_
 rintro k e ds h' ⟨i,hi,rfl,rfl,rfl,hk,hP⟩
 obtain rfl|rfl|rfl:i=0∨i=1∨i=2:=by omega
 ·replace hP:P ([]) h':=hP
  refine y4 ?_;refine yt ?_;refine y3 ?_;refine wE_seq ?_;refine yY ?_;refine wE_skip ?_;refine kS_n ?_;refine wE_seq ?_;refine wE_block ?_;refine y4 ?_;refine yM ?_;refine wO_val (a_idxA (i:=0) (by exact rfl) (by exact rfl) (by omega) (by exact rfl)) ?_;refine yM ?_;refine yM ?_;refine y3 ?_;refine y4 ?_;refine yM ?_;refine y3 ?_;refine wE_block ?_
  refine wE_loop (fun k e ds h''=>∃j:Nat,j≤a-1∧k=a-1-j∧e=[(0, .func (.yield l) #[] #[]),(1, .pointer (some ⟨bx,0,none⟩)),(3, .int .i64 (0:Nat)),(4, .int .u8 3),(5, .int .i64 (j+1:Nat)),(6, .agg (List.toArray [.int .u8 3, .int .u8 4])),(7, .int .i64 (0:Nat))]∧ds=[]∧Lk lo h h''∧P (row 3 j) h'')
   ⟨0,Nat.zero_le _,rfl,rfl,rfl,hk,by simpa[row]using hP⟩ ?_
  clear hP hk h'
  rintro k e ds h' ⟨j,hj,rfl,rfl,rfl,hk,hP⟩
  have g2:=hbx _ _ hP
  by_cases hjt:j<a-1
  ·refine wE_seq ?_;refine y4 ?_;refine yM ?_;refine yM ?_;refine wO_val (a_iaddrA (i:=0) (by exact rfl) (by exact rfl) (by omega)) ?_;refine yL ?_;refine yt ?_;refine y3 ?_;refine yY ?_;refine wE_skip ?_;refine kS_n ?_;refine wE_seq ?_;refine wE_block ?_;refine y4 ?_;refine yM ?_;refine yM ?_;refine yM ?_
   refine wO_val (a_build (by exact rfl)) ?_
   refine wO_call (fn:= .yield l) (args:=[nodeV (3,j+1)]) (by rfl) ?_
   refine Y.call hp (cuts_mem3 hjt) (hk.wf hr.wf) (Nat.le_trans hlo hk.next) (Nat.le_trans hN hk.next) hlb hP ?_ ?_
   rotate_left
   ·intro h9 hk9 hm9 hS9
    refine yA ?_;refine y3 ?_;refine yY ?_;refine wE_ret ?_;refine kB_r ?_;refine kS_r ?_;refine kS_r ?_;refine kB_r ?_;refine kB_r ?_;refine kS_r ?_;refine kS_r ?_;refine kB_r ?_
    exact endX_ret ((hk.trans hk9).log (by rw[hr.log];exact LogGe.nil _)) rfl hm9 hS9
   intro h2 hk2 _ hP2
   rw[←row_succ]at hP2
   refine yA ?_;refine y3 ?_;refine yX ?_;refine wE_skip ?_;refine kB_n ?_;refine kS_n ?_;refine wE_region ?_;refine yM ?_
   refine yinc ?_;refine yM ?_;refine y3 ?_
   exact⟨a-1-(j+1),by omega,j+1,by omega,rfl,rfl,rfl,hk.trans hk2,hP2⟩
  ·obtain rfl:j=a-1:=by omega
   refine wE_seq ?_;refine y4 ?_;refine yM ?_;refine yM ?_;refine wO_val (a_iaddrA (i:=0) (by exact rfl) (by exact rfl) (by omega)) ?_;refine yL ?_;refine yf ?_;refine y3 ?_;refine yX ?_;refine wE_exit ?_;refine kS_e ?_;refine kS_e ?_;refine kB_e ?_;refine kB_n ?_;refine kS_n ?_;refine wE_region ?_;refine yinc ?_;refine yM ?_
   refine y3 ?_
   exact⟨2-1,by omega,1,by omega,rfl,rfl,rfl,hk,hP⟩
 ·replace hP:P (row 3 (a-1)) h':=hP
  refine y4 ?_;refine yt ?_;refine y3 ?_;refine wE_seq ?_;refine yY ?_;refine wE_skip ?_;refine kS_n ?_;refine wE_seq ?_;refine wE_block ?_;refine y4 ?_;refine yM ?_;refine wO_val (a_idxA (i:=1) (by exact rfl) (by exact rfl) (by omega) (by exact rfl)) ?_;refine yM ?_;refine yM ?_;refine y3 ?_;refine y4 ?_;refine yM ?_;refine y3 ?_;refine wE_block ?_
  refine wE_loop (fun k e ds h''=>∃j:Nat,j≤b-1∧k=b-1-j∧e=[(0, .func (.yield l) #[] #[]),(1, .pointer (some ⟨bx,0,none⟩)),(3, .int .i64 (1:Nat)),(4, .int .u8 4),(5, .int .i64 (j+1:Nat)),(6, .agg (List.toArray [.int .u8 3, .int .u8 4])),(7, .int .i64 (1:Nat))]∧ds=[]∧Lk lo h h''∧P (row 3 (a-1)++row 4 j) h'')
   ⟨0,Nat.zero_le _,rfl,rfl,rfl,hk,by simpa[row]using hP⟩ ?_
  clear hP hk h'
  rintro k e ds h' ⟨j,hj,rfl,rfl,rfl,hk,hP⟩
  have g2:=hbx _ _ hP
  by_cases hjt:j<b-1
  ·refine wE_seq ?_;refine y4 ?_;refine yM ?_;refine yM ?_;refine wO_val (a_iaddrA (i:=1) (by exact rfl) (by exact rfl) (by omega)) ?_;refine yL ?_;refine yt ?_;refine y3 ?_;refine yY ?_;refine wE_skip ?_;refine kS_n ?_;refine wE_seq ?_;refine wE_block ?_;refine y4 ?_;refine yM ?_;refine yM ?_;refine yM ?_
   refine wO_val (a_build (by exact rfl)) ?_
   refine wO_call (fn:= .yield l) (args:=[nodeV (4,j+1)]) (by rfl) ?_
   refine Y.call hp (cuts_mem4 hjt) (hk.wf hr.wf) (Nat.le_trans hlo hk.next) (Nat.le_trans hN hk.next) hlb hP ?_ ?_
   rotate_left
   ·intro h9 hk9 hm9 hS9
    refine yA ?_;refine y3 ?_;refine yY ?_;refine wE_ret ?_;refine kB_r ?_;refine kS_r ?_;refine kS_r ?_;refine kB_r ?_;refine kB_r ?_;refine kS_r ?_;refine kS_r ?_;refine kB_r ?_
    exact endX_ret ((hk.trans hk9).log (by rw[hr.log];exact LogGe.nil _)) rfl hm9 hS9
   intro h2 hk2 _ hP2
   rw[List.append_assoc,←row_succ]at hP2
   refine yA ?_;refine y3 ?_;refine yX ?_;refine wE_skip ?_;refine kB_n ?_;refine kS_n ?_;refine wE_region ?_;refine yM ?_
   refine yinc ?_;refine yM ?_;refine y3 ?_
   exact⟨b-1-(j+1),by omega,j+1,by omega,rfl,rfl,rfl,hk.trans hk2,hP2⟩
  ·obtain rfl:j=b-1:=by omega
   refine wE_seq ?_;refine y4 ?_;refine yM ?_;refine yM ?_;refine wO_val (a_iaddrA (i:=1) (by exact rfl) (by exact rfl) (by omega)) ?_;refine yL ?_;refine yf ?_;refine y3 ?_;refine yX ?_;refine wE_exit ?_;refine kS_e ?_;refine kS_e ?_;refine kB_e ?_;refine kB_n ?_;refine kS_n ?_;refine wE_region ?_;refine yinc ?_;refine yM ?_
   refine y3 ?_
   exact⟨2-2,by omega,2,by omega,rfl,rfl,rfl,hk,hP⟩
 ·replace hP:P (cutsL a b) h':=hP
  refine y4 ?_;refine yf ?_;refine y3 ?_;refine wE_seq ?_;refine yX ?_;refine wE_exit ?_;refine kS_e ?_;refine kS_e ?_;refine kB_e ?_
  exact endX_end (hk.log (by rw[hr.log];exact LogGe.nil _)) rfl hP
end Go.A.Pk
end
section
set_option maxRecDepth 100000
namespace Go.A.Pk
variable {T:Nat→Option AFunc}
section
variable {base:Nat} {h:Heap} {e:Env}
theorem a_cap{x:Operand}{a:Option Addr}{n c:Nat}(hx:ev h e x=some (.slice a n c))(hc:c<1000000):aop h base e (.cap x)=some (.val (.int .i64 c) h):=by
 simp only[aop,hx,nbeq_not (show c≠UNK by unfold UNK;omega),cond_false]
theorem a_sliceNil{size:Nat}{x:Operand}{hi:Option Operand}(hx:ev h e x=some (.slice none 0 0))(hh:bnd h e 0 hi=some 0):aop h base e (.slice (.sl size) x none hi none)=some (.val (.slice none 0 0) h):=by
 simp only[aop,hx,sliceOp,bnd_none,hh]
 rfl
theorem a_appN_nil{z:List Value}{bytes n m:Nat}{k:IntKind}{x y:Operand}(hx:ev h e x=some (.slice none 0 0))(hy:ev h e y=some (.int k (n:Nat)))(h0:n≠0)(hb:(2*(0+n)+768)*bytes≤281474976710656)(hb2:n*bytes≤281474976710656)(hn:n<1000000)(hm:llen z=m):
 aop h base e (.appendN z bytes x y)=some (.val (.slice (some ⟨h.next,0,none⟩) n UNK) (h.push (.cells (lrow n z) true m))):=by
 subst hm
 simp only[aop,hx,hy,natOf_nat,nblt_of (show n<9223372036854775808 by omega),nble_of hb2,Bool.and_self,cond_true,appendA,nbeq_not h0,cond_false,nble_of hb,Nat.beq,asPair]
end
structure FnsJ (T:Nat→Option AFunc):Prop where
 p:primAS T
 f126:T 126=some f126
 f150:T 150=some f150
 f176:T 176=some f176
theorem grow176(F:FnsJ T){h:Heap}(hr:Rdy h){n:Nat}(hn:n<100000):
 Al T 176 [.slice none 0 0, .int .i64 n] h fun v h'=>(n=0∧v= .slice none 0 0)∨(0<n∧∃q,h.next≤q∧q<h'.next∧v= .slice (some ⟨q,0,none⟩) 0 UNK∧h'.get q=some (.cells (lrow n [.int .u8 0, .int .i64 0]) true 2)):=by
 refine .of F.p F.f176 hr (fun v h1 hv q=> ?_) ?_
 ·rcases q with q|⟨_,q,_,_,rfl,_⟩
  ·exact .inl q
  ·simp[noRef,flatL,flat,scalL,scal,scal1]at hv
 refine y4 ?_;refine yM ?_;refine y3 ?_;refine wE_seq ?_;refine y4 ?_;refine yM ?_;refine yf ?_
 refine y3 ?_;refine yX ?_;refine wE_skip ?_;refine kS_n ?_;refine wE_seq ?_;refine y4 ?_;refine yM ?_;refine yM ?_
 refine wO_val (a_cap (by exact rfl) (by omega)) ?_
 by_cases h0:n=0
 ·refine yM ?_;refine yD ?_;refine ysub ?_;refine ysub ?_;refine yM ?_;refine y3 ?_;refine y4 ?_;refine yM ?_;refine yf ?_;refine y3 ?_;refine yX ?_;refine wE_skip ?_;refine kS_n ?_;refine y4 ?_;refine yM ?_;refine yM ?_;refine y3 ?_;refine wE_ret ?_
  exact endA_ret hr.log rfl (.inl ⟨h0,rfl⟩)
 ·refine yM ?_;refine yD ?_;refine ysub ?_;refine ysub ?_;refine yM ?_;refine y3 ?_;refine y4 ?_;refine yM ?_;refine yt ?_;refine y3 ?_;refine yY ?_;refine wE_region ?_;refine yM ?_;refine yM ?_
  refine wO_val (a_cap (by exact rfl) (by omega)) ?_
  refine wO_val (a_sliceNil (by exact rfl) (by exact bnd_some (n:=0) rfl)) ?_
  refine yM ?_
  rw[show(n:Int)-(((0:Nat):Int)-((0:Nat):Int))=n by omega]
  refine wO_val (a_appN_nil (by exact rfl) (by exact rfl) h0 (by omega) (by omega) (by omega) (by exact rfl)) ?_
  refine yM ?_;refine yD ?_
  refine wO_val (a_slice_hi (i:=0) (n:=n) (by exact rfl) (by exact rfl) (z3 _ _) (Nat.zero_le _) (by omega)) ?_
  refine yM ?_;refine y3 ?_;refine y4 ?_;refine yM ?_;refine yM ?_;refine y3 ?_;refine wE_ret ?_
  exact endA_ret hr.log rfl (.inr ⟨by omega,h.next,Nat.le_refl _,Nat.lt_succ_self _,rfl,z3 _ _⟩)
theorem concat0(F:FnsJ T){h:Heap}(hr:Rdy h):Pu T 150 [.slice none 0 0] h (.slice none 0 0):=by
 refine .of F.p F.f150 hr rfl ?_
 refine y4 ?_;refine yM ?_;refine y3 ?_;refine y4 ?_;refine yM ?_;refine y3 ?_;refine wE_seq ?_;refine y4 ?_;refine yM ?_;refine yD ?_;refine yM ?_;refine y3 ?_;refine wE_block ?_
 refine wE_round ?_
 refine y4 ?_;refine yf ?_;refine y3 ?_;refine wE_seq ?_;refine yX ?_;refine wE_exit ?_;refine kS_e ?_;refine kS_e ?_;refine kB_e ?_;refine kS_n ?_
 refine y4 ?_;refine yM ?_
 refine yC ?_
 refine FW.al (grow176 F (.of hr.wf) (n:=0) (by omega)) (fun _ _ _ q=>q) ?_
 rintro _ h2 hx2 (⟨_,rfl⟩|⟨h0,_⟩)
 ·refine yM ?_;refine y3 ?_;refine wE_seq ?_;refine y4 ?_;refine yM ?_;refine yD ?_;refine yM ?_;refine y3 ?_;refine wE_block ?_
  refine wE_round ?_
  refine y4 ?_;refine yf ?_;refine y3 ?_;refine wE_seq ?_;refine yX ?_;refine wE_exit ?_;refine kS_e ?_;refine kS_e ?_;refine kB_e ?_;refine kS_n ?_
  refine y4 ?_;refine yM ?_;refine yM ?_;refine y3 ?_;refine wE_ret ?_
  exact endP_ret (hx2.log.trans hr.log) rfl rfl
 ·omega
theorem put1{n1 n2:Nat}{z cs:List Value}(hz:z.length=2)(hc:cs.length=n1*2):lputs (lrow (n1+n2) z) (0+0*2) cs=cs++lrow n2 z:=by
 rw[lputs_mid (by rw[lrow_len,hz];omega)]
 simp only[Nat.zero_mul,Nat.add_zero,Nat.zero_add,List.take_zero,List.nil_append]
 rw[hc,lrow_add,show n1*2=(lrow n1 z).length by rw[lrow_len,hz],List.drop_left]
theorem put2{n1 n2:Nat}{z c1 cs:List Value}(hz:z.length=2)(h1:c1.length=n1*2)(hc:cs.length=n2*2):lputs (c1++lrow n2 z) (0+n1*2) cs=c1++cs:=by
 rw[lputs_mid (by rw[List.length_append,lrow_len,hz];omega),Nat.zero_add,←h1,List.take_left,hc]
 rw[List.drop_of_length_le (by rw[List.length_append,lrow_len,hz];omega),List.append_nil]
set_option maxHeartbeats 8000000 in
theorem concat2(F:FnsJ T){h:Heap}(hr:Rdy h){p n1 n2:Nat}{v1 v2:Value}{cs1 cs2:List Value}(gp:h.get p=some (.cells [v1,v2] true 1))(s1:SliceOf h 2 v1 n1 cs1)(s2:SliceOf h 2 v2 n2 cs2)(o1:ones cs1=true)(o2:ones cs2=true)(h1:0<n1)(hb:n1+n2<100000):
 Al T 150 [.slice (some ⟨p,0,none⟩) 2 2] h fun v h'=>∃q,v= .slice (some ⟨q,0,none⟩) (n1+n2) UNK∧q<h'.next∧h'.get q=some (.cells (cs1++cs2) true 2):=by
 refine .of F.p F.f150 hr (fun v h1 hv q=> ?_) ?_
 ·obtain⟨q,rfl,_⟩:=q
  simp[noRef,flatL,flat,scalL,scal,scal1]at hv
 obtain⟨a1,c1,rfl⟩:=s1.form
 obtain⟨a2,c2,rfl⟩:=s2.form
 have kp:=WF.get_lt hr.wf gp
 have l1:=s1.len
 have l2:=s2.len
 refine y4 ?_;refine yM ?_;refine y3 ?_;refine y4 ?_;refine yM ?_;refine y3 ?_;refine wE_seq ?_;refine y4 ?_;refine yM ?_;refine yD ?_;refine yM ?_;refine y3 ?_;refine wE_block ?_
 refine wE_round ?_
 refine y4 ?_;refine yt ?_;refine y3 ?_;refine wE_seq ?_;refine yY ?_;refine wE_skip ?_;refine kS_n ?_;refine wE_seq ?_;refine wE_block ?_;refine y4 ?_
 refine wO_val (a_iaddrS (i:=0) (by exact rfl) (by exact rfl) (by omega)) ?_
 refine yL ?_;refine yM ?_;refine y3 ?_;refine y4 ?_;refine yM ?_;refine yM ?_
 refine yD ?_;refine yadd ?_;refine yM ?_;refine y3 ?_;refine y4 ?_
 refine yM ?_;refine yf ?_;refine y3 ?_;refine yX ?_;refine wE_skip ?_;refine kB_n ?_;refine kS_n ?_;refine wE_region ?_
 refine yadd ?_;refine yM ?_;refine y3 ?_
 refine wE_round ?_
 refine y4 ?_;refine yt ?_;refine y3 ?_;refine wE_seq ?_;refine yY ?_;refine wE_skip ?_;refine kS_n ?_;refine wE_seq ?_;refine wE_block ?_;refine y4 ?_
 refine wO_val (a_iaddrS (i:=1) (by exact rfl) (by exact rfl) (by omega)) ?_
 refine yL ?_;refine yM ?_;refine y3 ?_;refine y4 ?_;refine yM ?_;refine yM ?_
 refine yD ?_;refine yadd ?_;refine yM ?_;refine y3 ?_;refine y4 ?_
 refine yM ?_;refine yf ?_;refine y3 ?_;refine yX ?_;refine wE_skip ?_;refine kB_n ?_;refine kS_n ?_;refine wE_region ?_
 refine yadd ?_;refine yM ?_;refine y3 ?_
 refine wE_round ?_
 refine y4 ?_;refine yf ?_;refine y3 ?_;refine wE_seq ?_;refine yX ?_;refine wE_exit ?_;refine kS_e ?_;refine kS_e ?_;refine kB_e ?_;refine kS_n ?_
 refine y4 ?_;refine yM ?_
 rw[show(0:Int)+(n1:Int)+(n2:Int)=((n1+n2:Nat):Int)by omega]
 refine yC ?_
 refine FW.al (grow176 F (.of hr.wf) hb) (fun _ _ _ q=>q) ?_
 rintro _ h2 hx2 (⟨h0,_⟩|⟨_,q,hq1,hq2,rfl,gq⟩)
 ·omega
 have gp2:=(hx2.old _ kp).trans gp
 have t1:=s1.ext hx2
 have hq1':h.next≤q:=hq1
 have hpq:p≠q:=by omega
 clear gp
 refine yM ?_;refine y3 ?_;refine wE_seq ?_;refine y4 ?_;refine yM ?_;refine yD ?_;refine yM ?_;refine y3 ?_;refine wE_block ?_
 refine wE_round ?_
 refine y4 ?_;refine yt ?_;refine y3 ?_;refine wE_seq ?_;refine yY ?_;refine wE_skip ?_;refine kS_n ?_;refine wE_seq ?_;refine wE_block ?_;refine y4 ?_
 refine wO_val (a_iaddrS (i:=0) (by exact rfl) (by exact rfl) (by omega)) ?_
 refine yL ?_;refine yM ?_;refine y3 ?_;refine wE_region ?_;refine yM ?_;refine yM ?_
 refine wO_val (a_app_fit (len:=0) (n:=n1) (ws:=cs1++lrow n2 [.int .u8 0, .int .i64 0]) (by exact rfl) (by exact rfl) (src_of t1) (by omega) gq (by rw[lrow_len];simp;omega) o1 (by omega) (put1 rfl l1)) ?_
 have hx3:Ext h (h2.wr h.next q (.cells (cs1++lrow n2 [.int .u8 0, .int .i64 0]) true 2)):=hx2.wr hq1' hq1'
 have gq3:(h2.wr h.next q (.cells (cs1++lrow n2 [.int .u8 0, .int .i64 0]) true 2)).get q=some (.cells (cs1++lrow n2 [.int .u8 0, .int .i64 0]) true 2):=Heap.get_wr_new gq
 have gp3:(h2.wr h.next q (.cells (cs1++lrow n2 [.int .u8 0, .int .i64 0]) true 2)).get p=some (.cells [.slice a1 n1 c1, .slice a2 n2 c2] true 1):=(z5 hpq).trans gp2
 have hq3:q<(h2.wr h.next q (.cells (cs1++lrow n2 [.int .u8 0, .int .i64 0]) true 2)).next:=hq2
 generalize Heap.wr h2 h.next q _=h3 at*
 have t2:=s2.ext hx3
 clear gq gp2
 refine yM ?_;refine wO_nil ?_;refine y1 ?_;refine kB_n ?_;refine kS_n ?_;refine wE_region ?_;refine yadd ?_;refine yM ?_;refine y3 ?_
 refine wE_round ?_
 refine y4 ?_;refine yt ?_;refine y3 ?_;refine wE_seq ?_;refine yY ?_;refine wE_skip ?_;refine kS_n ?_;refine wE_seq ?_;refine wE_block ?_;refine y4 ?_
 refine wO_val (a_iaddrS (i:=1) (by exact rfl) (by exact rfl) (by omega)) ?_
 refine yL ?_;refine yM ?_;refine y3 ?_;refine wE_region ?_;refine yM ?_;refine yM ?_
 by_cases h0:n2=0
 ·subst h0
  obtain rfl:cs2=[]:=List.length_eq_zero_iff.1 (by simpa using l2)
  refine wO_val (a_app_zero (by exact rfl) (by exact rfl) (src_of t2) (by unfold UNK;omega)) ?_
  refine yM ?_;refine wO_nil ?_;refine y1 ?_;refine kB_n ?_;refine kS_n ?_;refine wE_region ?_;refine yadd ?_;refine yM ?_;refine y3 ?_
  refine wE_round ?_
  refine y4 ?_;refine yf ?_;refine y3 ?_;refine wE_seq ?_;refine yX ?_;refine wE_exit ?_;refine kS_e ?_;refine kS_e ?_;refine kB_e ?_;refine kS_n ?_
  refine y4 ?_;refine yM ?_;refine yM ?_;refine y3 ?_;refine wE_ret ?_
  refine endA_ret (hx3.log.trans hr.log) rfl ⟨q,?_,hq3,?_⟩
  ·show Value.slice _ (0+n1) UNK=_
   rw[Nat.zero_add];rfl
  ·rw[gq3];simp[lrow]
 ·refine wO_val (a_app_fit (len:=0+n1) (n:=n2) (ws:=cs1++cs2) (by exact rfl) (by exact rfl) (src_of t2) h0 gq3 (by rw[List.length_append,lrow_len];simp;omega) o2 (by omega) (by rw[show 0+(0+n1)*2=0+n1*2 by omega];exact put2 (z:=[.int .u8 0, .int .i64 0]) rfl l1 l2)) ?_
  refine yM ?_;refine wO_nil ?_;refine y1 ?_;refine kB_n ?_;refine kS_n ?_;refine wE_region ?_;refine yadd ?_;refine yM ?_;refine y3 ?_
  refine wE_round ?_
  refine y4 ?_;refine yf ?_;refine y3 ?_;refine wE_seq ?_;refine yX ?_;refine wE_exit ?_;refine kS_e ?_;refine kS_e ?_;refine kB_e ?_;refine kS_n ?_
  refine y4 ?_;refine yM ?_;refine yM ?_;refine y3 ?_;refine wE_ret ?_
  refine endA_ret ((hx3.wr hq1' hq1').log.trans hr.log) rfl ⟨q,?_,hq3,Heap.get_wr_new gq3⟩
  show Value.slice _ (0+n1+n2) UNK=_
  rw[Nat.zero_add]
def nd(x:Nat×Nat):List Value:=[.int .u8 x.1, .int .i64 x.2]
theorem joined0(F:FnsJ T){h:Heap}(hr:Rdy h)(x:Nat×Nat):Al T 126 [nodeV x, .slice none 0 0] h fun v h'=>∃q,v= .slice (some ⟨q,0,none⟩) 1 1∧h.next≤q∧q<h'.next∧h'.get q=some (.cells (nd x) true 2):=by
 refine .of F.p F.f126 hr (fun v h1 hv q=> ?_) ?_
 ·obtain⟨q,rfl,_⟩:=q
  simp[noRef,flatL,flat,scalL,scal,scal1]at hv
 obtain⟨x1,x2⟩:=x
 unfold nodeV nd
 refine y4 ?_;refine yB ?_;refine yM ?_;refine y3 ?_;refine wE_seq ?_;refine wE_draw ?_
 refine qN ?_
 refine wD_new rfl rfl rfl (by exact rfl) (by exact rfl) (by exact rfl) (a_bslice (by exact rfl) (by exact rfl)) (by refine rs_cons (rq_quiet rfl (a_loadN (by exact rfl) (by(simp(disch:=first|omega|(simp only[z1,z2];omega))only[z3,z4,z5,z6,z7,z1,z2, *];exact rfl)) (by exact rfl) (by exact rfl)) (by exact sv_agg (by refine sl_cons (s1_int _ _) ?_;refine sl_cons (s1_int _ _) ?_;exact sl_nil))) ?_;exact rs_nil) ?_
 refine qM ?_
 refine qC ?_
 have hx:Ext h ((h.push (.cells [.int .u8 x1, .int .i64 x2] true 1)).push (.cells [.int .u8 x1, .int .i64 x2] true 2)):=((Ext.refl h).push _).push _
 refine FW.puD (concat0 F (.of (hx.wf hr.wf))) (by apply ra_dropC rfl;apply ra_keepC rfl (rq_made rfl) (by rfl);apply ra_keepC rfl (rq_quiet rfl (a_loadN (by exact rfl) (by(simp(disch:=first|omega|(simp only[z1,z2];omega))only[z3,z4,z5,z6,z7,z1,z2, *];exact rfl)) (by exact rfl) (by exact rfl)) (by exact sv_agg (by refine sl_cons (s1_int _ _) ?_;refine sl_cons (s1_int _ _) ?_;exact sl_nil))) rfl;exact ra_nil) ?_
 skip
 refine wD_app_zero rfl rfl rfl (by exact rfl) (by exact rfl) (by exact rfl) (by exact rfl) (Nat.le_refl _) (by apply ra_dropC rfl;apply ra_dropC rfl;exact ra_nil) ?_
 refine qM ?_;refine wD_nil ?_;refine y1 ?_;refine kS_n ?_;refine wE_ret ?_
 exact endA_ret hr.log rfl ⟨h.next+1,rfl,Nat.le_succ _,Nat.lt_succ_self _,z3 _ _⟩
set_option maxHeartbeats 4000000 in
theorem joined2(F:FnsJ T){h:Heap}(hr:Rdy h)(x:Nat×Nat){p n1 n2:Nat}{v1 v2:Value}{cs1 cs2:List Value}(gp:h.get p=some (.cells [v1,v2] true 1))(s1:SliceOf h 2 v1 n1 cs1)(s2:SliceOf h 2 v2 n2 cs2)(o1:ones cs1=true)(o2:ones cs2=true)(h1:0<n1)(hb:n1+n2<100000):
 Al T 126 [nodeV x, .slice (some ⟨p,0,none⟩) 2 2] h fun v h'=>∃q,v= .slice (some ⟨q,0,none⟩) (1+(n1+n2)) UNK∧h.next≤q∧q<h'.next∧h'.get q=some (.cells (nd x++(cs1++cs2)) true 2):=by
 refine .of F.p F.f126 hr (fun v h1 hv q=> ?_) ?_
 ·obtain⟨q,rfl,_⟩:=q
  simp[noRef,flatL,flat,scalL,scal,scal1]at hv
 obtain⟨x1,x2⟩:=x
 unfold nodeV nd
 have kp:=WF.get_lt hr.wf gp
 have l1:=s1.len
 have l2:=s2.len
 refine y4 ?_;refine yB ?_;refine yM ?_;refine y3 ?_;refine wE_seq ?_;refine wE_draw ?_
 refine qN ?_
 refine wD_new rfl rfl rfl (by exact rfl) (by exact rfl) (by exact rfl) (a_bslice (by exact rfl) (by exact rfl)) (by refine rs_cons (rq_quiet rfl (a_loadN (by exact rfl) (by(simp(disch:=first|omega|(simp only[z1,z2];omega))only[z3,z4,z5,z6,z7,z1,z2, *];exact rfl)) (by exact rfl) (by exact rfl)) (by exact sv_agg (by refine sl_cons (s1_int _ _) ?_;refine sl_cons (s1_int _ _) ?_;exact sl_nil))) ?_;exact rs_nil) ?_
 refine qM ?_
 refine qC ?_
 have hx:Ext h ((h.push (.cells [.int .u8 x1, .int .i64 x2] true 1)).push (.cells [.int .u8 x1, .int .i64 x2] true 2)):=((Ext.refl h).push _).push _
 refine FW.alD (concat2 F (.of (hx.wf hr.wf)) ((hx.old _ kp).trans gp) ((s1.ext hx).log []) ((s2.ext hx).log []) o1 o2 h1 hb) (fun _ _ _ q=>q) ?_
 rintro _ h2 hx2 ⟨q,rfl,hq,gq⟩
 have g0:h2.get h.next=some (.cells [.int .u8 x1, .int .i64 x2] true 1):=by rw[hx2.old _ (by(simp only[z1,z2];omega))];(simp(disch:=first|omega|(simp only[z1,z2];omega))only[z3,z4,z5,z6,z7,z1,z2, *];exact rfl)
 have g1:h2.get (h.next+1)=some (.cells [.int .u8 x1, .int .i64 x2] true 2):=by rw[hx2.old _ (by(simp only[z1,z2];omega))];(simp(disch:=first|omega|(simp only[z1,z2];omega)|(simp only[z1,z2];done)|fail)only[z8,z4,z5,z9,z7,z1,z2, *];exact rfl)
 refine⟨_,by apply ra_dropC rfl;apply ra_keepC rfl (rq_made rfl) (by rfl);apply ra_keepC rfl (rq_quiet rfl (a_loadN (by exact rfl) (by assumption) (by exact rfl) (by exact rfl)) (by exact sv_agg (by refine sl_cons (s1_int _ _) ?_;refine sl_cons (s1_int _ _) ?_;exact sl_nil))) rfl;exact ra_nil,?_⟩
 have hk2:h.next+2≤h2.next:=hx2.next
 skip
 refine wD_app_full (n:=n1+n2) (ws:= .int .u8 x1:: .int .i64 x2::(cs1++cs2)) rfl rfl rfl (by exact rfl) (by exact rfl) (by exact rfl) (src_log (src_slice gq (by rw[ltake_eq,ldrop_eq,List.drop_zero,List.take_of_length_le (by rw[List.length_append,l1,l2];omega)]) (by rw[List.length_append,l1,l2];omega))) (by omega) (by omega) (by unfold UNK;omega) g1 (by simp) (by omega) (by rw[lcat_eq];rfl) (by apply ra_dropC rfl;apply ra_dropC rfl;exact ra_nil) ?_
 refine qM ?_;refine wD_nil ?_;refine y1 ?_;refine kS_n ?_;refine wE_ret ?_
 exact endA_ret ((hx.trans hx2).log.trans hr.log) rfl ⟨h2.next,rfl,by omega,Nat.lt_succ_self _,z3 _ _⟩
end Go.A.Pk
end
section
set_option maxRecDepth 100000
namespace Go.A.Pk
variable {T:Nat→Option AFunc}
def asgP0:ACode:=(.region [g 7 (.new [(.int .u8 0),(.int .i64 0)]),⟨none, .store 2 (t 7) (t 16),none⟩] [3,4,5,6,7])
def bodyP0:ACode:=(.block 1 (.seq (.draw [g 17 (.load none (t 3)),g 18 (.nilchk (t 17)),g 19 (.faddr 2 (t 18)),g 20 (.load none (t 19)),g 21 (.faddr 1 (t 7)),g 22 (.load none (t 21)),g 23 (.iaddrS 1 (t 20) (t 22)),g 24 (.load none (t 23)),g 25 (.load none (t 4)),g 26 (.load (some 2) (t 5)),g 27 (.lookup true [.i .i64, .i .i64] (.int .i64 0) false (t 25) (t 26)),g 28 (.bin (.num .eql) (t 24) (t 27))] [0,1,2,3,4,5,6,7,8,9,10,11] [0,1,3,7,0,16,63,127,0,0,768,2047] [6,7,28])
 (.cond (t 28) (.seq (.region [g 29 (.load (some 2) (t 7)),g 30 (.call (.func 126) [(t 29),(.const (.slice none 0 0))]),⟨none, .store 1 (t 6) (t 30),none⟩] [])
 .ret) .skip)))
def asgP1:ACode:=(.region [g 8 (.new [(.int .u8 0),(.int .i64 0)]),⟨none, .store 2 (t 8) (t 38),none⟩] [3,4,5,6,8])
def bodyP1:ACode:=(.block 3 (.seq (.region [g 40 (.load none (t 3)),g 41 (.load (some 2) (t 5)),g 42 (.load (some 2) (t 8)),g 43 (.call (.func 106) [(t 40),(t 41),(t 42)]),g 39 (.mov (t 43)),g 44 (.extract (t 39) 0),g 45 (.extract (t 39) 1),g 9 (.new [(.int .i64 0),(.int .i64 0)]),g 10 (.new [(.int .i64 0),(.int .i64 0)]),⟨none, .store 2 (t 9) (t 44),none⟩,⟨none, .store 2 (t 10) (t 45),none⟩] [3,4,5,6,8,9,10])
 (.seq (.draw [g 46 (.load none (t 4)),g 47 (.load (some 2) (t 9)),g 48 (.lookup true [.i .i64, .i .i64] (.int .i64 0) false (t 46) (t 47)),g 49 (.load none (t 4)),g 50 (.load (some 2) (t 10)),g 51 (.lookup true [.i .i64, .i .i64] (.int .i64 0) false (t 49) (t 50)),g 52 (.bin (.num .add) (t 48) (t 51)),g 53 (.load none (t 4)),g 54 (.load (some 2) (t 5)),g 55 (.lookup true [.i .i64, .i .i64] (.int .i64 0) false (t 53) (t 54)),g 56 (.bin (.num .eql) (t 52) (t 55))] [0,1,2,3,4,5,6,7,8,9,10] [0,0,3,0,0,24,63,0,0,384,1023] [3,4,6,8,9,10,56])
 (.cond (t 56) (.seq (.draw [g 57 (.load (some 2) (t 8)),g 58 (.load none (t 3)),g 59 (.load none (t 4)),g 60 (.load (some 2) (t 9)),g 61 (.call (.func 84) [(t 58),(t 59),(t 60)]),g 62 (.load none (t 3)),g 63 (.load none (t 4)),g 64 (.load (some 2) (t 10)),g 65 (.call (.func 84) [(t 62),(t 63),(t 64)]),g 66 (.bslice [(.slice none 0 0)] 2 [(0,1,(t 61)),(1,1,(t 65))]),g 67 (.call (.func 126) [(t 57),(t 66)]),⟨none, .store 1 (t 6) (t 67),none⟩] [0,1,2,3,5,6,7,4,8,9,10,11] [0,0,0,0,14,0,0,0,254,510,1023,2047] [])
 .ret) .skip))))
def ncs:List (Nat×Nat)→List Value
 |[]=>[]
 |x::l=>nd x++ncs l
theorem ncs_len:∀l,(ncs l).length=l.length*2
 |[]=>rfl
 |x::l=>by simp[ncs,nd,ncs_len l];omega
theorem ncs_app:∀l m,ncs (l++m)=ncs l++ncs m
 |[],m=>rfl
 |x::l,m=>by simp[ncs,ncs_app l m]
theorem ones_ncs:∀l,ones (ncs l)=true
 |[]=>rfl
 |x::l=>by
  have:=ones_ncs l
  simp only[ncs,nd,List.cons_append,List.nil_append,ones]at this⊢
  simpa using this
inductive PlanR (kerf:Int) (ws:List Int) (kl:List Kd) (t:Tab):Int×Int→List (Nat×Nat)→Prop
 |none {p:Int×Int}:¬ (1≤p.1∧1≤p.2)→PlanR kerf ws kl t p []
 |leaf {a b:Nat} {x:Nat×Nat}:1≤a→1≤b→x∈leavesL a b kl 0→ws.getD x.2 0=look t ((a:Int),(b:Int))→PlanR kerf ws kl t ((a:Int),(b:Int)) [x]
 |cut {a b:Nat} {x:Nat×Nat} {n1 n2:List (Nat×Nat)}:1≤a→1≤b→x∈cutsL a b→look t (oneB x a b)+look t (twoB kerf x a b)=look t ((a:Int),(b:Int))→PlanR kerf ws kl t (oneB x a b) n1→PlanR kerf ws kl t (twoB kerf x a b) n2→PlanR kerf ws kl t ((a:Int),(b:Int)) (x::(n1++n2))
 |waste {a b:Nat}:1≤a→1≤b→(∀x∈leavesL a b kl 0,ws.getD x.2 0≠look t ((a:Int),(b:Int)))→(0<look t ((a:Int),(b:Int))→∀x∈cutsL a b,look t (oneB x a b)+look t (twoB kerf x a b)≠look t ((a:Int),(b:Int)))→PlanR kerf ws kl t ((a:Int),(b:Int)) [(0,0)]
def areaN(p:Int×Int):Nat:=p.1.toNat*p.2.toNat
theorem cut_area{kerf:Int}(hk:0≤kerf){a b:Nat}(ha:1≤a)(hb:1≤b){x:Nat×Nat}(hx:x∈cutsL a b):1≤areaN (oneB x a b)∧areaN (oneB x a b)<a*b∧areaN (oneB x a b)+areaN (twoB kerf x a b)≤a*b:=by
 unfold areaN
 rcases cuts_of hx with⟨e3,hl,hu⟩|⟨e4,hl,hu⟩
 ·simp only[oneB,twoB,e3,if_true]
  generalize hm:((a:Int)-x.2-kerf).toNat=m
  have hm':m≤a-x.2:=by omega
  simp only[Int.toNat_natCast]
  refine⟨Nat.mul_pos hl (by omega),Nat.mul_lt_mul_of_pos_right (by omega) (by omega),?_⟩
  rw[←Nat.add_mul]
  exact Nat.mul_le_mul_right _ (by omega)
 ·have n3:¬x.1=3:=by omega
  simp only[oneB,twoB,if_neg n3]
  generalize hm:((b:Int)-x.2-kerf).toNat=m
  have hm':m≤b-x.2:=by omega
  simp only[Int.toNat_natCast]
  refine⟨Nat.mul_pos (by omega) hl,Nat.mul_lt_mul_of_pos_left (by omega) (by omega),?_⟩
  rw[←Nat.mul_add]
  exact Nat.mul_le_mul_left _ (by omega)
theorem plan_len{kerf:Int}(hk:0≤kerf){ws:List Int}{kl:List Kd}{t:Tab}{p:Int×Int}{ns:List (Nat×Nat)}(h:PlanR kerf ws kl t p ns):ns.length≤2*areaN p-1:=by
 induction h with
 |none _=>simp
 | @leaf a b x ha hb _ _=>
   have e:areaN ((a:Int),(b:Int))=a*b:=rfl
   have:0<a*b:=Nat.mul_pos ha hb
   simp only[List.length_singleton];omega
 | @cut a b x n1 n2 ha hb hx _ _ _ h1 h2=>
   have⟨q1,q2,q3⟩:=cut_area hk ha hb hx
   have e:areaN ((a:Int),(b:Int))=a*b:=rfl
   simp only[List.length_cons,List.length_append]
   omega
 | @waste a b ha hb _ _=>
   have e:areaN ((a:Int),(b:Int))=a*b:=rfl
   have:0<a*b:=Nat.mul_pos ha hb
   simp only[List.length_singleton];omega
theorem plan_pos{kerf:Int}{ws:List Int}{kl:List Kd}{t:Tab}{p:Int×Int}{ns:List (Nat×Nat)}(h:PlanR kerf ws kl t p ns)(hp:1≤p.1∧1≤p.2):0<ns.length:=by
 cases h with
 |none h=>exact absurd hp h
 |_=>simp
def U2(h:Heap)(v:Value):Prop:=∀b o n,v= .slice (some ⟨b,o,none⟩) n UNK→∃vs own,h.get b=some (.cells vs own 2)
def PlanQ(kerf:Int)(ws:List Int)(kl:List Kd)(t:Tab)(p:Int×Int)(v:Value)(h:Heap):Prop:=∃ns a c,PlanR kerf ws kl t p ns∧v= .slice a ns.length c∧SliceOf h 2 (.slice a ns.length c) ns.length (ncs ns)∧U2 h v∧(c=UNK∨c<1000000)
theorem PlanQ.log{kerf:Int}{ws:List Int}{kl:List Kd}{t:Tab}{p:Int×Int}(v:Value)(h':Heap)(m:List Nat)(q:PlanQ kerf ws kl t p v h'):PlanQ kerf ws kl t p v {h' with log:=m}:=by
 obtain⟨ns,a,c,h1,h2,h3,h4⟩:=q
 exact⟨ns,a,c,h1,h2,h3.log m,h4⟩
structure BenchT (h:Heap) (bb mb:Nat) (sa:Option Addr) (n c:Nat) (kerf:Int) (wa:Option Addr) (wc:Nat) (kl:List Kd) (ws:List Int) (t:Tab):Prop where
 gb:h.get bb=some (.cells [.slice sa n c, .int .i64 kerf, .slice wa n wc] true 1)
 gm:h.get mb=some (.map (ents t))
 hks:SliceOf h 5 (.slice sa n c) n (kcs kl)
 hws:SliceOf h 1 (.slice wa n wc) n (ints ws)
theorem BenchT.keep{h h':Heap}{bb mb:Nat}{sa:Option Addr}{n c:Nat}{kerf:Int}{wa:Option Addr}{wc:Nat}{kl:List Kd}{ws:List Int}{t:Tab}(B:BenchT h bb mb sa n c kerf wa wc kl ws t)(hw:WF h)(hn:h.next≤h'.next)(ha:∀z,z<h.next→(∃v o s,h.get z=some (.cells v o s))∨(∃m,h.get z=some (.map m))→h'.get z=h.get z):BenchT h' bb mb sa n c kerf wa wc kl ws t:=
 ⟨(ha _ (WF.get_lt hw B.gb) (.inl ⟨_,_,_,B.gb⟩)).trans B.gb,(ha _ (WF.get_lt hw B.gm) (.inr ⟨_,B.gm⟩)).trans B.gm,SliceOf.agree B.hks hn fun b vs o s hb he=>ha b hb (.inl ⟨_,_,_,he⟩),SliceOf.agree B.hws hn fun b vs o s hb he=>ha b hb (.inl ⟨_,_,_,he⟩)⟩
theorem BenchT.ext{h h':Heap}{bb mb:Nat}{sa:Option Addr}{n c:Nat}{kerf:Int}{wa:Option Addr}{wc:Nat}{kl:List Kd}{ws:List Int}{t:Tab}(B:BenchT h bb mb sa n c kerf wa wc kl ws t)(hw:WF h)(x:Ext h h'):BenchT h' bb mb sa n c kerf wa wc kl ws t:=B.keep hw x.next fun z hz _=>x.old z hz
structure PX (H:Heap) (l p6:Nat) (L2:AObj) (D:List (Nat×Nat)→Prop) (H':Heap):Prop where
 old:∀z,z<H.next→z≠l→z≠p6→H'.get z=H.get z
 nx:H.next≤H'.next
 loop:H'.get l=some L2
 out:∃ns q c,D ns∧H.next≤q∧q<H'.next∧(ns.length≤c∧(c=UNK∨c<1000000))∧H'.get p6=some (.cells [.slice (some ⟨q,0,none⟩) ns.length c] true 1)∧H'.get q=some (.cells (ncs ns) true 2)
structure FnsPl (T:Nat→Option AFunc):Prop extends FnsV T,FnsJ T where
 f125:T 125=some f125
 f84:T 84=some f84
set_option maxHeartbeats 8000000 in
theorem plan_leaf(F:FnsPl T){H:Heap}(hr:Rdy H){lo N l p3 p4 p5 p6 bb mb a b n c wc:Nat}{sa wa:Option Addr}{kerf:Int}{kl:List Kd}{ws:List Int}{t:Tab}{fv o6:Value}{x:Nat×Nat}(hx:x.2<n)(B:BenchT H bb mb sa n c kerf wa wc kl ws t)
 (gl:H.get l=some (.loop [(3, .pointer (some ⟨p3,0,none⟩)),(4, .pointer (some ⟨p4,0,none⟩)),(5, .pointer (some ⟨p5,0,none⟩)),(6, .pointer (some ⟨p6,0,none⟩)),(15,fv)] [16] asgP0 bodyP0 0 .normal))
 (g3:H.get p3=some (.cells [.pointer (some ⟨bb,0,none⟩)] true 1))(g4:H.get p4=some (.cells [.map (some mb)] true 1))(g5:H.get p5=some (.cells [.int .i64 a, .int .i64 b] true 1))(g6:H.get p6=some (.cells [o6] true 1))(hp6:lo≤p6∧p6<N)(hlo:lo≤l∧l<N):
 FW T (.yield l) [nodeV x] H fun r H'=>(∀z∈H'.log,lo≤z∧z<N)∧(r= .ret (.bool true)∧((∀z,z<H.next→H'.get z=H.get z)∧H.next≤H'.next∧ws.getD x.2 0≠look t ((a:Int),(b:Int)))∨
  r= .ret (.bool false)∧l∈H'.log∧PX H l p6 (.loop [(3, .pointer (some ⟨p3,0,none⟩)),(4, .pointer (some ⟨p4,0,none⟩)),(5, .pointer (some ⟨p5,0,none⟩)),(6, .pointer (some ⟨p6,0,none⟩)),(15,fv)] [16] asgP0 bodyP0 2 .ret) (fun ns=>ns=[x]∧ws.getD x.2 0=look t ((a:Int),(b:Int))) H'):=by
 have hlen:ws.length=n:=by have:=B.hws.len;simp[ints]at this;omega
 have gb:=B.gb
 have gm:=B.gm
 rcases B.hws.inv with⟨_,_,h0,_⟩|⟨b0,o0,cap,hv,s,hcap⟩
 ·omega
 cases hv
 obtain⟨vs,own',t0,gw,gx⟩:=slice_elem1 s (ints_get (l:=ws) (i:=x.2) (by omega))
 clear s
 have n3:=ne_loop g3 gl
 have n4:=ne_loop g4 gl
 have n5:=ne_loop g5 gl
 have n6:=ne_loop g6 gl
 have nb:=ne_loop gb gl
 have nm:=ne_map gm gl
 have nw:=ne_loop gw gl
 have k3:=WF.get_lt hr.wf g3
 have k4:=WF.get_lt hr.wf g4
 have k5:=WF.get_lt hr.wf g5
 have k6:=WF.get_lt hr.wf g6
 have kb:=WF.get_lt hr.wf gb
 have km:=WF.get_lt hr.wf gm
 have kw:=WF.get_lt hr.wf gw
 have kl':=WF.get_lt hr.wf gl
 refine FW.yieldX F.toFnsV.p (R:=fun H'=>(∀z,z<H.next→H'.get z=H.get z)∧H.next≤H'.next∧ws.getD x.2 0≠look t ((a:Int),(b:Int))) gl rfl kl' hlo ?_
 obtain⟨x1,x2⟩:=x
 unfold asgP0 nodeV
 refine wE_region ?_;refine wO_val a_new ?_;refine yS ?_;refine wO_nil ?_
 refine y1 ?_
 refine⟨rfl,by(simp(disch:=first|omega|(simp only[z1,z2];omega))only[z3,z4,z5,z6,z7,z1,z2, *];exact rfl),?_⟩
 unfold bodyP0
 dsimp only at hx gx⊢
 generalize ws.getD x2 0=w1 at*
 generalize hw0:look t ((a:Int),(b:Int))=w0 at*
 refine wE_block ?_;refine wE_seq ?_;refine wE_draw ?_;refine qL ?_
 refine wD_quiet rfl rfl rfl (by exact rfl) (by exact rfl) (by exact rfl) (a_nilchk (by exact rfl)) ?_;refine qF ?_
 refine qL ?_
 refine qF ?_
 refine qL ?_
 refine wD_quiet rfl rfl rfl (by exact rfl) (by exact rfl) (by exact rfl) (a_iaddrS (by exact rfl) (by exact rfl) (by omega)) ?_
 refine wD_quiet rfl rfl rfl (by exact rfl) (by exact rfl) (by exact rfl) (a_load (by exact rfl) (by(simp(disch:=first|omega|(simp only[z1,z2];omega))only[z3,z4,z5,z6,z7,z1,z2, *];exact rfl)) (by assumption)) ?_
 refine qL ?_
 refine qN ?_
 refine wD_quiet rfl rfl rfl (by exact rfl) (by exact rfl) (by exact rfl) (a_lookup (x:=((a:Int),(b:Int))) (by exact rfl) (by exact rfl) (by(simp(disch:=first|omega|(simp only[z1,z2];omega))only[z3,z4,z5,z6,z7,z1,z2, *];exact rfl))) ?_
 rw[hw0]
 clear hw0
 by_cases hw:w1=w0
 ·have hwn:¬w1≠w0:=fun q=>q hw
  have hw':PLift (w1=w0):=⟨hw⟩
  refine wD_quiet rfl rfl rfl (by exact rfl) (by exact rfl) (by exact rfl) (a_num (by exact rfl) (by exact rfl) (by exact m_eqlT (by omega))) ?_;refine wD_nil ?_;refine y1 ?_;refine kS_n ?_;refine yY ?_;refine y4 ?_
  refine yN ?_
  refine WO.gen ?_
  intro hA hAe
  have A1:∀z,z<H.next→z≠l→hA.get z=H.get z:=fun z hz hne=>by rw[hAe];simp(disch:=first|omega|(simp only[z1,z2];omega))only[z5,z4]
  have A2:∃o,hA.get l=some o∧busy o=true:=⟨_,by rw[hAe];(simp(disch:=first|omega|(simp only[z1,z2];omega))only[z3,z4,z5,z6,z7,z1,z2, *];exact rfl),rfl⟩
  have A3:hA.get H.next=some (.cells [.int .u8 x1, .int .i64 x2] true 1):=by rw[hAe];(simp(disch:=first|omega|(simp only[z1,z2];omega))only[z3,z4,z5,z6,z7,z1,z2, *];exact rfl)
  have A5:hA.next=H.next+1:=by rw[hAe];rfl
  have A6:hA.log=[]:=by rw[hAe];simp(disch:=first|omega|(simp only[z1,z2];omega))only[Heap.log_wr_new,Heap.log_push];exact hr.log
  have A7:WF hA:=by rw[hAe];exact((hr.wf.push _).as (AS.wr _ _ _ _)).as (AS.wr _ _ _ _)
  clear hAe hw hwn gw gb gm g3 g4 g5
  refine yC ?_
  refine FW.al (joined0 F.toFnsJ (.of A7) (x1,x2)) (fun _ _ _ q=>q) ?_
  rintro _ h2 hx2 ⟨q,rfl,hq1,hq2,gq⟩
  have eq1:H.next+1≤q:=by have:({hA with log:=[]}:Heap).next=H.next+1:=A5;omega
  have B6:h2.get p6=some (.cells [o6] true 1):=(hx2.old _ (by omega)).trans ((A1 p6 k6 n6).trans g6)
  have B1:∀z,z<H.next→z≠l→h2.get z=H.get z:=fun z hz hne=>(hx2.old z (by omega)).trans (A1 z hz hne)
  obtain⟨o2,A2a,A2b⟩:=A2
  have B2:h2.get l=some o2:=(hx2.old l (by omega)).trans A2a
  have hl2:h2.log=[]:=hx2.log.trans A6
  have hn2:=hx2.next
  refine yS ?_;refine y3 ?_;refine wE_ret ?_;refine kB_r ?_
  refine⟨⟨o2,(z5 (Ne.symm n6)).trans B2,A2b⟩,fun z hz=> ?_, .inr ⟨rfl,fun h5 hn hag hl5=>⟨fun z hz hne hne6=>(hag z hne).trans ((z5 hne6).trans (B1 z hz hne)),by rw[hn];show H.next≤h2.next;omega,hl5,?_⟩⟩⟩
  ·rcases wr_log_old hz with rfl|hz
   ·exact hp6
   ·rw[hl2]at hz;cases hz
  ·refine⟨[(x1,x2)],q,1,⟨rfl,hw'.down⟩,by omega,by rw[hn];exact hq2,⟨Nat.le_refl _, .inr (by omega)⟩,?_,?_⟩
   ·exact(hag p6 n6).trans (Heap.get_wr_new B6)
   ·exact(hag q (by omega)).trans ((z5 (by omega)).trans gq)
 ·refine wD_quiet rfl rfl rfl (by exact rfl) (by exact rfl) (by exact rfl) (a_num (by exact rfl) (by exact rfl) (by exact m_eqlF (by omega))) ?_;refine wD_nil ?_;refine y1 ?_;refine kS_n ?_;refine yX ?_;refine wE_skip ?_;refine kB_n ?_
  refine⟨⟨_,by(simp(disch:=first|omega|(simp only[z1,z2];omega))only[z3,z4,z5,z6,z7,z1,z2, *];exact rfl),rfl⟩,fun z hz=> ?_, .inl ⟨rfl,fun h5 hn hag hl5=>⟨fun z hz=> ?_,hn,hw⟩⟩⟩
  ·simp(disch:=first|omega|(simp only[z1,z2];omega))only[Heap.log_wr_new,Heap.log_push]at hz
   rw[hr.log]at hz;cases hz
  ·by_cases hz2:z=l
   ·rw[hz2];exact hl5.trans gl.symm
   ·refine(hag z hz hz2).trans ?_
    simp(disch:=first|omega|(simp only[z1,z2];omega))only[z5,z4]
end Go.A.Pk
end
