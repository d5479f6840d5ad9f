/- Walks of functions, plain laws, the table. -/
import Derived.Test.YteafdpbjocdbbaaGreatDoorYU0
import Derived.Test.YteafdpbjocdbbaaGreatDoorYD
import Derived.Test.YteafdpbjocdbbaaGreatDoorYF
set_option linter.all false
section
set_option maxRecDepth 100000
namespace Go.A.Pk
variable {T:Nat→Option AFunc}
theorem mergeLog_ge{base:Nat}:∀{m l:List Nat},LogGe base m→mergeLog base l m=l
 |[],_,_=>rfl
 |b::m,l,h=>by
  have hb:=h b (List.mem_cons_self ..)
  simp only[mergeLog,nblt_not (show¬b<base by omega),cond_false]
  exact mergeLog_ge fun x hx=>h x (List.mem_cons_of_mem _ hx)
theorem SliceOf.agree{h h':Heap}{sz n:Nat}{v:Value}{cs:List Value}(s:SliceOf h sz v n cs)(hn:h.next≤h'.next)(ha:∀b vs o t,b<h.next→h.get b=some (.cells vs o t)→h'.get b=h.get b):SliceOf h' sz v n cs:=by
 cases s with
 |nil=>exact .nil
 |mem s hc=>
  obtain⟨vs,own,t,h1,h2⟩:=s.obj
  exact .mem ⟨Nat.lt_of_lt_of_le s.lt hn,⟨vs,own,t,(ha _ _ _ _ s.lt h1).trans h1,h2⟩,s.len⟩ hc
theorem PW.yld(hp:primAS T){l2 q:Nat}{H0:Heap}{L:AObj}{O:List (Nat×Nat)→AObj}{V:Nat×Nat→Value}{all:List (Nat×Nat)}(hq:q<l2)
 (hround:∀done x H',x∈all→Rdy H'→l2<H'.next→PW l2 q H0 L O done H'→FW T (.yield l2) [V x] H' fun r H''=>r= .ret (.bool true)∧(∀z∈H''.log,q≤z∧z<q+1)∧(∀z,z<H'.next→z≠q→H''.get z=H'.get z)∧H''.get q=some (O (done++[x]))):
 Yld T q (l2+1) l2 V all (PW l2 q H0 L O)where
 yields:=fun done x H hx hr hN hP=>FW.mono' (FW.withAS hp (hround done x H hx hr hN hP) hr.log) fun r H' ⟨hA,h1,h2,h3,h4⟩=>⟨h1,fun z hz=>by have:=h2 z hz;omega,⟨fun y hy hne=>(h3 y (by omega) hne).trans (hP.old y hy hne),h4,(h3 l2 (by omega) (by omega)).trans hP.loop,Nat.lt_of_lt_of_le hP.nx hA.next⟩⟩
 stable:=fun done H H' p hn h=>PW.stable hq done H H' p hn h
theorem inner_range{base:Nat}{rnd:Option Nat}{e:Env}{ds:Dfs}{Q:XQ}{h1:Heap}{f:Operand}{g q:Nat}{first cap:Array Value}{ps:List Nat}{asg body:ACode}{all:List (Nat×Nat)}{O:List (Nat×Nat)→AObj}(hr:roundA h1 rnd=true)(hf:ev h1 e f=some (.func (.func g) first cap))(hnc:notCode (T g)=false)
 (hB:base≤h1.next)(hq:base≤q)(hlog:h1.log=[])(w1:WF h1)
 (HG:Gr T g (lcat first.toList (lcat [.func (.yield h1.next) #[] #[]] cap.toList)) {h1.push (.loop e ps asg body 0 .normal)with log:=[]} q fun v h'=>v= .tuple #[]∧PW h1.next q h1 (.loop e ps asg body 0 .normal) O all h')(hqn:q<h1.next)
 (K:∀h3,h3.log=[]→WF h3→h1.next≤h3.next→(∀z,z<h1.next→z≠q→h3.get z=h1.get z)→h3.get q=some (O all)→Q .normal e ds h3):WE T base rnd (.rangeFunc f ps asg body) Q e ds h1:=by
 refine wE_range hr hf hnc (CW.mono HG ?_)
 rintro r h2 ⟨hk,v,rfl,rfl,hP⟩
 refine⟨_,rfl,_,_,_,_,_,_,hP.loop,rfl,?_⟩
 have hl2:LogGe base h2.log:=fun z hz=>Nat.le_trans hq (hk.log (LogGe.nil _) z hz)
 refine K _ ?_ ?_ ?_ (fun z hz hne=> ?_) ?_
 ·rw[Heap.log_wr_new hB]
  show mergeLog base h1.log h2.log=[]
  rw[mergeLog_ge hl2,hlog]
 ·exact((hk.wf ((w1.push _).log _)).log _).as (AS.wr _ _ _ _)
 ·have:=hk.next
  have e1:h1.next+1≤h2.next:=this
  show h1.next≤h2.next
  omega
 ·exact(z5 (by omega)).trans (hP.old z hz hne)
 ·exact(z5 (by omega)).trans hP.obj
def leafM(ws:List Int)(xs:List (Nat×Nat))(m:Int):Int:=xs.foldl (fun m x=>mx m (ws.getD x.2 0)) m
def cutM(kerf:Int)(t:Tab)(a b:Nat)(xs:List (Nat×Nat))(m:Int):Int:=xs.foldl (fun m x=>mx m (look t (oneB x a b)+look t (twoB kerf x a b))) m
def val(kerf:Int)(ws:List Int)(kl:List Kd)(t:Tab)(a b:Nat):Int:=cutM kerf t a b (cutsL a b) (leafM ws (leavesL a b kl 0) 0)
theorem leafM_snoc(ws:List Int)(xs:List (Nat×Nat))(x:Nat×Nat)(m:Int):leafM ws (xs++[x]) m=mx (leafM ws xs m) (ws.getD x.2 0):=by simp[leafM]
theorem cutM_snoc(kerf:Int)(t:Tab)(a b:Nat)(xs:List (Nat×Nat))(x:Nat×Nat)(m:Int):cutM kerf t a b (xs++[x]) m=mx (cutM kerf t a b xs m) (look t (oneB x a b)+look t (twoB kerf x a b)):=by simp[cutM]
theorem leafAt_idx{k:Kd}{i a b:Nat}:∀x∈leafAt k i a b,x.2=i:=by
 intro x hx
 unfold leafAt at hx
 simp only[List.mem_append]at hx
 rcases hx with hx|hx<;>split at hx<;>simp at hx<;>rw[hx]
theorem leaves_idx{a b:Nat}:∀{l:List Kd} {i:Nat},∀x∈leavesL a b l i,x.2<i+l.length
 |[],i,x,hx=>by cases hx
 |k::l,i,x,hx=>by
  simp only[leavesL,List.mem_append]at hx
  rcases hx with hx|hx
  ·rw[leafAt_idx x hx];simp
  ·have:=leaves_idx x hx;simp;omega
theorem row_of{c n:Nat}{x:Nat×Nat}(h:x∈row c n):x.1=c∧1≤x.2∧x.2≤n:=by
 simp only[row,List.mem_map,List.mem_range]at h
 obtain⟨i,hi,rfl⟩:=h
 exact⟨rfl,by simp,by simp;omega⟩
theorem cuts_of{a b:Nat}{x:Nat×Nat}(h:x∈cutsL a b):(x.1=3∧1≤x.2∧x.2≤a-1)∨(x.1=4∧1≤x.2∧x.2≤b-1):=by
 simp only[cutsL,List.mem_append]at h
 exact h.imp row_of row_of
theorem WO.gen{base:Nat}{rnd:Option Nat}{Q:XQ}{ops:List AOper}{e:Env}{ds:Dfs}{h:Heap}(hK:∀hA,hA=h→WO T base rnd Q ops e ds hA):WO T base rnd Q ops e ds h:=hK h rfl
structure FnsV (T:Nat→Option AFunc):Prop where
 p:primAS T
 f94:T 94=some f94
 f104:T 104=some f104
 f105:T 105=some f105
 f106:T 106=some f106
 f136:T 136=some f136
 f140:T 140=some f140
 f141:T 141=some f141
 f83:T 83=some f83
set_option maxHeartbeats 8000000 in
theorem best_round(F:FnsV T){H:Heap}(hr:Rdy H){p3 pm mb bb l n c wc a b:Nat}{sa wa:Option Addr}{fv:Value}{kerf:Int}{ws:List Int}{kl:List Kd}{t:Tab}(ha:a<1000)(hb:b<1000)(hn:n<1000)(hk:0≤kerf∧kerf≤100)
 (hsum:∀x∈cutsL a b, -4611686018427387904≤look t (oneB x a b)+look t (twoB kerf x a b)∧look t (oneB x a b)+look t (twoB kerf x a b)≤4611686018427387904)(gl:H.get l=some (.loop [(3, .pointer (some ⟨p3,0,none⟩)),(7, .pointer (some ⟨pm,0,none⟩)),(17,fv)] [18] asgO bodyO 0 .normal))
 (g3:H.get p3=some (.cells [.pointer (some ⟨bb,0,none⟩)] true 1))(gm:H.get pm=some (.cells [.map (some mb)] true 1))(gt:H.get mb=some (.map (ents t)))(gb:H.get bb=some (.cells [.slice sa n c, .int .i64 kerf, .slice wa n wc] true 1))(hks:SliceOf H 5 (.slice sa n c) n (kcs kl))(hws:SliceOf H 1 (.slice wa n wc) n (ints ws)):
 FW T (.yield l) [boardV (a,b)] H fun r H'=>r= .ret (.bool true)∧(∀z∈H'.log,mb≤z∧z<mb+1)∧(∀z,z<H.next→z≠mb→H'.get z=H.get z)∧H'.get mb=some (.map (ents (upd t (a,b) (val kerf ws kl t a b)))):=by
 have n2:=ne_loop g3 gl
 have n3:=ne_loop gb gl
 have n4:=ne_loop gm gl
 have n6:=ne_map gt gl
 have m1:=ne_cm g3 gt
 have m2:=ne_cm gm gt
 have m3:=ne_cm gb gt
 have k2:=WF.get_lt hr.wf g3
 have k3:=WF.get_lt hr.wf gb
 have k4:=WF.get_lt hr.wf gm
 have k5:=WF.get_lt hr.wf gl
 have k7:=WF.get_lt hr.wf gt
 refine FW.yieldN F.p (R:=fun H'=>(∀z,z<H.next→z≠mb→H'.get z=H.get z)∧H'.get mb=some (.map (ents (upd t (a,b) (val kerf ws kl t a b))))) gl rfl k5 ?_
 unfold asgO
 refine wE_region ?_;refine wO_val a_new ?_;refine yS ?_;refine wO_nil ?_
 refine y1 ?_
 refine⟨rfl,by(simp(disch:=first|omega|(simp only[z1,z2];omega))only[z3,z4,z5,z6,z7,z1,z2, *];exact rfl),?_⟩
 unfold bodyO
 refine wE_block ?_;refine y4 ?_;refine wO_val a_new ?_
 refine yS ?_;refine y3 ?_;refine wE_seq ?_;refine y4 ?_
 refine yL ?_
 refine yN ?_
 refine WO.gen ?_
 intro hA hAe
 have A1:∀z,z<H.next→z≠l→hA.get z=H.get z:=fun z hz hne=>by rw[hAe];simp(disch:=first|omega|(simp only[z1,z2];omega))only[z5,z4]
 have A2:hA.get l=some (.loop [(3, .pointer (some ⟨p3,0,none⟩)),(7, .pointer (some ⟨pm,0,none⟩)),(17,fv)] [18] asgO bodyO 1 .normal):=by rw[hAe];(simp(disch:=first|omega|(simp only[z1,z2];omega))only[z3,z4,z5,z6,z7,z1,z2, *];exact rfl)
 have A3:hA.get H.next=some (.cells [.int .i64 a, .int .i64 b] true 1):=by rw[hAe];(simp(disch:=first|omega|(simp only[z1,z2];omega))only[z3,z4,z5,z6,z7,z1,z2, *];exact rfl)
 have A4:hA.get (H.next+1)=some (.cells [.int .i64 0] true 1):=by rw[hAe];(simp(disch:=first|omega|(simp only[z1,z2];omega)|(simp only[z1,z2];done)|fail)only[z8,z4,z5,z9,z7,z1,z2, *];exact rfl)
 have A5:hA.next=H.next+2:=by rw[hAe];rfl
 have A6:hA.log=[]:=by rw[hAe];simp(disch:=first|omega|(simp only[z1,z2];omega))only[Heap.log_wr_new,Heap.log_push];exact hr.log
 have A7:WF hA:=by rw[hAe];exact((((hr.wf.push _).as (AS.wr _ _ _ _)).as (AS.wr _ _ _ _)).push _).as (AS.wr _ _ _ _)
 clear hAe
 refine yC ?_
 refine FW.al (leaves104 F.p F.f104 (.of A7) bb a b) (fun _ _ _ q=>q) ?_
 rintro _ h1 hx1 ⟨rfl,hn1,gp,gx⟩
 have eA:({hA with log:=[]}:Heap).next=H.next+2:=A5
 rw[eA]at hn1 gp gx
 rw[eA]
 have B1:∀z,z<H.next→z≠l→h1.get z=H.get z:=fun z hz hne=>(hx1.old z (by omega)).trans (A1 z hz hne)
 have B2:h1.get l=some (.loop [(3, .pointer (some ⟨p3,0,none⟩)),(7, .pointer (some ⟨pm,0,none⟩)),(17,fv)] [18] asgO bodyO 1 .normal):=(hx1.old l (by omega)).trans A2
 have B3:h1.get H.next=some (.cells [.int .i64 a, .int .i64 b] true 1):=(hx1.old _ (by omega)).trans A3
 have B4:h1.get (H.next+1)=some (.cells [.int .i64 0] true 1):=(hx1.old _ (by omega)).trans A4
 have B6:h1.log=[]:=hx1.log.trans A6
 have B7:WF h1:=hx1.wf A7
 have hlen:kl.length=n:=by have:=hks.len;rw[kcs_length]at this;omega
 clear hx1 A1 A2 A3 A4 A6 A7
 refine y3 ?_;refine wE_block ?_
 refine inner_range (q:=H.next+1) (all:=leavesL a b kl 0) (O:=fun d=> .cells [.int .i64 (leafM ws d 0)] true 1) (round_ok B2) (by rfl) (by rw[F.f140];rfl) (by omega) (by omega) B6 B7 ?_ (by omega) ?_
 ·refine leaves140 F.p F.f140 (.of (B7.push _)) (pb:=H.next+2) (bb:=bb) (px:=H.next+3) (l':=h1.next) (N:=h1.next+1) (lo:=H.next+1) (a:=a) (b:=b) (n:=n) (c:=c) (sa:=sa) (l:=kl) (v1:= .int .i64 kerf) (v2:= .slice wa n wc) (Nat.le_refl _) (by show H.next+1≤h1.next+1;omega) hn
   (PW.yld F.p (by omega) fun done x H' hx hr' hlt hP=> ?_) ((z4 (by omega)).trans gp) ((z4 (by omega)).trans ((B1 bb k3 n3).trans gb)) (fun d H' hP=> ?_) (fun d H' hP=>(hP.old _ (by omega) (by omega)).trans gx) ⟨fun z hz _=>z4 hz,(z4 (by omega)).trans B4,z3 _ _,Nat.lt_succ_self _⟩
  ·refine FW.mono' (leaf_round F.p hr' (x:=x) (n:=n) (by have:=leaves_idx x hx;omega) hP.loop hP.obj ((hP.old p3 (by omega) (by omega)).trans ((B1 p3 k2 n2).trans g3)) ((hP.old bb (by omega) (by omega)).trans ((B1 bb k3 n3).trans gb)) (SliceOf.agree hws (by omega) fun b0 vs o t hb he=>(hP.old b0 (by omega) (by omega)).trans (B1 b0 hb (ne_loop he gl)))) ?_
   rintro r H'' ⟨q1,q2,q3,q4⟩
   exact⟨q1,q2,q3,by rw[leafM_snoc];exact q4⟩
  ·have:=hP.nx
   exact SliceOf.agree hks (by omega) fun b0 vs o t hb he=>(hP.old b0 (by omega) (by omega)).trans (B1 b0 hb (ne_loop he gl))
 intro h3 c1 c2 c3 c4 c5
 have D1:∀z,z<H.next→z≠l→h3.get z=H.get z:=fun z hz hne=>(c4 z (by omega) (by omega)).trans (B1 z hz hne)
 have D2:h3.get l=some (.loop [(3, .pointer (some ⟨p3,0,none⟩)),(7, .pointer (some ⟨pm,0,none⟩)),(17,fv)] [18] asgO bodyO 1 .normal):=(c4 l (by omega) (by omega)).trans B2
 have D3:h3.get H.next=some (.cells [.int .i64 a, .int .i64 b] true 1):=(c4 _ (by omega) (by omega)).trans B3
 have D5:h3.get p3=some (.cells [.pointer (some ⟨bb,0,none⟩)] true 1):=(D1 p3 k2 n2).trans g3
 clear B1 B2 B3 B4 B6 B7 c4 gp gx
 refine kB_n ?_;refine kS_n ?_;refine wE_seq ?_;refine y4 ?_;refine yL ?_;refine yN ?_
 refine yC ?_
 refine FW.al (cuts105 F.p F.f105 (.of c2) _ a b) (fun _ _ _ q=>q) ?_
 rintro _ h4 hx4 ⟨rfl,hn4,gx4⟩
 have e3:({h3 with log:=[]}:Heap).next=h3.next:=rfl
 rw[e3]at hn4 gx4
 rw[e3]
 have E1:∀z,z<H.next→z≠l→h4.get z=H.get z:=fun z hz hne=>(hx4.old z (by omega)).trans (D1 z hz hne)
 have E2:h4.get l=some (.loop [(3, .pointer (some ⟨p3,0,none⟩)),(7, .pointer (some ⟨pm,0,none⟩)),(17,fv)] [18] asgO bodyO 1 .normal):=(hx4.old l (by omega)).trans D2
 have E3:h4.get H.next=some (.cells [.int .i64 a, .int .i64 b] true 1):=(hx4.old _ (by omega)).trans D3
 have E4:h4.get (H.next+1)=some (.cells [.int .i64 (leafM ws (leavesL a b kl 0) 0)] true 1):=(hx4.old _ (by omega)).trans c5
 have E6:h4.log=[]:=hx4.log.trans c1
 have E7:WF h4:=hx4.wf c2
 clear hx4 D1 D2 D3 D5 c1 c2 c5
 refine y3 ?_;refine wE_block ?_
 refine inner_range (q:=H.next+1) (all:=cutsL a b) (O:=fun d=> .cells [.int .i64 (cutM kerf t a b d (leafM ws (leavesL a b kl 0) 0))] true 1) (round_ok E2) (by rfl) (by rw[F.f141];rfl) (by omega) (by omega) E6 E7 ?_ (by omega) ?_
 ·refine cuts141 F.p F.f141 (.of (E7.push _)) (bx:=h3.next) (l:=h4.next) (N:=h4.next+1) (lo:=H.next+1) (a:=a) (b:=b) (Nat.le_refl _) (by show H.next+1≤h4.next+1;omega) ha hb
   (PW.yld F.p (by omega) fun done x H' hx hr' hlt hP=> ?_) (fun d H' hP=>(hP.old _ (by omega) (by omega)).trans gx4) ⟨fun z hz _=>z4 hz,(z4 (by omega)).trans E4,z3 _ _,Nat.lt_succ_self _⟩
  have hxc:=cuts_of hx
  refine FW.mono' (cut_round F.p F.f106 hr' (x:=x) (t:=t) (by omega) (by omega) ha hb hk (hsum x hx) hP.loop hP.obj ((hP.old p3 (by omega) (by omega)).trans ((E1 p3 k2 n2).trans g3)) ((hP.old pm (by omega) (by omega)).trans ((E1 pm k4 n4).trans gm)) ((hP.old H.next (by omega) (by omega)).trans E3) ((hP.old bb (by omega) (by omega)).trans ((E1 bb k3 n3).trans gb)) ((hP.old mb (by omega) (by omega)).trans ((E1 mb k7 n6).trans gt)) (show pm≠H.next+1 by omega)) ?_
  rintro r H'' ⟨q1,q2,q3,q4⟩
  exact⟨q1,q2,q3,by rw[cutM_snoc];exact q4⟩
 intro h5 c1 c2 c3 c4 c5
 have G1:∀z,z<H.next→z≠l→h5.get z=H.get z:=fun z hz hne=>(c4 z (by omega) (by omega)).trans (E1 z hz hne)
 have G2:h5.get l=some (.loop [(3, .pointer (some ⟨p3,0,none⟩)),(7, .pointer (some ⟨pm,0,none⟩)),(17,fv)] [18] asgO bodyO 1 .normal):=(c4 l (by omega) (by omega)).trans E2
 have G3:h5.get H.next=some (.cells [.int .i64 a, .int .i64 b] true 1):=(c4 _ (by omega) (by omega)).trans E3
 have G7:h5.get pm=some (.cells [.map (some mb)] true 1):=(G1 pm k4 n4).trans gm
 have G8:h5.get mb=some (.map (ents t)):=(G1 mb k7 n6).trans gt
 clear E1 E2 E3 E4 E6 E7 c4 gx4
 refine kB_n ?_;refine kS_n ?_;refine wE_region ?_;refine yL ?_;refine yN ?_;refine yL ?_
 refine wO_val (a_mapUp (x:=(a,b)) (by exact rfl) (by exact rfl) (by exact rfl) G8) ?_
 refine wO_nil ?_;refine y1 ?_;refine kB_n ?_
 refine⟨rfl,⟨_,by(simp(disch:=first|omega|(simp only[z1,z2];omega))only[z3,z4,z5,z6,z7,z1,z2, *];exact rfl),rfl⟩,?_,?_⟩
 ·intro z hz
  rw[log_wr_q c1 k7]at hz
  simp at hz;omega
 ·intro h6 hn6 hag hl6
  refine⟨fun z hz hne=> ?_,(hag mb k7 n6).trans (Heap.get_wr_new G8)⟩
  by_cases hz2:z=l
  ·rw[hz2];exact hl6.trans gl.symm
  ·exact(hag z hz hz2).trans ((z5 hne).trans (G1 z hz hz2))
end Go.A.Pk
end
section
set_option maxRecDepth 100000
namespace Go.A.Pk
variable {T:Nat→Option AFunc}
theorem a_mkMap{base:Nat}{h:Heap}{e:Env}:aop h base e .mkMap=some (.val (.map (some h.next)) (h.push (.map []))):=rfl
def Bd(W:Int)(t:Tab):Prop:=∀e∈t,1≤e.1.1∧1≤e.1.2∧0≤e.2∧e.2≤W*((e.1.1:Int)*(e.1.2:Int))
theorem look_bd{W:Int}:∀{t:Tab} (x:Int×Int),Bd W t→look t x=0∨(1≤x.1∧1≤x.2∧0≤look t x∧look t x≤W*(x.1*x.2))
 |[],_,_=> .inl rfl
 |e::t,x,h=>by
  simp only[look]
  by_cases hk:isKey x e=true
  ·rw[if_pos hk]
   have h1:=h e (List.mem_cons_self ..)
   simp only[isKey,decide_eq_true_eq]at hk
   rw[hk.1,hk.2]
   exact .inr ⟨by omega,by omega,h1.2.2.1,h1.2.2.2⟩
  ·rw[if_neg hk]
   exact look_bd x fun e he=>h e (List.mem_cons_of_mem _ he)
theorem upd_bd{W:Int}{x:Nat×Nat}{v:Int}(hx:1≤x.1∧1≤x.2)(hv:0≤v∧v≤W*((x.1:Int)*(x.2:Int))):∀{t:Tab},Bd W t→Bd W (upd t x v)
 |[],_,e,he=>by
  simp only[upd,List.mem_singleton]at he
  subst he
  exact⟨hx.1,hx.2,hv.1,hv.2⟩
 |e0::t,h,e,he=>by
  simp only[upd]at he
  split at he
  ·rcases List.mem_cons.1 he with rfl|he
   ·exact⟨hx.1,hx.2,hv.1,hv.2⟩
   ·exact h e (List.mem_cons_of_mem _ he)
  ·rcases List.mem_cons.1 he with rfl|he
   ·exact h e (List.mem_cons_self ..)
   ·exact upd_bd hx hv (fun e he=>h e (List.mem_cons_of_mem _ he)) e he
theorem mx_le{a b c:Int}(h1:a≤c)(h2:b≤c):mx a b≤c:=by unfold mx;split<;>assumption
theorem mx_ge{a b:Int}:a≤mx a b∧b≤mx a b:=by unfold mx;split<;>omega
theorem area_mono{W a b c d:Int}(hW:0≤W)(ha:0≤a)(hab:a≤c)(hb:0≤b)(hbd:b≤d):W*(a*b)≤W*(c*d):=
 Int.mul_le_mul_of_nonneg_left (Int.le_trans (Int.mul_le_mul_of_nonneg_right hab hb) (Int.mul_le_mul_of_nonneg_left hbd (by omega))) hW
theorem cut_bd{W kerf:Int}{t:Tab}(hW:0≤W)(hk:0≤kerf)(ht:Bd W t){a b:Nat}{x:Nat×Nat}(hx:x∈cutsL a b):0≤look t (oneB x a b)+look t (twoB kerf x a b)∧look t (oneB x a b)+look t (twoB kerf x a b)≤W*((a:Int)*(b:Int)):=by
 have h1:=look_bd (oneB x a b) ht
 have h2:=look_bd (twoB kerf x a b) ht
 have h0:0≤W*((a:Int)*(b:Int)):=Int.mul_nonneg hW (Int.mul_nonneg (by omega) (by omega))
 rcases cuts_of hx with⟨e3,hl,hu⟩|⟨e4,hl,hu⟩
 ·simp only[oneB,twoB,e3,if_true]at h1 h2⊢
  rcases h1 with h1|h1
  ·rcases h2 with h2|h2
   ·rw[h1,h2];omega
   ·have:=area_mono (W:=W) (a:=(a:Int)-x.2-kerf) (b:=b) (c:=a) (d:=b) hW (by omega) (by omega) (by omega) (Int.le_refl _)
    rw[h1];omega
  ·rcases h2 with h2|h2
   ·have:=area_mono (W:=W) (a:=(x.2:Int)) (b:=b) (c:=a) (d:=b) hW (by omega) (by omega) (by omega) (Int.le_refl _)
    rw[h2];omega
   ·have e:W*((x.2:Int)*b)+W*(((a:Int)-x.2-kerf)*b)=W*(((x.2:Int)+((a:Int)-x.2-kerf))*b):=by rw[Int.add_mul,Int.mul_add]
    have:=area_mono (W:=W) (a:=(x.2:Int)+((a:Int)-x.2-kerf)) (b:=b) (c:=a) (d:=b) hW (by omega) (by omega) (by omega) (Int.le_refl _)
    omega
 ·have n3:¬x.1=3:=by omega
  simp only[oneB,twoB,if_neg n3]at h1 h2⊢
  rcases h1 with h1|h1
  ·rcases h2 with h2|h2
   ·rw[h1,h2];omega
   ·have:=area_mono (W:=W) (a:=a) (b:=(b:Int)-x.2-kerf) (c:=a) (d:=b) hW (by omega) (Int.le_refl _) (by omega) (by omega)
    rw[h1];omega
  ·rcases h2 with h2|h2
   ·have:=area_mono (W:=W) (a:=a) (b:=(x.2:Int)) (c:=a) (d:=b) hW (by omega) (Int.le_refl _) (by omega) (by omega)
    rw[h2];omega
   ·have e:W*((a:Int)*x.2)+W*((a:Int)*((b:Int)-x.2-kerf))=W*((a:Int)*((x.2:Int)+((b:Int)-x.2-kerf))):=by rw[Int.mul_add (a:Int),Int.mul_add W]
    have:=area_mono (W:=W) (a:=a) (b:=(x.2:Int)+((b:Int)-x.2-kerf)) (c:=a) (d:=b) hW (by omega) (Int.le_refl _) (by omega) (by omega)
    omega
theorem leafM_bd{W B:Int}{ws:List Int}(hws:∀x∈ws,0≤x∧x≤W)(hWB:W≤B)(hW:0≤W):∀{xs:List (Nat×Nat)} {m:Int},0≤m→m≤B→0≤leafM ws xs m∧leafM ws xs m≤B
 |[],m,h1,h2=>⟨h1,h2⟩
 |x::xs,m,h1,h2=>by
  have hx:0≤ws.getD x.2 0∧ws.getD x.2 0≤W:=by
   by_cases hi:x.2<ws.length
   ·have:=hws _ (List.getElem_mem hi)
    simpa[List.getD,List.getElem?_eq_getElem hi]using this
   ·have:ws.getD x.2 0=0:=by simp[List.getD,List.getElem?_eq_none (by omega:ws.length≤x.2)]
    rw[this];omega
  exact leafM_bd hws hWB hW (xs:=xs) (m:=mx m (ws.getD x.2 0)) (Int.le_trans h1 mx_ge.1) (mx_le h2 (by omega))
theorem cutM_bd{B kerf:Int}{t:Tab}{a b:Nat}:∀{xs:List (Nat×Nat)} {m:Int},(∀x∈xs,look t (oneB x a b)+look t (twoB kerf x a b)≤B)→0≤m→m≤B→0≤cutM kerf t a b xs m∧cutM kerf t a b xs m≤B
 |[],m,_,h1,h2=>⟨h1,h2⟩
 |x::xs,m,hx,h1,h2=>cutM_bd (xs:=xs) (m:=mx m _) (fun y hy=>hx y (List.mem_cons_of_mem _ hy)) (Int.le_trans h1 mx_ge.1) (mx_le h2 (hx x (List.mem_cons_self ..)))
theorem val_bd{W kerf:Int}{ws:List Int}{kl:List Kd}{t:Tab}(hW:0≤W)(hk:0≤kerf)(hws:∀x∈ws,0≤x∧x≤W)(ht:Bd W t){a b:Nat}(ha:1≤a)(hb:1≤b):0≤val kerf ws kl t a b∧val kerf ws kl t a b≤W*((a:Int)*(b:Int)):=by
 have hWB:W≤W*((a:Int)*(b:Int)):=by
  have:=area_mono (W:=W) (a:=1) (b:=1) (c:=a) (d:=b) hW (by omega) (by omega) (by omega) (by omega)
  omega
 obtain⟨h1,h2⟩:=leafM_bd (xs:=leavesL a b kl 0) (m:=0) hws hWB hW (Int.le_refl _) (by omega)
 exact cutM_bd (fun x hx=>(cut_bd hW hk ht hx).2) h1 h2
def tabL(kerf:Int)(ws:List Int)(kl:List Kd)(done:List (Nat×Nat)):Tab:=done.foldl (fun t x=>upd t x (val kerf ws kl t x.1 x.2)) []
theorem tabL_snoc(kerf:Int)(ws:List Int)(kl:List Kd)(done:List (Nat×Nat))(x:Nat×Nat):tabL kerf ws kl (done++[x])=upd (tabL kerf ws kl done) x (val kerf ws kl (tabL kerf ws kl done) x.1 x.2):=by simp[tabL]
theorem boards_of:∀{w h:Nat} {x:Nat×Nat},x∈boardsL w h→1≤x.1∧x.1≤w∧1≤x.2∧x.2≤h
 |0,_,_,hx=>by cases hx
 |w+1,h,x,hx=>by
  simp only[boardsL,List.mem_append]at hx
  rcases hx with hx|hx
  ·have:=boards_of hx;omega
  ·have:=row_of hx;omega
set_option maxHeartbeats 8000000 in
theorem best83(F:FnsV T){h:Heap}(hr:Rdy h){bb n c wc w ht:Nat}{sa wa:Option Addr}{kerf W:Int}{ws:List Int}{kl:List Kd}(hw:w<1000)(hh:ht<1000)(hn:n<1000)(hk:0≤kerf∧kerf≤100)(hW:0≤W∧W≤1000000000)(hws0:∀x∈ws,0≤x∧x≤W)
 (gb:h.get bb=some (.cells [.slice sa n c, .int .i64 kerf, .slice wa n wc] true 1))(hks:SliceOf h 5 (.slice sa n c) n (kcs kl))(hws:SliceOf h 1 (.slice wa n wc) n (ints ws)):
 Al T 83 [.pointer (some ⟨bb,0,none⟩), .int .i64 w, .int .i64 ht] h fun v h'=>∃r,v= .map (some r)∧h'.get r=some (.map (ents (tabL kerf ws kl (boardsL w ht)))):=by
 refine .of F.p F.f83 hr (fun v h1 hv q=>by obtain⟨r,rfl,_⟩:=q;cases hv) ?_
 have kb:=WF.get_lt hr.wf gb
 refine y4 ?_;refine yB ?_;refine yM ?_;refine y3 ?_;refine y4 ?_
 refine wO_val a_mkMap ?_
 refine wO_val a_new ?_;refine yS ?_
 refine y3 ?_;refine wE_seq ?_;refine y4 ?_;refine yM ?_;refine yM ?_
 refine WO.gen ?_
 intro hA hAe
 have A1:∀z,z<h.next→hA.get z=h.get z:=fun z hz=>by rw[hAe];simp(disch:=first|omega|(simp only[z1,z2];omega))only[z5,z4]
 have A2:hA.get h.next=some (.cells [.pointer (some ⟨bb,0,none⟩)] true 1):=by rw[hAe];(simp(disch:=first|omega|(simp only[z1,z2];omega))only[z3,z4,z5,z6,z7,z1,z2, *];exact rfl)
 have A3:hA.get (h.next+1)=some (.map []):=by rw[hAe];(simp(disch:=first|omega|(simp only[z1,z2];omega)|(simp only[z1,z2];done)|fail)only[z8,z4,z5,z9,z7,z1,z2, *];done)
 have A4:hA.get (h.next+2)=some (.cells [.map (some (h.next+1))] true 1):=by rw[hAe];(simp(disch:=first|omega|(simp only[z1,z2];omega)|(simp only[z1,z2];done)|fail)only[z8,z4,z5,z9,z7,z1,z2, *];exact rfl)
 have A5:hA.next=h.next+3:=by rw[hAe];rfl
 have A6:hA.log=[]:=by rw[hAe];simp(disch:=first|omega|(simp only[z1,z2];omega))only[Heap.log_wr_new,Heap.log_push];exact hr.log
 have A7:WF hA:=by rw[hAe];exact(((hr.wf.push _).push _).push _).as (AS.wr _ _ _ _)
 clear hAe
 refine yC ?_
 refine FW.al (boards94 F.p F.f94 (.of A7) w ht) (fun _ _ _ q=>q) ?_
 rintro _ h1 hx1 ⟨rfl,hn1,gp,gx⟩
 have eA:({hA with log:=[]}:Heap).next=h.next+3:=A5
 rw[eA]at hn1 gp gx
 rw[eA]
 have B1:∀z,z<h.next→h1.get z=h.get z:=fun z hz=>(hx1.old z (by omega)).trans (A1 z hz)
 have B2:h1.get h.next=some (.cells [.pointer (some ⟨bb,0,none⟩)] true 1):=(hx1.old _ (by omega)).trans A2
 have B3:h1.get (h.next+1)=some (.map []):=(hx1.old _ (by omega)).trans A3
 have B4:h1.get (h.next+2)=some (.cells [.map (some (h.next+1))] true 1):=(hx1.old _ (by omega)).trans A4
 have B6:h1.log=[]:=hx1.log.trans A6
 have B7:WF h1:=hx1.wf A7
 clear hx1 A1 A2 A3 A4 A6 A7
 refine y3 ?_;refine wE_block ?_
 refine inner_range (q:=h.next+1) (all:=boardsL w ht) (O:=fun d=> .map (ents (tabL kerf ws kl d))) rfl (by rfl) (by rw[F.f136];rfl) (by omega) (by omega) B6 B7 ?_ (by omega) ?_
 ·have Y:Yld T (h.next+1) (h1.next+1) h1.next boardV (boardsL w ht) fun d H=>PW h1.next (h.next+1) h1 (.loop [(3, .pointer (some ⟨h.next,0,none⟩)),(7, .pointer (some ⟨h.next+2,0,none⟩)),(17,fn2 136 (h.next+3) (h.next+4))] [18] asgO bodyO 0 .normal) (fun d=> .map (ents (tabL kerf ws kl d))) d H∧Bd W (tabL kerf ws kl d):=by
   refine⟨fun done x H hx hrH hN hP=> ?_,fun d H H' hP hN hag=>⟨PW.stable (by omega) d H H' hP.1 hN hag,hP.2⟩⟩
   obtain⟨hP,hB⟩:=hP
   have hxb:=boards_of hx
   have hV:=val_bd (kl:=kl) hW.1 hk.1 hws0 hB hxb.1 hxb.2.2.1
   obtain⟨x1,x2⟩:=x
   simp only at hxb hV
   refine FW.mono' (FW.withAS F.p (best_round F hrH (a:=x1) (b:=x2) (t:=tabL kerf ws kl done) (by omega) (by omega) hn hk (fun y hy=> ?_) hP.loop ((hP.old _ (by omega) (by omega)).trans B2) ((hP.old _ (by omega) (by omega)).trans B4) hP.obj ((hP.old bb (by omega) (by omega)).trans ((B1 bb kb).trans gb)) (SliceOf.agree hks (by omega) fun b0 vs o t hb he=>(hP.old b0 (by omega) (by omega)).trans (B1 b0 hb)) (SliceOf.agree hws (by omega) fun b0 vs o t hb he=>(hP.old b0 (by omega) (by omega)).trans (B1 b0 hb))) hrH.log) ?_
   ·have h1:=cut_bd hW.1 hk.1 hB hy
    have h2:W*((x1:Int)*(x2:Int))≤1000000000*(1000*1000):=Int.le_trans (area_mono (W:=W) (a:=x1) (b:=x2) (c:=1000) (d:=1000) hW.1 (by omega) (by omega) (by omega) (by omega)) (Int.mul_le_mul_of_nonneg_right hW.2 (by omega))
    omega
   ·rintro r H' ⟨hA',q1,q2,q3,q4⟩
    refine⟨q1,fun z hz=>by have:=q2 z hz;omega,⟨fun y hy hne=>(q3 y (by omega) hne).trans (hP.old y hy hne),by rw[tabL_snoc];exact q4,(q3 _ (by omega) (by omega)).trans hP.loop,Nat.lt_of_lt_of_le hP.nx hA'.next⟩,?_⟩
    rw[tabL_snoc]
    exact upd_bd ⟨hxb.1,hxb.2.2.1⟩ hV hB
  refine CW.mono (boards136 F.p F.f136 (.of (B7.push _)) (bw:=h.next+3) (bh:=h.next+4) (l:=h1.next) (N:=h1.next+1) (lo:=h.next+1) (w:=w) (ht:=ht) (Nat.le_refl _) (by show h.next+1≤h1.next+1;omega) hw hh Y (fun d H hP=>(hP.1.old _ (by omega) (by omega)).trans gp) (fun d H hP=>(hP.1.old _ (by omega) (by omega)).trans gx)
   ⟨⟨fun z hz _=>z4 hz,(z4 (by omega)).trans B3,z3 _ _,Nat.lt_succ_self _⟩,fun e he=>by cases he⟩) ?_
  rintro r h2 ⟨q1,v,q2,q3,q4,_⟩
  exact⟨q1,v,q2,q3,q4⟩
 intro h3 c1 c2 c3 c4 c5
 have D4:h3.get (h.next+2)=some (.cells [.map (some (h.next+1))] true 1):=(c4 _ (by omega) (by omega)).trans B4
 refine kB_n ?_;refine kS_n ?_;refine y4 ?_;refine yL ?_;refine yM ?_;refine y3 ?_;refine wE_ret ?_
 exact endA_ret (vs:=[.map (some (h.next+1))]) c1 (by rfl) ⟨_,rfl,c5⟩
end Go.A.Pk
end
section
set_option maxRecDepth 100000
namespace Go.A.Pk
variable {T:Nat→Option AFunc}
inductive WslB (lo:Nat) (h:Heap):Value→List Int→Prop
 |nil:WslB lo h (.slice none 0 0) []
 |full {q xs}:lo≤q→q<h.next→h.get q=some (.cells (ints xs) true 1)→xs≠[]→WslB lo h (.slice (some ⟨q,0,none⟩) xs.length UNK) xs
theorem worth_succ{l:List Kd}{i:Nat}{x:Kd}(h:l[i]? =some x):(l.take (i+1)).map (·.worth)=(l.take i).map (·.worth)++[x.worth]:=by
 rw[List.take_add_one,h];simp
def StartO(lo:Nat)(a:Option Addr)(n c:Nat)(kerf:Int)(l:List Kd)(er:Int)(v:Value)(h':Heap):Prop:=∃p,v= .tuple #[.pointer p, .int .i64 er]∧
 (er=0→∃w,p=some ⟨lo+1,0,none⟩∧h'.get (lo+1)=some (.cells [.slice a n c, .int .i64 kerf,w] true 1)∧WslB (lo+2) h' w (l.map (·.worth)))
theorem StartO.gc{lo:Nat}{a:Option Addr}{n c:Nat}{kerf:Int}{l:List Kd}{er:Int}(h:Heap)(v:Value)(h1:Heap)(hv:noRef v=true)(q:StartO lo a n c kerf l er v h1):StartO lo a n c kerf l er v h:=by
 obtain⟨p,rfl,h2⟩:=q
 refine⟨p,rfl,fun he=> ?_⟩
 obtain⟨w,rfl,_⟩:=h2 he
 simp[noRef,flatL,flat,scalL,scal,scal1]at hv
theorem WslB.keep{lo:Nat}{h h':Heap}{v:Value}{xs:List Int}(w:WslB lo h v xs)(hn:h.next≤h'.next)(hg:∀z,lo≤z→z<h.next→h'.get z=h.get z):WslB lo h' v xs:=by
 cases w with
 |nil=>exact .nil
 |full a b c d=>exact .full a (by omega) ((hg _ a b).trans c) d
theorem StartO.logs{lo:Nat}{a:Option Addr}{n c:Nat}{kerf:Int}{l:List Kd}{er:Int}(v:Value)(h':Heap)(m:List Nat)(q:StartO lo a n c kerf l er v h'):StartO lo a n c kerf l er v {h' with log:=m}:=by
 obtain⟨p,h1,h2⟩:=q
 refine⟨p,h1,fun he=> ?_⟩
 obtain⟨w,h3,h4,h5⟩:=h2 he
 exact⟨w,h3,h4,h5.keep (Nat.le_refl _) fun _ _ _=>rfl⟩
theorem WslB.slice{lo:Nat}{h:Heap}{v:Value}{xs:List Int}(w:WslB lo h v xs)(hx:xs.length<1000000):∃a c,v= .slice a xs.length c∧SliceOf h 1 (.slice a xs.length c) xs.length (ints xs):=by
 cases w with
 |nil=>exact⟨none,0,rfl, .nil⟩
 | @full q _ h1 h2 h3 h5=>
   refine⟨some ⟨q,0,none⟩,UNK,rfl, .mem ⟨h2,⟨_,_,_,h3,?_⟩,by simp[ints]⟩ (by unfold UNK;omega)⟩
   rw[ltake_eq,ldrop_eq,List.drop_zero,List.take_of_length_le (by simp[ints])]
set_option maxHeartbeats 4000000 in
theorem startedO75(G:FnsE T){h:Heap}(hr:Rdy h){a:Option Addr}{n c:Nat}{l:List Kd}(hs:SliceOf h 5 (.slice a n c) n (kcs l))(kerf:Int)(hn:n<1000000){v:Value}{m:Nat}{bl:List Bool}(hb:SliceOf h 1 v m (bcs bl))(hm:m<1000000):
 Al T 75 [.agg #[.slice a n c, .int .i64 kerf],v] h (StartO h.next a n c kerf l (startE kerf l bl)):=by
 refine .of G.toFnsA.p G.f75 hr (StartO.gc h) ?_
 have hx:Ext h (h.push (.cells [.slice a n c, .int .i64 kerf] true 1)):=(Ext.refl h).push _
 have hlen:l.length=n:=by have:=hs.len;rw[kcs_length]at this;omega
 refine y4 ?_;refine yB ?_;refine yM ?_;refine yM ?_;refine y3 ?_;refine wE_seq ?_;refine y4 ?_
 refine yN ?_
 refine yC ?_
 refine FW.pu (check66 G.toFnsA (.of (hx.wf hr.wf)) ((hs.ext hx).log []) kerf hn) ?_
 unfold startE
 by_cases hc:chk kerf l=0
 ·rw[if_pos hc,hc]
  refine yM ?_;refine y3 ?_;refine y4 ?_;refine yM ?_;refine yf ?_;refine y3 ?_;refine yX ?_;refine wE_skip ?_;refine kS_n ?_;refine wE_seq ?_;refine y4 ?_;refine yM ?_
  refine yC ?_
  refine FW.pu (contains122 G.toFnsC (.of (hx.wf hr.wf)) ((hb.ext hx).log []) hm) ?_
  cases hbl:bl.all id with
  |false=>
   refine y3 ?_;refine yY ?_;refine y4 ?_;refine yM ?_;refine yM ?_;refine y3 ?_;refine wE_ret ?_;refine kS_r ?_
   exact endA_ret (vs:=[.pointer none, .int .i64 1]) hr.log rfl ⟨_,rfl,fun e=>by cases e⟩
  |true=>
   refine y3 ?_;refine yX ?_;refine wE_skip ?_;refine kS_n ?_;refine y4 ?_
   refine yN ?_;refine wO_val (a_build (by exact rfl)) ?_;refine yB ?_
   refine yM ?_;refine y3 ?_;refine wE_seq ?_;refine y4 ?_;refine yF ?_
   refine yL ?_;refine yD ?_;refine yM ?_;refine y3 ?_;refine wE_block ?_
   refine wE_loop (fun k e ds h'=>∃(i:Nat) (w:Value) (xs:List Int),i≤n∧k=n-i∧e=[(7, .pointer (some ⟨h.next+1,0,none⟩)),(21, .slice a n c),(22, .int .i64 n),(23, .int .i64 i)]∧ds=[]∧Ext (h.push (.cells [.slice a n c, .int .i64 kerf] true 1)) h'∧
    h.next+1<h'.next∧h'.get (h.next+1)=some (.cells [.slice a n c, .int .i64 kerf,w] true 1)∧WslB (h.next+2) h' w xs∧Nonempty (PLift (xs=(l.take i).map (·.worth))))
    ⟨0, .slice none 0 0,[],Nat.zero_le _,rfl,rfl,rfl,(Ext.refl _).push _,Nat.lt_succ_self _,by(simp(disch:=first|omega|(simp only[z1,z2];omega)|(simp only[z1,z2];done)|fail)only[z8,z4,z5,z9,z7,z1,z2, *];exact rfl), .nil,⟨⟨rfl⟩⟩⟩ ?_
   rintro k e ds hi ⟨i,w,xs,hin,rfl,rfl,rfl,hx1,hnx,hW,hw,⟨⟨hxs⟩⟩⟩
   by_cases hlt:i<n
   ·obtain⟨x,hxl⟩:∃x,l[i]? =some x:=⟨l[i],List.getElem?_eq_getElem (by omega)⟩
    have hs':=hs.ext (((Ext.refl h).push _).trans hx1)
    rcases hs'.inv with⟨_,_,h0,_⟩|⟨b,o,cap',hv,s,hcap⟩
    ·omega
    ·cases hv
     obtain⟨vs,own,t,g1,g2⟩:=slice_elem s hxl
     have hx3:=(hx1.push (.cells [.int .i64 0, .int .i64 0, .int .i64 0, .int .i64 0, .bool false] true 1)).wr (base:=h.next) (x:=hi.next) (o:= .cells (kc x) true 1) hx1.next (by omega)
     have hx4:=hx3.push (.cells [.int .i64 x.worth] true 1)
     have hsu:=worth_succ hxl
     have hxl2:xs.length=i:=by rw[hxs];simp;omega
     have hsu2:(l.take (i+1)).map (·.worth)=xs++[x.worth]:=by rw[hsu,←hxs]
     have hid:PLift (xs.length=i∧(l.take (i+1)).map (·.worth)=xs++[x.worth]):=⟨hxl2,hsu2⟩
     clear hsu hxs hxl2 hsu2
     cases hw with
     |nil=>
      refine y4 ?_;refine yt ?_;refine y3 ?_;refine wE_seq ?_;refine yY ?_;refine wE_skip ?_;refine kS_n ?_;refine wE_seq ?_;refine wE_block ?_;refine y4 ?_;refine wO_val (a_iaddrS (by exact rfl) (by exact rfl) (by omega)) ?_
      refine wO_val (a_loadN (by exact rfl) g1 g2 (by exact rfl)) ?_
      refine wO_val a_new ?_;refine yS ?_;refine y3 ?_;refine wE_draw ?_;refine qM ?_;refine qM ?_
      refine wD_quiet rfl rfl rfl (by exact rfl) (by exact rfl) (by exact rfl) (a_nilchk (by exact rfl)) ?_;refine qF ?_
      refine qL ?_
      refine qF ?_
      refine qL ?_
      refine wD_new rfl rfl rfl (by exact rfl) (by exact rfl) (by exact rfl) (a_bslice (by exact rfl) (by exact rfl)) (by refine rs_cons (rq_quiet rfl (a_load (by exact rfl) (by(simp(disch:=first|omega|(simp only[z1,z2];omega))only[z3,z4,z5,z6,z7,z1,z2, *];exact rfl)) (by exact rfl)) (by exact sv_int _ _)) ?_;refine rs_cons (rq_quiet rfl (a_faddr (by exact rfl)) (by exact sv_ptr _)) ?_;refine rs_cons (rq_quiet rfl (a_load (by exact rfl) (by(simp(disch:=first|omega|(simp only[z1,z2];omega))only[z3,z4,z5,z6,z7,z1,z2, *];exact rfl)) (by exact rfl)) (by exact sv_slice _ _ _)) ?_;refine rs_cons (rq_quiet rfl (a_faddr (by exact rfl)) (by exact sv_ptr _)) ?_;refine rs_cons (rq_quiet rfl (a_nilchk (by exact rfl)) (by exact sv_ptr _)) ?_;refine rs_cons (rq_quiet rfl (a_mov (by exact rfl)) (by exact sv_ptr _)) ?_;refine rs_cons (rq_quiet rfl (a_mov (by exact rfl)) (by exact sv_ptr _)) ?_;exact rs_nil) ?_
      refine wD_app_nil (n:=1) rfl rfl rfl (by exact rfl) (by exact rfl) (by exact rfl) (src_log (src_slice (cs:=[.int .i64 x.worth]) (by(simp(disch:=first|omega|(simp only[z1,z2];omega)|(simp only[z1,z2];done)|fail)only[z8,z4,z5,z9,z7,z1,z2, *];exact rfl)) rfl rfl)) (by omega) (by omega) (by apply ra_dropC rfl;apply ra_dropC rfl;apply ra_dropC rfl;apply ra_dropC rfl;apply ra_dropC rfl;apply ra_dropC rfl;apply ra_dropC rfl;apply ra_keepC rfl (rq_quiet rfl (a_mov (by exact rfl)) (by exact sv_ptr _)) rfl;exact ra_nil) ?_
      refine wD_quiet rfl rfl rfl (by exact rfl) (by exact rfl) (by exact rfl) (a_nilchk (by exact rfl)) ?_;refine qF ?_
      refine wD_store rfl rfl rfl (by exact rfl) (by exact rfl) (by exact rfl) (by(simp(disch:=first|omega|(simp only[z1,z2];omega))only[z3,z4,z5,z6,z7,z1,z2, *];exact rfl)) (by exact rfl) (by exact rfl) (by(simp only[z1,z2];omega)) (by omega) (by apply ra_dropC rfl;apply ra_dropC rfl;apply ra_dropC rfl;exact ra_nil) ?_
      refine wD_nil ?_;refine y1 ?_;refine kB_n ?_;refine kS_n ?_;refine wE_region ?_;refine yinc ?_;refine yM ?_;refine y3 ?_
      obtain⟨hxl2,hsu2⟩:=hid
      obtain rfl:i=0:=hxl2.symm
      refine⟨n-1,by omega,1, .slice (some ⟨hi.next+2,0,none⟩) 1 UNK,[x.worth],by omega,rfl,rfl,rfl,?_,?_,?_,?_,?_⟩
      ·exact(hx4.push (.cells [.int .i64 x.worth] true 1)).wr (Nat.le_refl _) (Nat.le_succ _)
      ·(simp only[z1,z2];omega)
      ·(simp(disch:=first|omega|(simp only[z1,z2];omega))only[z3,z4,z5,z6,z7,z1,z2, *];exact rfl)
      ·exact .full (xs:=[x.worth]) (by omega) (by(simp only[z1,z2];omega)) (by(simp(disch:=first|omega|(simp only[z1,z2];omega)|(simp only[z1,z2];done)|fail)only[z8,z4,z5,z9,z7,z1,z2, *];exact rfl)) (by simp)
      ·exact⟨⟨hsu2.symm⟩⟩
     | @full q _ h1 h2 h3 h5=>
       have h4:(ints xs).length=xs.length:=by simp[ints]
       have h7:xs.length<1000000:=by have:=hid.down.1;omega
       have h6:xs.length≠0:=by cases xs with|nil=>exact absurd rfl h5|cons _ _=>simp
       have hwr:lcat (ints xs) [.int .i64 x.worth]=ints (xs++[x.worth]):=by rw[lcat_eq];simp[ints]
       refine y4 ?_;refine yt ?_;refine y3 ?_;refine wE_seq ?_;refine yY ?_;refine wE_skip ?_;refine kS_n ?_;refine wE_seq ?_;refine wE_block ?_;refine y4 ?_;refine wO_val (a_iaddrS (by exact rfl) (by exact rfl) (by omega)) ?_
       refine wO_val (a_loadN (by exact rfl) g1 g2 (by exact rfl)) ?_
       refine wO_val a_new ?_;refine yS ?_;refine y3 ?_;refine wE_draw ?_;refine qM ?_;refine qM ?_
       refine wD_quiet rfl rfl rfl (by exact rfl) (by exact rfl) (by exact rfl) (a_nilchk (by exact rfl)) ?_;refine qF ?_
       refine qL ?_
       refine qF ?_
       refine qL ?_
       refine wD_new rfl rfl rfl (by exact rfl) (by exact rfl) (by exact rfl) (a_bslice (by exact rfl) (by exact rfl)) (by refine rs_cons (rq_quiet rfl (a_load (by exact rfl) (by(simp(disch:=first|omega|(simp only[z1,z2];omega))only[z3,z4,z5,z6,z7,z1,z2, *];exact rfl)) (by exact rfl)) (by exact sv_int _ _)) ?_;refine rs_cons (rq_quiet rfl (a_faddr (by exact rfl)) (by exact sv_ptr _)) ?_;refine rs_cons (rq_quiet rfl (a_load (by exact rfl) (by(simp(disch:=first|omega|(simp only[z1,z2];omega))only[z3,z4,z5,z6,z7,z1,z2, *];exact rfl)) (by exact rfl)) (by exact sv_slice _ _ _)) ?_;refine rs_cons (rq_quiet rfl (a_faddr (by exact rfl)) (by exact sv_ptr _)) ?_;refine rs_cons (rq_quiet rfl (a_nilchk (by exact rfl)) (by exact sv_ptr _)) ?_;refine rs_cons (rq_quiet rfl (a_mov (by exact rfl)) (by exact sv_ptr _)) ?_;refine rs_cons (rq_quiet rfl (a_mov (by exact rfl)) (by exact sv_ptr _)) ?_;exact rs_nil) ?_
       refine wD_app_open (n:=1) (vs:=ints xs) (ws:=ints (xs++[x.worth])) rfl rfl rfl (by exact rfl) (by exact rfl) (by exact rfl) (src_log (src_slice (cs:=[.int .i64 x.worth]) (by(simp(disch:=first|omega|(simp only[z1,z2];omega)|(simp only[z1,z2];done)|fail)only[z8,z4,z5,z9,z7,z1,z2, *];exact rfl)) rfl rfl)) (by omega) (by(simp(disch:=first|omega|(simp only[z1,z2];omega))only[z3,z4,z5,z6,z7,z1,z2, *];done)) (by omega) (by omega) rfl (by omega) hwr (by(simp only[z1,z2];omega)) (by omega) (by apply ra_dropC rfl;apply ra_dropC rfl;apply ra_dropC rfl;apply ra_dropC rfl;apply ra_dropC rfl;apply ra_dropC rfl;apply ra_dropC rfl;apply ra_keepC rfl (rq_quiet rfl (a_mov (by exact rfl)) (by exact sv_ptr _)) rfl;exact ra_nil) ?_
       refine wD_quiet rfl rfl rfl (by exact rfl) (by exact rfl) (by exact rfl) (a_nilchk (by exact rfl)) ?_;refine qF ?_
       refine wD_store rfl rfl rfl (by exact rfl) (by exact rfl) (by exact rfl) (by(simp(disch:=first|omega|(simp only[z1,z2];omega))only[z3,z4,z5,z6,z7,z1,z2, *];exact rfl)) (by exact rfl) (by exact rfl) (by(simp only[z1,z2];omega)) (by omega) (by apply ra_dropC rfl;apply ra_dropC rfl;apply ra_dropC rfl;exact ra_nil) ?_
       refine wD_nil ?_;refine y1 ?_;refine kB_n ?_;refine kS_n ?_;refine wE_region ?_;refine yinc ?_;refine yM ?_;refine y3 ?_
       have hxi:=hid.down.1
       refine⟨n-(i+1),by omega,i+1, .slice (some ⟨hi.next+2,0,none⟩) (xs.length+1) UNK,xs++[x.worth],by omega,rfl,rfl,rfl,?_,?_,?_,?_,?_⟩
       ·exact((hx4.wr (x:=q) (base:=h.next) (o:= .dead) (show h.next+1≤q by omega) (by omega)).push (.cells (ints (xs++[x.worth])) true 1)).wr (Nat.le_refl _) (Nat.le_succ _)
       ·(simp only[z1,z2];omega)
       ·(simp(disch:=first|omega|(simp only[z1,z2];omega))only[z3,z4,z5,z6,z7,z1,z2, *];exact rfl)
       ·have:=WslB.full (lo:=h.next+2) (q:=hi.next+2) (xs:=xs++[x.worth]) (h:=(((((hi.push (.cells [.int .i64 0, .int .i64 0, .int .i64 0, .int .i64 0, .bool false] true 1)).wr h.next hi.next (.cells (kc x) true 1)).push (.cells [.int .i64 x.worth] true 1)).wr h.next q .dead).push (.cells (ints (xs++[x.worth])) true 1)).wr h.next (h.next+1) (.cells [.slice (some ⟨b,o,none⟩) n c, .int .i64 kerf, .slice (some ⟨hi.next+2,0,none⟩) (xs.length+1) UNK] true 1)) (by omega) (by(simp only[z1,z2];omega)) (by(simp(disch:=first|omega|(simp only[z1,z2];omega)|(simp only[z1,z2];done)|fail)only[z8,z4,z5,z9,z7,z1,z2, *];done)) (by simp)
        rw[List.length_append]at this
        exact this
       ·exact⟨⟨hid.down.2.symm⟩⟩
   ·obtain rfl:i=n:=by omega
    refine y4 ?_;refine yf ?_;refine y3 ?_;refine wE_seq ?_;refine yX ?_;refine wE_exit ?_;refine kS_e ?_;refine kS_e ?_;refine kB_e ?_;refine kS_n ?_
    refine y4 ?_;refine yM ?_;refine yM ?_;refine yM ?_;refine y3 ?_;refine wE_ret ?_
    refine endA_ret (vs:=[.pointer (some ⟨h.next+1,0,none⟩), .int .i64 0]) (hx1.log.trans hr.log) rfl ⟨_,rfl,fun _=> ?_⟩
    rw[List.take_of_length_le (by omega)]at hxs
    obtain rfl:xs=l.map (·.worth):=hxs
    exact⟨w,rfl,hW,hw⟩
 ·rw[if_neg hc]
  refine yM ?_;refine y3 ?_;refine y4 ?_;refine yM ?_;refine yt ?_;refine y3 ?_;refine yY ?_;refine y4 ?_;refine yM ?_;refine yM ?_;refine yM ?_;refine y3 ?_;refine wE_ret ?_;refine kS_r ?_
  exact endA_ret (vs:=[.pointer none, .int .i64 (chk kerf l)]) hr.log rfl ⟨_,rfl,fun e=>(hc e).elim⟩
def StartQ(a:Option Addr)(n c:Nat)(kerf:Int)(l:List Kd)(er:Int)(v:Value)(h':Heap):Prop:=∃p,v= .tuple #[.pointer p, .int .i64 er]∧
 (er=0→∃bb wa wc,p=some ⟨bb,0,none⟩∧h'.get bb=some (.cells [.slice a n c, .int .i64 kerf, .slice wa n wc] true 1)∧SliceOf h' 1 (.slice wa n wc) n (ints (l.map (·.worth))))
theorem StartQ.gc{a:Option Addr}{n c:Nat}{kerf:Int}{l:List Kd}{er:Int}(h:Heap)(v:Value)(h1:Heap)(hv:noRef v=true)(q:StartQ a n c kerf l er v h1):StartQ a n c kerf l er v h:=by
 obtain⟨p,rfl,h2⟩:=q
 refine⟨p,rfl,fun he=> ?_⟩
 obtain⟨bb,wa,wc,rfl,_⟩:=h2 he
 simp[noRef,flatL,flat,scalL,scal,scal1]at hv
set_option maxHeartbeats 4000000 in
theorem startedB75(G:FnsE T){h:Heap}(hr:Rdy h){a:Option Addr}{n c:Nat}{l:List Kd}(hs:SliceOf h 5 (.slice a n c) n (kcs l))(kerf:Int)(hn:n<1000000){v:Value}{m:Nat}{bl:List Bool}(hb:SliceOf h 1 v m (bcs bl))(hm:m<1000000):
 Al T 75 [.agg #[.slice a n c, .int .i64 kerf],v] h (StartQ a n c kerf l (startE kerf l bl)):=by
 have hlen:l.length=n:=by have:=hs.len;rw[kcs_length]at this;omega
 refine CW.mono (startedO75 G hr hs kerf hn hb hm) fun r h' ⟨hx,v,hv,q⟩=>⟨hx,v,hv,?_⟩
 obtain⟨p,rfl,h2⟩:=q
 refine⟨p,rfl,fun he=> ?_⟩
 obtain⟨w,rfl,g,s⟩:=h2 he
 have e:(l.map (·.worth)).length=n:=by rw[List.length_map,hlen]
 obtain⟨a2,c2,rfl,s2⟩:=s.slice (by omega)
 rw[e]at g s2
 exact⟨_,a2,c2,rfl,g,s2⟩
end Go.A.Pk
end
section
set_option maxRecDepth 100000
namespace Go.A.Pk
variable {T:Nat→Option AFunc}
structure FnsW (T:Nat→Option AFunc):Prop extends FnsE T,FnsV T where
 f76:T 76=some f76
 f32:T 32=some f32
def OnB(w ht:Int):Prop:=(1≤w∧w≤16)∧(1≤ht∧ht≤16)
instance(w ht:Int):Decidable (OnB w ht):=by unfold OnB;infer_instance
theorem board76a(hp:primAS T)(hf6:T 76=some f76)(hf7:T 77=some f77){h:Heap}(hr:Rdy h)(w ht:Int):Pu T 76 [.int .i64 w, .int .i64 ht] h (.bool (decide (OnB w ht))):=by
 refine .of hp hf6 hr rfl ?_
 by_cases c1:1≤w∧w≤16
 ·by_cases c2:1≤ht∧ht≤16
  ·rw[decide_eq_true (show OnB w ht from⟨c1,c2⟩)]
   refine y4 ?_;refine yM ?_;refine y3 ?_;refine y4 ?_;refine yM ?_
   refine yC ?_
   refine FW.pu (in77T hp hf7 (.of hr.wf) c1) ?_
   refine yM ?_;refine yO ?_;refine yM ?_;refine yO ?_
   refine yC ?_
   refine FW.pu (in77T hp hf7 (.of hr.wf) c2) ?_
   refine yT ?_;refine yM ?_;refine y3 ?_;refine wE_ret ?_
   exact endP_ret hr.log rfl rfl
  ·rw[decide_eq_false (show¬OnB w ht from fun q=>c2 q.2)]
   refine y4 ?_;refine yM ?_;refine y3 ?_;refine y4 ?_;refine yM ?_
   refine yC ?_
   refine FW.pu (in77T hp hf7 (.of hr.wf) c1) ?_
   refine yM ?_;refine yO ?_;refine yM ?_;refine yO ?_
   refine yC ?_
   refine FW.pu (in77F hp hf7 (.of hr.wf) c2) ?_
   refine yT ?_;refine yM ?_;refine y3 ?_;refine wE_ret ?_
   exact endP_ret hr.log rfl rfl
 ·rw[decide_eq_false (show¬OnB w ht from fun q=>c1 q.1)]
  refine y4 ?_;refine yM ?_;refine y3 ?_;refine y4 ?_;refine yM ?_
  refine yC ?_
  refine FW.pu (in77F hp hf7 (.of hr.wf) c1) ?_
  refine yM ?_;refine yP ?_;refine yP ?_;refine yU ?_;refine yM ?_;refine y3 ?_;refine wE_ret ?_
  exact endP_ret hr.log rfl rfl
theorem board76(F:FnsW T){h:Heap}(hr:Rdy h)(w ht:Int):Pu T 76 [.int .i64 w, .int .i64 ht] h (.bool (decide (OnB w ht))):=board76a F.toFnsE.toFnsA.p F.f76 F.toFnsE.toFnsA.f77 hr w ht
theorem StartQ.logs{a:Option Addr}{n c:Nat}{kerf:Int}{l:List Kd}{er:Int}(v:Value)(h':Heap)(m:List Nat)(q:StartQ a n c kerf l er v h'):StartQ a n c kerf l er v {h' with log:=m}:=by
 obtain⟨p,h1,h2⟩:=q
 refine⟨p,h1,fun e=> ?_⟩
 obtain⟨bb,wa,wc,q1,q2,q3⟩:=h2 e
 exact⟨bb,wa,wc,q1,q2,q3.log _⟩
def bestV(kerf:Int)(l:List Kd)(w ht:Int):Int:=look (tabL kerf (l.map (·.worth)) l (boardsL w.toNat ht.toNat)) (w,ht)
def bestR(kerf:Int)(l:List Kd)(w ht:Int):Value:= .tuple #[.int .i64 (if asked kerf l (OnB w ht)=0 then bestV kerf l w ht else 0), .int .i64 (asked kerf l (OnB w ht))]
set_option maxHeartbeats 4000000 in
theorem best32(F:FnsW T){h:Heap}(hr:Rdy h){a:Option Addr}{n c:Nat}{l:List Kd}(hs:SliceOf h 5 (.slice a n c) n (kcs l))(kerf:Int)(hn:n<1000000)(w ht:Int):Pu T 32 [.agg #[.slice a n c, .int .i64 kerf], .int .i64 w, .int .i64 ht] h (bestR kerf l w ht):=by
 refine .of F.toFnsE.toFnsA.p F.f32 hr rfl ?_
 have hx:Ext h (h.push (.cells [.slice a n c, .int .i64 kerf] true 1)):=(Ext.refl h).push _
 obtain rfl:n=l.length:=by have:=hs.len;rw[kcs_length]at this;omega
 refine y4 ?_;refine yB ?_;refine yM ?_;refine yM ?_;refine y3 ?_;refine wE_seq ?_;refine wE_draw ?_
 refine qN ?_
 refine qM ?_;refine qM ?_
 refine qC ?_
 refine FW.puD (board76 F (.of (hx.wf hr.wf)) w ht) (by apply ra_dropC rfl;apply ra_dropC rfl;apply ra_keepC rfl (rq_quiet rfl (a_loadN (by exact rfl) (by(simp(disch:=first|omega|(simp only[z1,z2];omega))only[z3,z4,z5,z6,z7,z1,z2, *];exact rfl)) (by exact rfl) (by exact rfl)) (by exact sv_agg (by refine sl_cons (s1_slice _ _ _) ?_;refine sl_cons (s1_int _ _) ?_;exact sl_nil))) rfl;exact ra_nil) ?_
 refine wD_new rfl rfl rfl (by exact rfl) (by exact rfl) (by exact rfl) (a_bslice (by exact rfl) (by exact rfl)) (by refine rs_cons (rq_quiet rfl (a_loadN (by exact rfl) (by(simp(disch:=first|omega|(simp only[z1,z2];omega))only[z3,z4,z5,z6,z7,z1,z2, *];exact rfl)) (by exact rfl) (by exact rfl)) (by exact sv_agg (by refine sl_cons (s1_slice _ _ _) ?_;refine sl_cons (s1_int _ _) ?_;exact sl_nil))) ?_;exact rs_nil) ?_
 refine qC ?_
 have hx2:=hx.push (.cells [.bool (decide (OnB w ht))] true 1)
 refine FW.alD (startedB75 F.toFnsE (.of (hx2.wf hr.wf)) ((hs.ext hx2).log []) kerf hn (bl:=[decide (OnB w ht)]) (m:=1) (.mem ⟨Nat.lt_succ_self _,⟨_,_,_,z3 _ _,rfl⟩,rfl⟩ (Nat.le_refl _)) (by omega)) (fun v h' m q=>StartQ.logs v h' m q) ?_
 rintro _ h1 hx3 ⟨p,rfl,hst⟩
 rw[startE_one]at hst
 rw[startE_one]
 refine⟨_,by apply ra_dropC rfl;apply ra_dropC rfl;exact ra_nil,?_⟩
 have w1:WF h1:=hx3.wf (hx2.wf hr.wf)
 have hx13:Ext h h1:=hx2.trans hx3
 by_cases ha:asked kerf l (OnB w ht)=0
 ·obtain⟨bb,wa,wc,rfl,gb,hws⟩:=hst ha
  have hP:=asked_zero ha
  obtain⟨q1,q2,q3,q4⟩:=chk_iff.1 hP.1
  obtain⟨⟨e1,e2⟩,e3,e4⟩:=hP.2
  obtain⟨wn,rfl⟩:=Int.eq_ofNat_of_zero_le (show 0≤w by omega)
  obtain⟨hn',rfl⟩:=Int.eq_ofNat_of_zero_le (show 0≤ht by omega)
  unfold bestR
  rw[if_pos ha,ha]
  refine qM ?_;refine qE ?_;refine qE ?_
  refine qM ?_;refine qM ?_;refine wD_nil ?_;refine y1 ?_;refine kS_n ?_;refine wE_seq ?_;refine y4 ?_
  refine yM ?_;refine yf ?_;refine y3 ?_;refine yX ?_;refine wE_skip ?_;refine kS_n ?_;refine y4 ?_
  refine yM ?_;refine yM ?_;refine yM ?_
  refine yC ?_
  refine FW.al (best83 F.toFnsV (.of w1) (w:=wn) (ht:=hn') (W:=1000000) (ws:=l.map (·.worth)) (by omega) (by omega) (by omega) ⟨by omega,by omega⟩ (by omega) (fun x hx=> ?_) gb ((hs.ext hx13).log []) (hws.log [])) (fun _ _ _ q=>q) ?_
  ·obtain⟨k,hk,rfl⟩:=List.mem_map.1 hx
   have:=(q3 k hk).2.2.2
   exact this
  rintro _ h2 hx4 ⟨r,rfl,gr⟩
  refine yM ?_;refine yM ?_;refine wO_val (a_build (by exact rfl)) ?_
  refine wO_val (a_lookup (x:=((wn:Int),(hn':Int))) (by exact rfl) (by exact rfl) gr) ?_
  refine yM ?_;refine yM ?_;refine y3 ?_;refine wE_ret ?_
  exact endP_ret ((hx13.trans hx4).log.trans hr.log) rfl rfl
 ·unfold bestR
  rw[if_neg ha]
  refine qM ?_;refine qE ?_;refine qE ?_
  refine qM ?_;refine qM ?_;refine wD_nil ?_;refine y1 ?_;refine kS_n ?_;refine wE_seq ?_;refine y4 ?_
  refine yM ?_;refine yt ?_;refine y3 ?_;refine yY ?_;refine y4 ?_;refine yM ?_
  refine yM ?_;refine yM ?_;refine y3 ?_;refine wE_ret ?_;refine kS_r ?_
  exact endP_ret (hx13.log.trans hr.log) rfl rfl
end Go.A.Pk
end
section
namespace Go.A.Pk
def foldM{α:Type}(f:α→Int)(xs:List α)(m:Int):Int:=xs.foldl (fun m x=>mx m (f x)) m
theorem foldM_ge{α:Type}{f:α→Int}:∀{xs:List α} {m:Int},m≤foldM f xs m∧∀x∈xs,f x≤foldM f xs m
 |[],m=>⟨Int.le_refl _,fun x hx=>by cases hx⟩
 |y::xs,m=>by
  have h:=foldM_ge (f:=f) (xs:=xs) (m:=mx m (f y))
  have hm:=mx_ge (a:=m) (b:=f y)
  refine⟨Int.le_trans hm.1 h.1,fun x hx=> ?_⟩
  rcases List.mem_cons.1 hx with rfl|hx
  ·exact Int.le_trans hm.2 h.1
  ·exact h.2 x hx
theorem foldM_le{α:Type}{f:α→Int}{B:Int}:∀{xs:List α} {m:Int},m≤B→(∀x∈xs,f x≤B)→foldM f xs m≤B
 |[],m,h,_=>h
 |y::xs,m,h,hx=>foldM_le (xs:=xs) (m:=mx m (f y)) (mx_le h (hx y (List.mem_cons_self ..))) fun x hx'=>hx x (List.mem_cons_of_mem _ hx')
theorem foldM_congr{α:Type}{f g:α→Int}:∀{xs:List α} {m:Int},(∀x∈xs,f x=g x)→foldM f xs m=foldM g xs m
 |[],_,_=>rfl
 |y::xs,m,h=>by
  show foldM f xs (mx m (f y))=foldM g xs (mx m (g y))
  rw[h y (List.mem_cons_self ..),foldM_congr fun x hx=>h x (List.mem_cons_of_mem _ hx)]
def VF(kerf:Int)(ws:List Int)(kl:List Kd):Nat→Int×Int→Int
 |0,_=>0
 |n+1,p=>if 1≤p.1∧1≤p.2 then foldM (fun x=>VF kerf ws kl n (oneB x p.1.toNat p.2.toNat)+VF kerf ws kl n (twoB kerf x p.1.toNat p.2.toNat)) (cutsL p.1.toNat p.2.toNat) (leafM ws (leavesL p.1.toNat p.2.toNat kl 0) 0)else 0
def sz(p:Int×Int):Nat:=p.1.toNat+p.2.toNat
theorem cut_lt{kerf:Int}(hk:0≤kerf){a b:Nat}{x:Nat×Nat}(hx:x∈cutsL a b):sz (oneB x a b)<a+b∧sz (twoB kerf x a b)<a+b:=by
 unfold sz
 rcases cuts_of hx with⟨e3,hl,hu⟩|⟨e4,hl,hu⟩
 ·simp only[oneB,twoB,e3,if_true];omega
 ·have n3:¬x.1=3:=by omega
  simp only[oneB,twoB,if_neg n3];omega
theorem VF_succ{kerf:Int}(hk:0≤kerf){ws:List Int}{kl:List Kd}:∀{n:Nat} {p:Int×Int},sz p≤n→VF kerf ws kl (n+1) p=VF kerf ws kl n p
 |0,p,h=>by
  unfold sz at h
  simp only[VF]
  rw[if_neg (by omega)]
 |n+1,p,h=>by
  rw[VF,VF]
  split
  ·refine foldM_congr fun x hx=> ?_
   have:=cut_lt hk hx
   unfold sz at h
   rw[VF_succ hk (by omega),VF_succ hk (by omega)]
  ·rfl
theorem VF_ge{kerf:Int}(hk:0≤kerf){ws:List Int}{kl:List Kd}{n:Nat}{p:Int×Int}(h:sz p≤n):∀{m:Nat},n≤m→VF kerf ws kl m p=VF kerf ws kl n p:=by
 intro m hm
 induction m with
 |zero=>obtain rfl:n=0:=by omega
        rfl
 |succ m ih=>
  by_cases e:n=m+1
  ·rw[e]
  ·rw[VF_succ hk (by omega),ih (by omega)]
def V(kerf:Int)(ws:List Int)(kl:List Kd)(p:Int×Int):Int:=VF kerf ws kl (sz p) p
theorem V_out{kerf:Int}{ws:List Int}{kl:List Kd}{p:Int×Int}(h:¬ (1≤p.1∧1≤p.2)):V kerf ws kl p=0:=by
 unfold V
 cases sz p with
 |zero=>rfl
 |succ n=>rw[VF,if_neg h]
theorem V_eq{kerf:Int}(hk:0≤kerf){ws:List Int}{kl:List Kd}{a b:Nat}(ha:1≤a)(hb:1≤b):V kerf ws kl ((a:Int),(b:Int))=foldM (fun x=>V kerf ws kl (oneB x a b)+V kerf ws kl (twoB kerf x a b)) (cutsL a b) (leafM ws (leavesL a b kl 0) 0):=by
 have hs:sz ((a:Int),(b:Int))=a+b:=by simp[sz]
 unfold V
 rw[hs]
 obtain⟨n,hn⟩:∃n,a+b=n+1:=⟨a+b-1,by omega⟩
 rw[hn,VF,if_pos ⟨by show(1:Int)≤a;omega,by show(1:Int)≤b;omega⟩]
 show foldM (fun x=>VF kerf ws kl n (oneB x a b)+VF kerf ws kl n (twoB kerf x a b)) (cutsL a b) _=_
 refine foldM_congr fun x hx=> ?_
 have:=cut_lt hk hx
 rw[VF_ge hk (n:=sz (oneB x a b)) (Nat.le_refl _) (by omega),VF_ge hk (n:=sz (twoB kerf x a b)) (Nat.le_refl _) (by omega)]
theorem look_upd{x:Nat×Nat}{v:Int}:∀(t:Tab) (y:Int×Int),look (upd t x v) y=if y=((x.1:Int),(x.2:Int))then v else look t y
 |[],y=>by
  have e1:isKey y (x,v)=decide (y=((x.1:Int),(x.2:Int))):=by
   unfold isKey
   exact decide_eq_decide.2 ⟨fun q=>Prod.ext q.1 q.2,fun q=>by rw[q];exact⟨rfl,rfl⟩⟩
  simp only[upd,look]
  rw[e1]
  by_cases h:y=((x.1:Int),(x.2:Int))
  ·simp[h]
  ·simp[h]
 |e::t,y=>by
  simp only[upd]
  by_cases hk:isKey (x.1,x.2) e=true
  ·rw[if_pos hk]
   simp only[look]
   simp only[isKey,decide_eq_true_eq]at hk
   have e1:isKey y (x,v)=decide (y=((x.1:Int),(x.2:Int))):=by
    unfold isKey
    exact decide_eq_decide.2 ⟨fun q=>Prod.ext q.1 q.2,fun q=>by rw[q];exact⟨rfl,rfl⟩⟩
   have e2:isKey y e=decide (y=((x.1:Int),(x.2:Int))):=by
    unfold isKey
    exact decide_eq_decide.2 ⟨fun q=>Prod.ext (q.1.trans hk.1.symm) (q.2.trans hk.2.symm),fun q=>by rw[q];exact hk⟩
   rw[e1,e2]
   by_cases h:y=((x.1:Int),(x.2:Int))
   ·simp[h]
   ·simp[h]
  ·rw[if_neg hk]
   simp only[look]
   rw[look_upd t y]
   by_cases h:y=((x.1:Int),(x.2:Int))
   ·have:isKey y e=false:=by rw[h];simpa using hk
    simp[h,this]
    intro q
    rw[h]at this
    rw[this]at q;cases q
   ·simp[h]
theorem tab_look{kerf:Int}(hk:0≤kerf){ws:List Int}{kl:List Kd}{h:Nat}:∀(i j:Nat),j≤h→∀y:Int×Int,look (tabL kerf ws kl (boardsL i h++row (i+1) j)) y=
 if(1≤y.1∧y.1≤i∧1≤y.2∧y.2≤h)∨(y.1=(i:Int)+1∧1≤y.2∧y.2≤j)then V kerf ws kl y else 0
 |0,0,_,y=>by
  rw[if_neg (by omega)]
  rfl
 |i+1,0,hj,y=>by
  have e:boardsL (i+1) h++row (i+1+1) 0=boardsL i h++row (i+1) h:=by simp[boardsL,row]
  rw[e,tab_look hk i h (Nat.le_refl _) y]
  have:((1≤y.1∧y.1≤i∧1≤y.2∧y.2≤h)∨(y.1=(i:Int)+1∧1≤y.2∧y.2≤h))↔((1≤y.1∧y.1≤(i+1:Nat)∧1≤y.2∧y.2≤h)∨(y.1=((i+1:Nat):Int)+1∧1≤y.2∧y.2≤(0:Nat))):=by omega
  by_cases hc:(1≤y.1∧y.1≤i∧1≤y.2∧y.2≤h)∨(y.1=(i:Int)+1∧1≤y.2∧y.2≤h)
  ·rw[if_pos hc,if_pos (this.1 hc)]
  ·rw[if_neg hc,if_neg (fun q=>hc (this.2 q))]
 |i,j+1,hj,y=>by
  have ih:=tab_look hk (ws:=ws) (kl:=kl) (h:=h) i j (by omega)
  rw[row_succ,←List.append_assoc,tabL_snoc,look_upd,ih y]
  have hval:val kerf ws kl (tabL kerf ws kl (boardsL i h++row (i+1) j)) (i+1) (j+1)=V kerf ws kl (((i+1:Nat):Int),((j+1:Nat):Int)):=by
   rw[V_eq hk (by omega) (by omega)]
   show foldM _ _ _=foldM _ _ _
   refine foldM_congr fun x hx=> ?_
   rw[ih,ih]
   have key:∀z:Int×Int,(1≤z.1∧1≤z.2→((1≤z.1∧z.1≤i∧1≤z.2∧z.2≤h)∨(z.1=(i:Int)+1∧1≤z.2∧z.2≤j)))→(if(1≤z.1∧z.1≤i∧1≤z.2∧z.2≤h)∨(z.1=(i:Int)+1∧1≤z.2∧z.2≤j)then V kerf ws kl z else 0)=V kerf ws kl z:=fun z hz=>by
    by_cases hc:1≤z.1∧1≤z.2
    ·rw[if_pos (hz hc)]
    ·rw[if_neg (by omega),V_out hc]
   rcases cuts_of hx with⟨e3,hl,hu⟩|⟨e4,hl,hu⟩
   ·rw[key _ (by simp only[oneB,e3,if_true];omega),key _ (by simp only[twoB,e3,if_true];omega)]
   ·have n3:¬x.1=3:=by omega
    rw[key _ (by simp only[oneB,if_neg n3];omega),key _ (by simp only[twoB,if_neg n3];omega)]
  by_cases he:y=(((i+1:Nat):Int),((j+1:Nat):Int))
  ·rw[if_pos he,hval,if_pos (by rw[he];simp;omega),he]
  ·rw[if_neg he]
   have hne:¬ (y.1=((i+1:Nat):Int)∧y.2=((j+1:Nat):Int)):=fun q=>he (Prod.ext q.1 q.2)
   by_cases hc:(1≤y.1∧y.1≤i∧1≤y.2∧y.2≤h)∨(y.1=(i:Int)+1∧1≤y.2∧y.2≤j)
   ·rw[if_pos hc,if_pos (by omega)]
   ·rw[if_neg hc,if_neg (by omega)]
theorem bestV_eq{kerf:Int}(hk:0≤kerf){l:List Kd}{w ht:Int}(hw:1≤w)(hh:1≤ht):bestV kerf l w ht=V kerf (l.map (·.worth)) l (w,ht):=by
 unfold bestV
 have:=tab_look hk (ws:=l.map (·.worth)) (kl:=l) (h:=ht.toNat) w.toNat 0 (Nat.zero_le _) (w,ht)
 rw[show boardsL w.toNat ht.toNat++row (w.toNat+1) 0=boardsL w.toNat ht.toNat by simp[row]]at this
 rw[this,if_pos]
 exact .inl ⟨hw,by show w≤w.toNat;omega,hh,by show ht≤ht.toNat;omega⟩
end Go.A.Pk
end
section
set_option maxRecDepth 100000
namespace Go.A.Pk
variable {T:Nat→Option AFunc}
section
variable {base:Nat} {h:Heap} {e:Env}
end
def nd(x:Nat×Nat):List Value:=[.int .u8 x.1, .int .i64 x.2]
end Go.A.Pk
end
section
set_option maxRecDepth 100000
namespace Go.A.Pk
variable {T:Nat→Option AFunc}
def ncs:List (Nat×Nat)→List Value
 |[]=>[]
 |x::l=>nd x++ncs l
inductive PlanR (kerf:Int) (ws:List Int) (kl:List Kd) (t:Tab):Int×Int→List (Nat×Nat)→Prop
 |none {p:Int×Int}:¬ (1≤p.1∧1≤p.2)→PlanR kerf ws kl t p []
 |leaf {a b:Nat} {x:Nat×Nat}:1≤a→1≤b→x∈leavesL a b kl 0→ws.getD x.2 0=look t ((a:Int),(b:Int))→PlanR kerf ws kl t ((a:Int),(b:Int)) [x]
 |cut {a b:Nat} {x:Nat×Nat} {n1 n2:List (Nat×Nat)}:1≤a→1≤b→x∈cutsL a b→look t (oneB x a b)+look t (twoB kerf x a b)=look t ((a:Int),(b:Int))→PlanR kerf ws kl t (oneB x a b) n1→PlanR kerf ws kl t (twoB kerf x a b) n2→PlanR kerf ws kl t ((a:Int),(b:Int)) (x::(n1++n2))
 |waste {a b:Nat}:1≤a→1≤b→(∀x∈leavesL a b kl 0,ws.getD x.2 0≠look t ((a:Int),(b:Int)))→(0<look t ((a:Int),(b:Int))→∀x∈cutsL a b,look t (oneB x a b)+look t (twoB kerf x a b)≠look t ((a:Int),(b:Int)))→PlanR kerf ws kl t ((a:Int),(b:Int)) [(0,0)]
def U2(h:Heap)(v:Value):Prop:=∀b o n,v= .slice (some ⟨b,o,none⟩) n UNK→∃vs own,h.get b=some (.cells vs own 2)
def PlanQ(kerf:Int)(ws:List Int)(kl:List Kd)(t:Tab)(p:Int×Int)(v:Value)(h:Heap):Prop:=∃ns a c,PlanR kerf ws kl t p ns∧v= .slice a ns.length c∧SliceOf h 2 (.slice a ns.length c) ns.length (ncs ns)∧U2 h v∧(c=UNK∨c<1000000)
theorem PlanQ.log{kerf:Int}{ws:List Int}{kl:List Kd}{t:Tab}{p:Int×Int}(v:Value)(h':Heap)(m:List Nat)(q:PlanQ kerf ws kl t p v h'):PlanQ kerf ws kl t p v {h' with log:=m}:=by
 obtain⟨ns,a,c,h1,h2,h3,h4⟩:=q
 exact⟨ns,a,c,h1,h2,h3.log m,h4⟩
structure BenchT (h:Heap) (bb mb:Nat) (sa:Option Addr) (n c:Nat) (kerf:Int) (wa:Option Addr) (wc:Nat) (kl:List Kd) (ws:List Int) (t:Tab):Prop where
 gb:h.get bb=some (.cells [.slice sa n c, .int .i64 kerf, .slice wa n wc] true 1)
 gm:h.get mb=some (.map (ents t))
 hks:SliceOf h 5 (.slice sa n c) n (kcs kl)
 hws:SliceOf h 1 (.slice wa n wc) n (ints ws)
theorem BenchT.keep{h h':Heap}{bb mb:Nat}{sa:Option Addr}{n c:Nat}{kerf:Int}{wa:Option Addr}{wc:Nat}{kl:List Kd}{ws:List Int}{t:Tab}(B:BenchT h bb mb sa n c kerf wa wc kl ws t)(hw:WF h)(hn:h.next≤h'.next)(ha:∀z,z<h.next→(∃v o s,h.get z=some (.cells v o s))∨(∃m,h.get z=some (.map m))→h'.get z=h.get z):BenchT h' bb mb sa n c kerf wa wc kl ws t:=
 ⟨(ha _ (WF.get_lt hw B.gb) (.inl ⟨_,_,_,B.gb⟩)).trans B.gb,(ha _ (WF.get_lt hw B.gm) (.inr ⟨_,B.gm⟩)).trans B.gm,SliceOf.agree B.hks hn fun b vs o s hb he=>ha b hb (.inl ⟨_,_,_,he⟩),SliceOf.agree B.hws hn fun b vs o s hb he=>ha b hb (.inl ⟨_,_,_,he⟩)⟩
theorem BenchT.ext{h h':Heap}{bb mb:Nat}{sa:Option Addr}{n c:Nat}{kerf:Int}{wa:Option Addr}{wc:Nat}{kl:List Kd}{ws:List Int}{t:Tab}(B:BenchT h bb mb sa n c kerf wa wc kl ws t)(hw:WF h)(x:Ext h h'):BenchT h' bb mb sa n c kerf wa wc kl ws t:=B.keep hw x.next fun z hz _=>x.old z hz
structure PX (H:Heap) (l p6:Nat) (L2:AObj) (D:List (Nat×Nat)→Prop) (H':Heap):Prop where
 old:∀z,z<H.next→z≠l→z≠p6→H'.get z=H.get z
 nx:H.next≤H'.next
 loop:H'.get l=some L2
 out:∃ns q c,D ns∧H.next≤q∧q<H'.next∧(ns.length≤c∧(c=UNK∨c<1000000))∧H'.get p6=some (.cells [.slice (some ⟨q,0,none⟩) ns.length c] true 1)∧H'.get q=some (.cells (ncs ns) true 2)
end Go.A.Pk
end
section
set_option maxRecDepth 100000
namespace Go.A.Pk
variable {T:Nat→Option AFunc}
def NoughtP(x:Int×Int):Prop:=x.1<1∨x.2<1
instance(x:Int×Int):Decidable (NoughtP x):=by unfold NoughtP;infer_instance
theorem PlanQ.gc{kerf:Int}{ws:List Int}{kl:List Kd}{t:Tab}{p:Int×Int}{h:Heap}(v:Value)(h1:Heap)(hv:noRef v=true)(q:PlanQ kerf ws kl t p v h1):PlanQ kerf ws kl t p v h:=by
 obtain⟨ns,a,c,R,rfl,s,u⟩:=q
 have hu:U2 h (.slice a ns.length c):=fun b o n e=>by cases e;simp[noRef,flatL,flat,scalL,scal,scal1]at hv
 refine⟨ns,a,c,R,rfl,?_,hu,u.2⟩
 clear u
 generalize ns.length=n at*
 generalize ncs ns=cs at*
 cases s with
 |nil=>exact .nil
 |mem s _=>simp[noRef,flatL,flat,scalL,scal,scal1]at hv
theorem PX.log{H:Heap}{l p6:Nat}{L2:AObj}{D:List (Nat×Nat)→Prop}{H':Heap}(m:List Nat)(p:PX H l p6 L2 D H'):PX H l p6 L2 D {H' with log:=m}:=⟨p.old,p.nx,p.loop,p.out⟩
theorem PX.up{H H0:Heap}{l p6:Nat}{L2:AObj}{D D':List (Nat×Nat)→Prop}{H':Heap}(p:PX H l p6 L2 D H')(hn:H0.next≤H.next)(ho:∀z,z<H0.next→z≠l→z≠p6→H.get z=H0.get z)(hD:∀ns,D ns→D' ns):PX H0 l p6 L2 D' H':=by
 obtain⟨ns,q,c,d,h1,h2,h3,h4,h5⟩:=p.out
 exact⟨fun z hz h6 h7=>(p.old z (by omega) h6 h7).trans (ho z hz h6 h7),Nat.le_trans hn p.nx,p.loop,ns,q,c,hD ns d,by omega,h2,h3,h4,h5⟩
end Go.A.Pk
end
section
set_option maxRecDepth 100000
namespace Go.A.Pk
variable {T:Nat→Option AFunc}
theorem bestR_ok{kerf:Int}{l:List Kd}{w ht:Int}(h:asked kerf l (OnB w ht)=0):bestR kerf l w ht= .tuple #[.int .i64 (bestV kerf l w ht), .int .i64 0]:=by unfold bestR;rw[if_pos h,h]
theorem bestR_no{kerf:Int}{l:List Kd}{w ht:Int}(h:¬asked kerf l (OnB w ht)=0):bestR kerf l w ht= .tuple #[.int .i64 0, .int .i64 (asked kerf l (OnB w ht))]:=by unfold bestR;rw[if_neg h]
end Go.A.Pk
end
section
set_option maxRecDepth 100000
namespace Go.A.Pk
variable {T:Nat→Option AFunc}
def wsP(l:List Kd):List Int:=l.map (·.worth)
def tabP(kerf:Int)(l:List Kd)(w ht:Int):Tab:=tabL kerf (wsP l) l (boardsL w.toNat ht.toNat)
def PlanO(kerf:Int)(l:List Kd)(w ht:Int)(v:Value)(h:Heap):Prop:=∃ns a c,v= .tuple #[.slice a ns.length c, .int .i64 (asked kerf l (OnB w ht))]∧SliceOf h 2 (.slice a ns.length c) ns.length (ncs ns)∧(U2 h (.slice a ns.length c)∧(c=UNK∨c<1000000))∧
 (asked kerf l (OnB w ht)=0→PlanR kerf (wsP l) l (tabP kerf l w ht) (w,ht) ns)∧(asked kerf l (OnB w ht)≠0→ns=[])
theorem PlanO.log{kerf:Int}{l:List Kd}{w ht:Int}(v:Value)(h':Heap)(m:List Nat)(q:PlanO kerf l w ht v h'):PlanO kerf l w ht v {h' with log:=m}:=by
 obtain⟨ns,a,c,h1,h2,h3,h4⟩:=q
 exact⟨ns,a,c,h1,h2.log m,h3,h4⟩
theorem PlanO.gc{kerf:Int}{l:List Kd}{w ht:Int}{h:Heap}(v:Value)(h1:Heap)(hv:noRef v=true)(q:PlanO kerf l w ht v h1):PlanO kerf l w ht v h:=by
 obtain⟨ns,a,c,rfl,s,u,r⟩:=q
 have hu:U2 h (.slice a ns.length c):=fun b o n e=>by cases e;simp[noRef,flatL,flat,scalL,scal,scal1]at hv
 refine⟨ns,a,c,rfl,?_,⟨hu,u.2⟩,r⟩
 clear r u hu
 generalize ns.length=n at*
 generalize ncs ns=cs at*
 cases s with
 |nil=>exact .nil
 |mem s _=>simp[noRef,flatL,flat,scalL,scal,scal1]at hv
end Go.A.Pk
end
section
set_option maxRecDepth 100000
namespace Go.A.Pk
variable {T:Nat→Option AFunc}
def ncI:List (Nat×Int)→List Value
 |[]=>[]
 |x::l=>[.int .u8 x.1, .int .i64 x.2]++ncI l
theorem ncI_len:∀l,(ncI l).length=l.length*2
 |[]=>rfl
 |x::l=>by simp[ncI,ncI_len l];omega
structure Sm where
 ok:Bool
 worth:Int
 cells:Int
 depth:Int
 used:List Int
def z12:List Int:=[0,0,0,0,0,0,0,0,0,0,0,0]
def sm0:Sm:=⟨false,0,0,0,z12⟩
def isP(k:Kd)(kind:Nat)(p:Int×Int):Prop:=(kind=1∧k.w=p.1∧k.h=p.2)∨(kind=2∧k.turn=true∧k.h=p.1∧k.w=p.2)
instance(k:Kd)(kind:Nat)(p:Int×Int):Decidable (isP k kind p):=by unfold isP;infer_instance
def oneI(x:Nat×Int)(p:Int×Int):Int×Int:=if x.1=3 then(x.2,p.2)else(p.1,x.2)
def twoI(kerf:Int)(x:Nat×Int)(p:Int×Int):Int×Int:=if x.1=3 then(p.1-x.2-kerf,p.2)else(p.1,p.2-x.2-kerf)
def sizeI(x:Nat×Int)(p:Int×Int):Int:=if x.1=3 then p.1 else p.2
def plankS(l:List Kd)(x:Nat×Int)(p:Int×Int):Sm×Nat:=
 if 0≤x.2∧x.2≤(l.length:Int)-1 then(match l[x.2.toNat]? with
  |some k=>(⟨decide (isP k x.1 p),k.worth,p.1*p.2,0,z12.set x.2.toNat 1⟩,1)
  |none=>(sm0,0))else(sm0,0)
def nodeS(l:List Kd)(x:Nat×Int)(p:Int×Int):Sm×Nat:=
 if x.1=0 then({sm0 with ok:=decide (x.2=0)},1)else if x.1=1∨x.1=2 then plankS l x p else(sm0,0)
def joinS(kerf size at1:Int)(one two:Sm×Nat):Sm×Nat:=
 if one.1.ok=true then
  if size-at1-kerf<1 then({one.1 with depth:=one.1.depth+1},one.2+1)
  else if two.1.ok=true then(⟨true,one.1.worth+two.1.worth,one.1.cells+two.1.cells,1+mx one.1.depth two.1.depth,List.zipWith (· + ·) one.1.used two.1.used⟩,1+one.2+two.2)
  else(sm0,0)
 else(sm0,0)
def treeS(kerf:Int)(l:List Kd):Nat→Int×Int→List (Nat×Int)→Sm×Nat
 |_,_,[]=>(sm0,0)
 |0,p,x::_=>if x.1=3∨x.1=4 then(sm0,0)else nodeS l x p
 |f+1,p,x::ns=>if x.1=3∨x.1=4 then
   (if 1≤x.2∧x.2≤sizeI x p-1 then joinS kerf (sizeI x p) x.2 (treeS kerf l f (oneI x p) ns) (treeS kerf l f (twoI kerf x p) (ns.drop (treeS kerf l f (oneI x p) ns).2))else(sm0,0))
  else nodeS l x p
structure TB (s:Sm) (m:Nat):Prop where
 worth:0≤s.worth∧s.worth≤1000000*m
 cells:0≤s.cells∧s.cells≤256*m
 depth:0≤s.depth∧s.depth≤m
 len:s.used.length=12
 used:∀u∈s.used,0≤u∧u≤m
theorem TB.zero(b:Bool)(m:Nat):TB {sm0 with ok:=b} m:=⟨by show(0:Int)≤0∧(0:Int)≤_;omega,by show(0:Int)≤0∧(0:Int)≤_;omega,by show(0:Int)≤0∧(0:Int)≤_;omega,rfl,fun u hu=>by
 have:u=0:=by simpa[sm0,z12]using hu
 omega⟩
theorem node_bd{kerf:Int}{l:List Kd}(hc:chk kerf l=0)(x:Nat×Int){p:Int×Int}(h1:1≤p.1∧p.1≤16)(h2:1≤p.2∧p.2≤16):TB (nodeS l x p).1 (nodeS l x p).2∧(nodeS l x p).2≤1:=by
 unfold nodeS
 split
 ·exact⟨TB.zero _ _,Nat.le_refl _⟩
 ·split
  ·unfold plankS
   split
   ·split
    ·rename_i k hk
     have:=(chk_iff.1 hc).2.2.1 k (List.mem_of_getElem? hk)
     refine⟨⟨by dsimp only;have:=this.2.2.2;omega,?_,by show(0:Int)≤0∧(0:Int)≤_;omega,by simp[z12],fun u hu=> ?_⟩,Nat.le_refl _⟩
     ·have q1:=Int.mul_nonneg (show 0≤p.1 by omega) (show 0≤p.2 by omega)
      have q2:=Int.mul_le_mul h1.2 h2.2 (by omega) (by omega)
      dsimp only
      omega
     ·rcases List.mem_or_eq_of_mem_set hu with hu|rfl
      ·have:u=0:=by simpa[z12]using hu
       omega
      ·omega
    ·exact⟨TB.zero false _,Nat.zero_le _⟩
   ·exact⟨TB.zero false _,Nat.zero_le _⟩
  ·exact⟨TB.zero false _,Nat.zero_le _⟩
theorem zip_mem{a b:List Int}{u:Int}(h:u∈List.zipWith (· + ·) a b):∃x∈a,∃y∈b,u=x+y:=by
 induction a generalizing b with
 |nil=>simp at h
 |cons x a ih=>
  cases b with
  |nil=>simp at h
  |cons y b=>
   rw[List.zipWith_cons_cons,List.mem_cons]at h
   rcases h with rfl|h
   ·exact⟨x,List.mem_cons_self ..,y,List.mem_cons_self ..,rfl⟩
   ·obtain⟨x',hx,y',hy,e⟩:=ih h
    exact⟨x',List.mem_cons_of_mem _ hx,y',List.mem_cons_of_mem _ hy,e⟩
theorem tree_bd{kerf:Int}{l:List Kd}(hc:chk kerf l=0):∀(f:Nat) (p:Int×Int) (ns:List (Nat×Int)),1≤p.1∧p.1≤16→1≤p.2∧p.2≤16→TB (treeS kerf l f p ns).1 (treeS kerf l f p ns).2∧(treeS kerf l f p ns).2≤ns.length
 |f,p,[],_,_=>by cases f<;>exact⟨TB.zero false _,Nat.le_refl _⟩
 |0,p,x::ns,h1,h2=>by
  rw[treeS]
  split
  ·exact⟨TB.zero false _,Nat.zero_le _⟩
  ·have:=node_bd hc x h1 h2
   exact⟨this.1,by simp;omega⟩
 |f+1,p,x::ns,h1,h2=>by
  rw[treeS]
  split
  ·split
   ·rename_i hk hat
    have hk0:=(chk_iff.1 hc).2.1
    have g1:1≤(oneI x p).1∧(oneI x p).1≤16:=by unfold oneI;unfold sizeI at hat;split<;>(split at hat)<;>dsimp only<;>omega
    have g2:1≤(oneI x p).2∧(oneI x p).2≤16:=by unfold oneI;unfold sizeI at hat;split<;>(split at hat)<;>dsimp only<;>omega
    obtain⟨t1,n1⟩:=tree_bd hc f (oneI x p) ns g1 g2
    generalize treeS kerf l f (oneI x p) ns=one at*
    unfold joinS
    split
    ·split
     ·refine⟨⟨?_,?_,?_,t1.len,fun u hu=> ?_⟩,by simp;omega⟩
      ·have:=t1.worth;dsimp only;omega
      ·have:=t1.cells;dsimp only;omega
      ·have:=t1.depth;dsimp only;omega
      ·have:=t1.used u hu;omega
     ·rename_i hr
      have g3:1≤(twoI kerf x p).1∧(twoI kerf x p).1≤16:=by unfold twoI;unfold sizeI at hat hr;split<;>(split at hat)<;>(split at hr)<;>dsimp only<;>omega
      have g4:1≤(twoI kerf x p).2∧(twoI kerf x p).2≤16:=by unfold twoI;unfold sizeI at hat hr;split<;>(split at hat)<;>(split at hr)<;>dsimp only<;>omega
      obtain⟨t2,n2⟩:=tree_bd hc f (twoI kerf x p) (ns.drop one.2) g3 g4
      generalize treeS kerf l f (twoI kerf x p) (ns.drop one.2)=two at*
      rw[List.length_drop]at n2
      split
      ·refine⟨⟨?_,?_,?_,?_,fun u hu=> ?_⟩,by simp;omega⟩
       ·have:=t1.worth;have:=t2.worth;dsimp only;omega
       ·have:=t1.cells;have:=t2.cells;dsimp only;omega
       ·have:=t1.depth;have:=t2.depth;dsimp only;unfold mx;split<;>omega
       ·simp[t1.len,t2.len]
       ·obtain⟨a,ha,b,hb,rfl⟩:=zip_mem hu
        have:=t1.used a ha;have:=t2.used b hb;omega
      ·exact⟨TB.zero false _,Nat.zero_le _⟩
    ·exact⟨TB.zero false _,Nat.zero_le _⟩
   ·exact⟨TB.zero false _,Nat.zero_le _⟩
  ·have:=node_bd hc x h1 h2
   exact⟨this.1,by simp;omega⟩
section
variable {base:Nat} {h:Heap} {e:Env}
theorem a_storeAll{x y:Operand}{b n sz:Nat}{vs cs:List Value}(hx:ev h e x=some (.pointer (some ⟨b,0,none⟩)))(hy:ev h e y=some (.agg cs.toArray))(hb:h.get b=some (.cells vs true sz))(hn:cs.length=n)(hv:vs.length=n)(h1:ones cs=true):
 aop h base e (.store n x y)=some (.val (.tuple #[]) (h.wr base b (.cells cs true sz))):=by
 have hc:cellsOf (.agg cs.toArray)=cs:=by show cs.toArray.toList=cs;simp
 refine a_store hx hy hb ?_ ?_
 ·rw[hc,llen_eq,llen_eq,hn,hv,h1,nbeq_self,Nat.zero_add,nble_of (Nat.le_refl n)];rfl
 ·rw[hc,lputs_mid (by omega)]
  simp only[List.take_zero,List.nil_append,Nat.zero_add]
  rw[List.drop_of_length_le (by omega),List.append_nil]
end
theorem a_sliceU{base:Nat}{h:Heap}{e:Env}{size b o n c i j:Nat}{x:Operand}{lo hi:Option Operand}(hx:ev h e x=some (.slice (some ⟨b,o,none⟩) n c))(hl:bnd h e 0 lo=some i)(hh:bnd h e n hi=some j)(h1:i≤j)(h2:j≤c)(h3:i<c)(h4:c<UNK):
 aop h base e (.slice (.sl size) x lo hi none)=some (.val (.slice (some ⟨b,o+i*size,none⟩) (j-i) (c-i)) h):=by
 simp only[aop,hx,sliceOp,hl,hh,nbeq_not (show c≠UNK by omega),nble_of h1,nble_of h2,nbeq_not (show c≠i by omega),Bool.and_self,cond_true,cond_false,asPair]
end Go.A.Pk
end
section
set_option maxRecDepth 100000
namespace Go.A.Pk
variable {T:Nat→Option AFunc}
theorem WE.genT{base:Nat}{rnd:Option Nat}{c:ACode}{Q:XQ}{e:Env}{ds:Dfs}{h:Heap}(hK:∀hA,hA=h→WE T base rnd c Q e ds hA):WE T base rnd c Q e ds h:=hK h rfl
end Go.A.Pk
end
