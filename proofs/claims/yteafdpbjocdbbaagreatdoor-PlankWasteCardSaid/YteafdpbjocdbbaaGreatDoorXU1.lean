/- Walks of functions, plain laws, the table. -/
import Derived.Test.YteafdpbjocdbbaaGreatDoorXU0
import Derived.Test.YteafdpbjocdbbaaGreatDoorXD
import Derived.Test.YteafdpbjocdbbaaGreatDoorXF
set_option linter.all false
section
set_option maxRecDepth 100000
namespace Go.A.Pk
variable {T:Nat→Option AFunc}
theorem mergeLog_ge{base:Nat}:∀{m l:List Nat},LogGe base m→mergeLog base l m=l
 |[],_,_=>rfl
 |b::m,l,h=>by
  have hb:=h b (List.mem_cons_self ..)
  simp only[mergeLog,nblt_not (show¬b<base by omega),cond_false]
  exact mergeLog_ge fun x hx=>h x (List.mem_cons_of_mem _ hx)
theorem SliceOf.agree{h h':Heap}{sz n:Nat}{v:Value}{cs:List Value}(s:SliceOf h sz v n cs)(hn:h.next≤h'.next)(ha:∀b vs o t,b<h.next→h.get b=some (.cells vs o t)→h'.get b=h.get b):SliceOf h' sz v n cs:=by
 cases s with
 |nil=>exact .nil
 |mem s hc=>
  obtain⟨vs,own,t,h1,h2⟩:=s.obj
  exact .mem ⟨Nat.lt_of_lt_of_le s.lt hn,⟨vs,own,t,(ha _ _ _ _ s.lt h1).trans h1,h2⟩,s.len⟩ hc
theorem PW.yld(hp:primAS T){l2 q:Nat}{H0:Heap}{L:AObj}{O:List (Nat×Nat)→AObj}{V:Nat×Nat→Value}{all:List (Nat×Nat)}(hq:q<l2)
 (hround:∀done x H',x∈all→Rdy H'→l2<H'.next→PW l2 q H0 L O done H'→FW T (.yield l2) [V x] H' fun r H''=>r= .ret (.bool true)∧(∀z∈H''.log,q≤z∧z<q+1)∧(∀z,z<H'.next→z≠q→H''.get z=H'.get z)∧H''.get q=some (O (done++[x]))):
 Yld T q (l2+1) l2 V all (PW l2 q H0 L O)where
 yields:=fun done x H hx hr hN hP=>FW.mono' (FW.withAS hp (hround done x H hx hr hN hP) hr.log) fun r H' ⟨hA,h1,h2,h3,h4⟩=>⟨h1,fun z hz=>by have:=h2 z hz;omega,⟨fun y hy hne=>(h3 y (by omega) hne).trans (hP.old y hy hne),h4,(h3 l2 (by omega) (by omega)).trans hP.loop,Nat.lt_of_lt_of_le hP.nx hA.next⟩⟩
 stable:=fun done H H' p hn h=>PW.stable hq done H H' p hn h
theorem inner_range{base:Nat}{rnd:Option Nat}{e:Env}{ds:Dfs}{Q:XQ}{h1:Heap}{f:Operand}{g q:Nat}{first cap:Array Value}{ps:List Nat}{asg body:ACode}{all:List (Nat×Nat)}{O:List (Nat×Nat)→AObj}(hr:roundA h1 rnd=true)(hf:ev h1 e f=some (.func (.func g) first cap))(hnc:notCode (T g)=false)
 (hB:base≤h1.next)(hq:base≤q)(hlog:h1.log=[])(w1:WF h1)
 (HG:Gr T g (lcat first.toList (lcat [.func (.yield h1.next) #[] #[]] cap.toList)) {h1.push (.loop e ps asg body 0 .normal)with log:=[]} q fun v h'=>v= .tuple #[]∧PW h1.next q h1 (.loop e ps asg body 0 .normal) O all h')(hqn:q<h1.next)
 (K:∀h3,h3.log=[]→WF h3→h1.next≤h3.next→(∀z,z<h1.next→z≠q→h3.get z=h1.get z)→h3.get q=some (O all)→Q .normal e ds h3):WE T base rnd (.rangeFunc f ps asg body) Q e ds h1:=by
 refine wE_range hr hf hnc (CW.mono HG ?_)
 rintro r h2 ⟨hk,v,rfl,rfl,hP⟩
 refine⟨_,rfl,_,_,_,_,_,_,hP.loop,rfl,?_⟩
 have hl2:LogGe base h2.log:=fun z hz=>Nat.le_trans hq (hk.log (LogGe.nil _) z hz)
 refine K _ ?_ ?_ ?_ (fun z hz hne=> ?_) ?_
 ·rw[Heap.log_wr_new hB]
  show mergeLog base h1.log h2.log=[]
  rw[mergeLog_ge hl2,hlog]
 ·exact((hk.wf ((w1.push _).log _)).log _).as (AS.wr _ _ _ _)
 ·have:=hk.next
  have e1:h1.next+1≤h2.next:=this
  show h1.next≤h2.next
  omega
 ·exact(z5 (by omega)).trans (hP.old z hz hne)
 ·exact(z5 (by omega)).trans hP.obj
def leafM(ws:List Int)(xs:List (Nat×Nat))(m:Int):Int:=xs.foldl (fun m x=>mx m (ws.getD x.2 0)) m
def cutM(kerf:Int)(t:Tab)(a b:Nat)(xs:List (Nat×Nat))(m:Int):Int:=xs.foldl (fun m x=>mx m (look t (oneB x a b)+look t (twoB kerf x a b))) m
def val(kerf:Int)(ws:List Int)(kl:List Kd)(t:Tab)(a b:Nat):Int:=cutM kerf t a b (cutsL a b) (leafM ws (leavesL a b kl 0) 0)
theorem leafM_snoc(ws:List Int)(xs:List (Nat×Nat))(x:Nat×Nat)(m:Int):leafM ws (xs++[x]) m=mx (leafM ws xs m) (ws.getD x.2 0):=by simp[leafM]
theorem cutM_snoc(kerf:Int)(t:Tab)(a b:Nat)(xs:List (Nat×Nat))(x:Nat×Nat)(m:Int):cutM kerf t a b (xs++[x]) m=mx (cutM kerf t a b xs m) (look t (oneB x a b)+look t (twoB kerf x a b)):=by simp[cutM]
theorem leafAt_idx{k:Kd}{i a b:Nat}:∀x∈leafAt k i a b,x.2=i:=by
 intro x hx
 unfold leafAt at hx
 simp only[List.mem_append]at hx
 rcases hx with hx|hx<;>split at hx<;>simp at hx<;>rw[hx]
theorem leaves_idx{a b:Nat}:∀{l:List Kd} {i:Nat},∀x∈leavesL a b l i,x.2<i+l.length
 |[],i,x,hx=>by cases hx
 |k::l,i,x,hx=>by
  simp only[leavesL,List.mem_append]at hx
  rcases hx with hx|hx
  ·rw[leafAt_idx x hx];simp
  ·have:=leaves_idx x hx;simp;omega
theorem row_of{c n:Nat}{x:Nat×Nat}(h:x∈row c n):x.1=c∧1≤x.2∧x.2≤n:=by
 simp only[row,List.mem_map,List.mem_range]at h
 obtain⟨i,hi,rfl⟩:=h
 exact⟨rfl,by simp,by simp;omega⟩
theorem cuts_of{a b:Nat}{x:Nat×Nat}(h:x∈cutsL a b):(x.1=3∧1≤x.2∧x.2≤a-1)∨(x.1=4∧1≤x.2∧x.2≤b-1):=by
 simp only[cutsL,List.mem_append]at h
 exact h.imp row_of row_of
theorem WO.gen{base:Nat}{rnd:Option Nat}{Q:XQ}{ops:List AOper}{e:Env}{ds:Dfs}{h:Heap}(hK:∀hA,hA=h→WO T base rnd Q ops e ds hA):WO T base rnd Q ops e ds h:=hK h rfl
structure FnsV (T:Nat→Option AFunc):Prop where
 p:primAS T
 f94:T 94=some f94
 f104:T 104=some f104
 f105:T 105=some f105
 f106:T 106=some f106
 f136:T 136=some f136
 f140:T 140=some f140
 f141:T 141=some f141
 f83:T 83=some f83
set_option maxHeartbeats 8000000 in
theorem best_round(F:FnsV T){H:Heap}(hr:Rdy H){p3 pm mb bb l n c wc a b:Nat}{sa wa:Option Addr}{fv:Value}{kerf:Int}{ws:List Int}{kl:List Kd}{t:Tab}(ha:a<1000)(hb:b<1000)(hn:n<1000)(hk:0≤kerf∧kerf≤100)
 (hsum:∀x∈cutsL a b, -4611686018427387904≤look t (oneB x a b)+look t (twoB kerf x a b)∧look t (oneB x a b)+look t (twoB kerf x a b)≤4611686018427387904)(gl:H.get l=some (.loop [(3, .pointer (some ⟨p3,0,none⟩)),(7, .pointer (some ⟨pm,0,none⟩)),(17,fv)] [18] asgO bodyO 0 .normal))
 (g3:H.get p3=some (.cells [.pointer (some ⟨bb,0,none⟩)] true 1))(gm:H.get pm=some (.cells [.map (some mb)] true 1))(gt:H.get mb=some (.map (ents t)))(gb:H.get bb=some (.cells [.slice sa n c, .int .i64 kerf, .slice wa n wc] true 1))(hks:SliceOf H 5 (.slice sa n c) n (kcs kl))(hws:SliceOf H 1 (.slice wa n wc) n (ints ws)):
 FW T (.yield l) [boardV (a,b)] H fun r H'=>r= .ret (.bool true)∧(∀z∈H'.log,mb≤z∧z<mb+1)∧(∀z,z<H.next→z≠mb→H'.get z=H.get z)∧H'.get mb=some (.map (ents (upd t (a,b) (val kerf ws kl t a b)))):=by
 have n2:=ne_loop g3 gl
 have n3:=ne_loop gb gl
 have n4:=ne_loop gm gl
 have n6:=ne_map gt gl
 have m1:=ne_cm g3 gt
 have m2:=ne_cm gm gt
 have m3:=ne_cm gb gt
 have k2:=WF.get_lt hr.wf g3
 have k3:=WF.get_lt hr.wf gb
 have k4:=WF.get_lt hr.wf gm
 have k5:=WF.get_lt hr.wf gl
 have k7:=WF.get_lt hr.wf gt
 refine FW.yieldN F.p (R:=fun H'=>(∀z,z<H.next→z≠mb→H'.get z=H.get z)∧H'.get mb=some (.map (ents (upd t (a,b) (val kerf ws kl t a b))))) gl rfl k5 ?_
 unfold asgO
 refine wE_region ?_;refine wO_val a_new ?_;refine yS ?_;refine wO_nil ?_
 refine y1 ?_
 refine⟨rfl,by(simp(disch:=first|omega|(simp only[z1,z2];omega))only[z3,z4,z5,z6,z7,z1,z2, *];exact rfl),?_⟩
 unfold bodyO
 refine wE_block ?_;refine y4 ?_;refine wO_val a_new ?_
 refine yS ?_;refine y3 ?_;refine wE_seq ?_;refine y4 ?_
 refine yL ?_
 refine yN ?_
 refine WO.gen ?_
 intro hA hAe
 have A1:∀z,z<H.next→z≠l→hA.get z=H.get z:=fun z hz hne=>by rw[hAe];simp(disch:=first|omega|(simp only[z1,z2];omega))only[z5,z4]
 have A2:hA.get l=some (.loop [(3, .pointer (some ⟨p3,0,none⟩)),(7, .pointer (some ⟨pm,0,none⟩)),(17,fv)] [18] asgO bodyO 1 .normal):=by rw[hAe];(simp(disch:=first|omega|(simp only[z1,z2];omega))only[z3,z4,z5,z6,z7,z1,z2, *];exact rfl)
 have A3:hA.get H.next=some (.cells [.int .i64 a, .int .i64 b] true 1):=by rw[hAe];(simp(disch:=first|omega|(simp only[z1,z2];omega))only[z3,z4,z5,z6,z7,z1,z2, *];exact rfl)
 have A4:hA.get (H.next+1)=some (.cells [.int .i64 0] true 1):=by rw[hAe];(simp(disch:=first|omega|(simp only[z1,z2];omega)|(simp only[z1,z2];done)|fail)only[z8,z4,z5,z9,z7,z1,z2, *];exact rfl)
 have A5:hA.next=H.next+2:=by rw[hAe];rfl
 have A6:hA.log=[]:=by rw[hAe];simp(disch:=first|omega|(simp only[z1,z2];omega))only[Heap.log_wr_new,Heap.log_push];exact hr.log
 have A7:WF hA:=by rw[hAe];exact((((hr.wf.push _).as (AS.wr _ _ _ _)).as (AS.wr _ _ _ _)).push _).as (AS.wr _ _ _ _)
 clear hAe
 refine yC ?_
 refine FW.al (leaves104 F.p F.f104 (.of A7) bb a b) (fun _ _ _ q=>q) ?_
 rintro _ h1 hx1 ⟨rfl,hn1,gp,gx⟩
 have eA:({hA with log:=[]}:Heap).next=H.next+2:=A5
 rw[eA]at hn1 gp gx
 rw[eA]
 have B1:∀z,z<H.next→z≠l→h1.get z=H.get z:=fun z hz hne=>(hx1.old z (by omega)).trans (A1 z hz hne)
 have B2:h1.get l=some (.loop [(3, .pointer (some ⟨p3,0,none⟩)),(7, .pointer (some ⟨pm,0,none⟩)),(17,fv)] [18] asgO bodyO 1 .normal):=(hx1.old l (by omega)).trans A2
 have B3:h1.get H.next=some (.cells [.int .i64 a, .int .i64 b] true 1):=(hx1.old _ (by omega)).trans A3
 have B4:h1.get (H.next+1)=some (.cells [.int .i64 0] true 1):=(hx1.old _ (by omega)).trans A4
 have B6:h1.log=[]:=hx1.log.trans A6
 have B7:WF h1:=hx1.wf A7
 have hlen:kl.length=n:=by have:=hks.len;rw[kcs_length]at this;omega
 clear hx1 A1 A2 A3 A4 A6 A7
 refine y3 ?_;refine wE_block ?_
 refine inner_range (q:=H.next+1) (all:=leavesL a b kl 0) (O:=fun d=> .cells [.int .i64 (leafM ws d 0)] true 1) (round_ok B2) (by rfl) (by rw[F.f140];rfl) (by omega) (by omega) B6 B7 ?_ (by omega) ?_
 ·refine leaves140 F.p F.f140 (.of (B7.push _)) (pb:=H.next+2) (bb:=bb) (px:=H.next+3) (l':=h1.next) (N:=h1.next+1) (lo:=H.next+1) (a:=a) (b:=b) (n:=n) (c:=c) (sa:=sa) (l:=kl) (v1:= .int .i64 kerf) (v2:= .slice wa n wc) (Nat.le_refl _) (by show H.next+1≤h1.next+1;omega) hn
   (PW.yld F.p (by omega) fun done x H' hx hr' hlt hP=> ?_) ((z4 (by omega)).trans gp) ((z4 (by omega)).trans ((B1 bb k3 n3).trans gb)) (fun d H' hP=> ?_) (fun d H' hP=>(hP.old _ (by omega) (by omega)).trans gx) ⟨fun z hz _=>z4 hz,(z4 (by omega)).trans B4,z3 _ _,Nat.lt_succ_self _⟩
  ·refine FW.mono' (leaf_round F.p hr' (x:=x) (n:=n) (by have:=leaves_idx x hx;omega) hP.loop hP.obj ((hP.old p3 (by omega) (by omega)).trans ((B1 p3 k2 n2).trans g3)) ((hP.old bb (by omega) (by omega)).trans ((B1 bb k3 n3).trans gb)) (SliceOf.agree hws (by omega) fun b0 vs o t hb he=>(hP.old b0 (by omega) (by omega)).trans (B1 b0 hb (ne_loop he gl)))) ?_
   rintro r H'' ⟨q1,q2,q3,q4⟩
   exact⟨q1,q2,q3,by rw[leafM_snoc];exact q4⟩
  ·have:=hP.nx
   exact SliceOf.agree hks (by omega) fun b0 vs o t hb he=>(hP.old b0 (by omega) (by omega)).trans (B1 b0 hb (ne_loop he gl))
 intro h3 c1 c2 c3 c4 c5
 have D1:∀z,z<H.next→z≠l→h3.get z=H.get z:=fun z hz hne=>(c4 z (by omega) (by omega)).trans (B1 z hz hne)
 have D2:h3.get l=some (.loop [(3, .pointer (some ⟨p3,0,none⟩)),(7, .pointer (some ⟨pm,0,none⟩)),(17,fv)] [18] asgO bodyO 1 .normal):=(c4 l (by omega) (by omega)).trans B2
 have D3:h3.get H.next=some (.cells [.int .i64 a, .int .i64 b] true 1):=(c4 _ (by omega) (by omega)).trans B3
 have D5:h3.get p3=some (.cells [.pointer (some ⟨bb,0,none⟩)] true 1):=(D1 p3 k2 n2).trans g3
 clear B1 B2 B3 B4 B6 B7 c4 gp gx
 refine kB_n ?_;refine kS_n ?_;refine wE_seq ?_;refine y4 ?_;refine yL ?_;refine yN ?_
 refine yC ?_
 refine FW.al (cuts105 F.p F.f105 (.of c2) _ a b) (fun _ _ _ q=>q) ?_
 rintro _ h4 hx4 ⟨rfl,hn4,gx4⟩
 have e3:({h3 with log:=[]}:Heap).next=h3.next:=rfl
 rw[e3]at hn4 gx4
 rw[e3]
 have E1:∀z,z<H.next→z≠l→h4.get z=H.get z:=fun z hz hne=>(hx4.old z (by omega)).trans (D1 z hz hne)
 have E2:h4.get l=some (.loop [(3, .pointer (some ⟨p3,0,none⟩)),(7, .pointer (some ⟨pm,0,none⟩)),(17,fv)] [18] asgO bodyO 1 .normal):=(hx4.old l (by omega)).trans D2
 have E3:h4.get H.next=some (.cells [.int .i64 a, .int .i64 b] true 1):=(hx4.old _ (by omega)).trans D3
 have E4:h4.get (H.next+1)=some (.cells [.int .i64 (leafM ws (leavesL a b kl 0) 0)] true 1):=(hx4.old _ (by omega)).trans c5
 have E6:h4.log=[]:=hx4.log.trans c1
 have E7:WF h4:=hx4.wf c2
 clear hx4 D1 D2 D3 D5 c1 c2 c5
 refine y3 ?_;refine wE_block ?_
 refine inner_range (q:=H.next+1) (all:=cutsL a b) (O:=fun d=> .cells [.int .i64 (cutM kerf t a b d (leafM ws (leavesL a b kl 0) 0))] true 1) (round_ok E2) (by rfl) (by rw[F.f141];rfl) (by omega) (by omega) E6 E7 ?_ (by omega) ?_
 ·refine cuts141 F.p F.f141 (.of (E7.push _)) (bx:=h3.next) (l:=h4.next) (N:=h4.next+1) (lo:=H.next+1) (a:=a) (b:=b) (Nat.le_refl _) (by show H.next+1≤h4.next+1;omega) ha hb
   (PW.yld F.p (by omega) fun done x H' hx hr' hlt hP=> ?_) (fun d H' hP=>(hP.old _ (by omega) (by omega)).trans gx4) ⟨fun z hz _=>z4 hz,(z4 (by omega)).trans E4,z3 _ _,Nat.lt_succ_self _⟩
  have hxc:=cuts_of hx
  refine FW.mono' (cut_round F.p F.f106 hr' (x:=x) (t:=t) (by omega) (by omega) ha hb hk (hsum x hx) hP.loop hP.obj ((hP.old p3 (by omega) (by omega)).trans ((E1 p3 k2 n2).trans g3)) ((hP.old pm (by omega) (by omega)).trans ((E1 pm k4 n4).trans gm)) ((hP.old H.next (by omega) (by omega)).trans E3) ((hP.old bb (by omega) (by omega)).trans ((E1 bb k3 n3).trans gb)) ((hP.old mb (by omega) (by omega)).trans ((E1 mb k7 n6).trans gt)) (show pm≠H.next+1 by omega)) ?_
  rintro r H'' ⟨q1,q2,q3,q4⟩
  exact⟨q1,q2,q3,by rw[cutM_snoc];exact q4⟩
 intro h5 c1 c2 c3 c4 c5
 have G1:∀z,z<H.next→z≠l→h5.get z=H.get z:=fun z hz hne=>(c4 z (by omega) (by omega)).trans (E1 z hz hne)
 have G2:h5.get l=some (.loop [(3, .pointer (some ⟨p3,0,none⟩)),(7, .pointer (some ⟨pm,0,none⟩)),(17,fv)] [18] asgO bodyO 1 .normal):=(c4 l (by omega) (by omega)).trans E2
 have G3:h5.get H.next=some (.cells [.int .i64 a, .int .i64 b] true 1):=(c4 _ (by omega) (by omega)).trans E3
 have G7:h5.get pm=some (.cells [.map (some mb)] true 1):=(G1 pm k4 n4).trans gm
 have G8:h5.get mb=some (.map (ents t)):=(G1 mb k7 n6).trans gt
 clear E1 E2 E3 E4 E6 E7 c4 gx4
 refine kB_n ?_;refine kS_n ?_;refine wE_region ?_;refine yL ?_;refine yN ?_;refine yL ?_
 refine wO_val (a_mapUp (x:=(a,b)) (by exact rfl) (by exact rfl) (by exact rfl) G8) ?_
 refine wO_nil ?_;refine y1 ?_;refine kB_n ?_
 refine⟨rfl,⟨_,by(simp(disch:=first|omega|(simp only[z1,z2];omega))only[z3,z4,z5,z6,z7,z1,z2, *];exact rfl),rfl⟩,?_,?_⟩
 ·intro z hz
  rw[log_wr_q c1 k7]at hz
  simp at hz;omega
 ·intro h6 hn6 hag hl6
  refine⟨fun z hz hne=> ?_,(hag mb k7 n6).trans (Heap.get_wr_new G8)⟩
  by_cases hz2:z=l
  ·rw[hz2];exact hl6.trans gl.symm
  ·exact(hag z hz hz2).trans ((z5 hne).trans (G1 z hz hz2))
end Go.A.Pk
end
section
set_option maxRecDepth 100000
namespace Go.A.Pk
variable {T:Nat→Option AFunc}
theorem a_mkMap{base:Nat}{h:Heap}{e:Env}:aop h base e .mkMap=some (.val (.map (some h.next)) (h.push (.map []))):=rfl
def Bd(W:Int)(t:Tab):Prop:=∀e∈t,1≤e.1.1∧1≤e.1.2∧0≤e.2∧e.2≤W*((e.1.1:Int)*(e.1.2:Int))
theorem look_bd{W:Int}:∀{t:Tab} (x:Int×Int),Bd W t→look t x=0∨(1≤x.1∧1≤x.2∧0≤look t x∧look t x≤W*(x.1*x.2))
 |[],_,_=> .inl rfl
 |e::t,x,h=>by
  simp only[look]
  by_cases hk:isKey x e=true
  ·rw[if_pos hk]
   have h1:=h e (List.mem_cons_self ..)
   simp only[isKey,decide_eq_true_eq]at hk
   rw[hk.1,hk.2]
   exact .inr ⟨by omega,by omega,h1.2.2.1,h1.2.2.2⟩
  ·rw[if_neg hk]
   exact look_bd x fun e he=>h e (List.mem_cons_of_mem _ he)
theorem upd_bd{W:Int}{x:Nat×Nat}{v:Int}(hx:1≤x.1∧1≤x.2)(hv:0≤v∧v≤W*((x.1:Int)*(x.2:Int))):∀{t:Tab},Bd W t→Bd W (upd t x v)
 |[],_,e,he=>by
  simp only[upd,List.mem_singleton]at he
  subst he
  exact⟨hx.1,hx.2,hv.1,hv.2⟩
 |e0::t,h,e,he=>by
  simp only[upd]at he
  split at he
  ·rcases List.mem_cons.1 he with rfl|he
   ·exact⟨hx.1,hx.2,hv.1,hv.2⟩
   ·exact h e (List.mem_cons_of_mem _ he)
  ·rcases List.mem_cons.1 he with rfl|he
   ·exact h e (List.mem_cons_self ..)
   ·exact upd_bd hx hv (fun e he=>h e (List.mem_cons_of_mem _ he)) e he
theorem mx_le{a b c:Int}(h1:a≤c)(h2:b≤c):mx a b≤c:=by unfold mx;split<;>assumption
theorem mx_ge{a b:Int}:a≤mx a b∧b≤mx a b:=by unfold mx;split<;>omega
theorem area_mono{W a b c d:Int}(hW:0≤W)(ha:0≤a)(hab:a≤c)(hb:0≤b)(hbd:b≤d):W*(a*b)≤W*(c*d):=
 Int.mul_le_mul_of_nonneg_left (Int.le_trans (Int.mul_le_mul_of_nonneg_right hab hb) (Int.mul_le_mul_of_nonneg_left hbd (by omega))) hW
theorem cut_bd{W kerf:Int}{t:Tab}(hW:0≤W)(hk:0≤kerf)(ht:Bd W t){a b:Nat}{x:Nat×Nat}(hx:x∈cutsL a b):0≤look t (oneB x a b)+look t (twoB kerf x a b)∧look t (oneB x a b)+look t (twoB kerf x a b)≤W*((a:Int)*(b:Int)):=by
 have h1:=look_bd (oneB x a b) ht
 have h2:=look_bd (twoB kerf x a b) ht
 have h0:0≤W*((a:Int)*(b:Int)):=Int.mul_nonneg hW (Int.mul_nonneg (by omega) (by omega))
 rcases cuts_of hx with⟨e3,hl,hu⟩|⟨e4,hl,hu⟩
 ·simp only[oneB,twoB,e3,if_true]at h1 h2⊢
  rcases h1 with h1|h1
  ·rcases h2 with h2|h2
   ·rw[h1,h2];omega
   ·have:=area_mono (W:=W) (a:=(a:Int)-x.2-kerf) (b:=b) (c:=a) (d:=b) hW (by omega) (by omega) (by omega) (Int.le_refl _)
    rw[h1];omega
  ·rcases h2 with h2|h2
   ·have:=area_mono (W:=W) (a:=(x.2:Int)) (b:=b) (c:=a) (d:=b) hW (by omega) (by omega) (by omega) (Int.le_refl _)
    rw[h2];omega
   ·have e:W*((x.2:Int)*b)+W*(((a:Int)-x.2-kerf)*b)=W*(((x.2:Int)+((a:Int)-x.2-kerf))*b):=by rw[Int.add_mul,Int.mul_add]
    have:=area_mono (W:=W) (a:=(x.2:Int)+((a:Int)-x.2-kerf)) (b:=b) (c:=a) (d:=b) hW (by omega) (by omega) (by omega) (Int.le_refl _)
    omega
 ·have n3:¬x.1=3:=by omega
  simp only[oneB,twoB,if_neg n3]at h1 h2⊢
  rcases h1 with h1|h1
  ·rcases h2 with h2|h2
   ·rw[h1,h2];omega
   ·have:=area_mono (W:=W) (a:=a) (b:=(b:Int)-x.2-kerf) (c:=a) (d:=b) hW (by omega) (Int.le_refl _) (by omega) (by omega)
    rw[h1];omega
  ·rcases h2 with h2|h2
   ·have:=area_mono (W:=W) (a:=a) (b:=(x.2:Int)) (c:=a) (d:=b) hW (by omega) (Int.le_refl _) (by omega) (by omega)
    rw[h2];omega
   ·have e:W*((a:Int)*x.2)+W*((a:Int)*((b:Int)-x.2-kerf))=W*((a:Int)*((x.2:Int)+((b:Int)-x.2-kerf))):=by rw[Int.mul_add (a:Int),Int.mul_add W]
    have:=area_mono (W:=W) (a:=a) (b:=(x.2:Int)+((b:Int)-x.2-kerf)) (c:=a) (d:=b) hW (by omega) (Int.le_refl _) (by omega) (by omega)
    omega
theorem leafM_bd{W B:Int}{ws:List Int}(hws:∀x∈ws,0≤x∧x≤W)(hWB:W≤B)(hW:0≤W):∀{xs:List (Nat×Nat)} {m:Int},0≤m→m≤B→0≤leafM ws xs m∧leafM ws xs m≤B
 |[],m,h1,h2=>⟨h1,h2⟩
 |x::xs,m,h1,h2=>by
  have hx:0≤ws.getD x.2 0∧ws.getD x.2 0≤W:=by
   by_cases hi:x.2<ws.length
   ·have:=hws _ (List.getElem_mem hi)
    simpa[List.getD,List.getElem?_eq_getElem hi]using this
   ·have:ws.getD x.2 0=0:=by simp[List.getD,List.getElem?_eq_none (by omega:ws.length≤x.2)]
    rw[this];omega
  exact leafM_bd hws hWB hW (xs:=xs) (m:=mx m (ws.getD x.2 0)) (Int.le_trans h1 mx_ge.1) (mx_le h2 (by omega))
theorem cutM_bd{B kerf:Int}{t:Tab}{a b:Nat}:∀{xs:List (Nat×Nat)} {m:Int},(∀x∈xs,look t (oneB x a b)+look t (twoB kerf x a b)≤B)→0≤m→m≤B→0≤cutM kerf t a b xs m∧cutM kerf t a b xs m≤B
 |[],m,_,h1,h2=>⟨h1,h2⟩
 |x::xs,m,hx,h1,h2=>cutM_bd (xs:=xs) (m:=mx m _) (fun y hy=>hx y (List.mem_cons_of_mem _ hy)) (Int.le_trans h1 mx_ge.1) (mx_le h2 (hx x (List.mem_cons_self ..)))
theorem val_bd{W kerf:Int}{ws:List Int}{kl:List Kd}{t:Tab}(hW:0≤W)(hk:0≤kerf)(hws:∀x∈ws,0≤x∧x≤W)(ht:Bd W t){a b:Nat}(ha:1≤a)(hb:1≤b):0≤val kerf ws kl t a b∧val kerf ws kl t a b≤W*((a:Int)*(b:Int)):=by
 have hWB:W≤W*((a:Int)*(b:Int)):=by
  have:=area_mono (W:=W) (a:=1) (b:=1) (c:=a) (d:=b) hW (by omega) (by omega) (by omega) (by omega)
  omega
 obtain⟨h1,h2⟩:=leafM_bd (xs:=leavesL a b kl 0) (m:=0) hws hWB hW (Int.le_refl _) (by omega)
 exact cutM_bd (fun x hx=>(cut_bd hW hk ht hx).2) h1 h2
def tabL(kerf:Int)(ws:List Int)(kl:List Kd)(done:List (Nat×Nat)):Tab:=done.foldl (fun t x=>upd t x (val kerf ws kl t x.1 x.2)) []
theorem tabL_snoc(kerf:Int)(ws:List Int)(kl:List Kd)(done:List (Nat×Nat))(x:Nat×Nat):tabL kerf ws kl (done++[x])=upd (tabL kerf ws kl done) x (val kerf ws kl (tabL kerf ws kl done) x.1 x.2):=by simp[tabL]
theorem boards_of:∀{w h:Nat} {x:Nat×Nat},x∈boardsL w h→1≤x.1∧x.1≤w∧1≤x.2∧x.2≤h
 |0,_,_,hx=>by cases hx
 |w+1,h,x,hx=>by
  simp only[boardsL,List.mem_append]at hx
  rcases hx with hx|hx
  ·have:=boards_of hx;omega
  ·have:=row_of hx;omega
set_option maxHeartbeats 8000000 in
theorem best83(F:FnsV T){h:Heap}(hr:Rdy h){bb n c wc w ht:Nat}{sa wa:Option Addr}{kerf W:Int}{ws:List Int}{kl:List Kd}(hw:w<1000)(hh:ht<1000)(hn:n<1000)(hk:0≤kerf∧kerf≤100)(hW:0≤W∧W≤1000000000)(hws0:∀x∈ws,0≤x∧x≤W)
 (gb:h.get bb=some (.cells [.slice sa n c, .int .i64 kerf, .slice wa n wc] true 1))(hks:SliceOf h 5 (.slice sa n c) n (kcs kl))(hws:SliceOf h 1 (.slice wa n wc) n (ints ws)):
 Al T 83 [.pointer (some ⟨bb,0,none⟩), .int .i64 w, .int .i64 ht] h fun v h'=>∃r,v= .map (some r)∧h'.get r=some (.map (ents (tabL kerf ws kl (boardsL w ht)))):=by
 refine .of F.p F.f83 hr (fun v h1 hv q=>by obtain⟨r,rfl,_⟩:=q;cases hv) ?_
 have kb:=WF.get_lt hr.wf gb
 refine y4 ?_;refine yB ?_;refine yM ?_;refine y3 ?_;refine y4 ?_
 refine wO_val a_mkMap ?_
 refine wO_val a_new ?_;refine yS ?_
 refine y3 ?_;refine wE_seq ?_;refine y4 ?_;refine yM ?_;refine yM ?_
 refine WO.gen ?_
 intro hA hAe
 have A1:∀z,z<h.next→hA.get z=h.get z:=fun z hz=>by rw[hAe];simp(disch:=first|omega|(simp only[z1,z2];omega))only[z5,z4]
 have A2:hA.get h.next=some (.cells [.pointer (some ⟨bb,0,none⟩)] true 1):=by rw[hAe];(simp(disch:=first|omega|(simp only[z1,z2];omega))only[z3,z4,z5,z6,z7,z1,z2, *];exact rfl)
 have A3:hA.get (h.next+1)=some (.map []):=by rw[hAe];(simp(disch:=first|omega|(simp only[z1,z2];omega)|(simp only[z1,z2];done)|fail)only[z8,z4,z5,z9,z7,z1,z2, *];done)
 have A4:hA.get (h.next+2)=some (.cells [.map (some (h.next+1))] true 1):=by rw[hAe];(simp(disch:=first|omega|(simp only[z1,z2];omega)|(simp only[z1,z2];done)|fail)only[z8,z4,z5,z9,z7,z1,z2, *];exact rfl)
 have A5:hA.next=h.next+3:=by rw[hAe];rfl
 have A6:hA.log=[]:=by rw[hAe];simp(disch:=first|omega|(simp only[z1,z2];omega))only[Heap.log_wr_new,Heap.log_push];exact hr.log
 have A7:WF hA:=by rw[hAe];exact(((hr.wf.push _).push _).push _).as (AS.wr _ _ _ _)
 clear hAe
 refine yC ?_
 refine FW.al (boards94 F.p F.f94 (.of A7) w ht) (fun _ _ _ q=>q) ?_
 rintro _ h1 hx1 ⟨rfl,hn1,gp,gx⟩
 have eA:({hA with log:=[]}:Heap).next=h.next+3:=A5
 rw[eA]at hn1 gp gx
 rw[eA]
 have B1:∀z,z<h.next→h1.get z=h.get z:=fun z hz=>(hx1.old z (by omega)).trans (A1 z hz)
 have B2:h1.get h.next=some (.cells [.pointer (some ⟨bb,0,none⟩)] true 1):=(hx1.old _ (by omega)).trans A2
 have B3:h1.get (h.next+1)=some (.map []):=(hx1.old _ (by omega)).trans A3
 have B4:h1.get (h.next+2)=some (.cells [.map (some (h.next+1))] true 1):=(hx1.old _ (by omega)).trans A4
 have B6:h1.log=[]:=hx1.log.trans A6
 have B7:WF h1:=hx1.wf A7
 clear hx1 A1 A2 A3 A4 A6 A7
 refine y3 ?_;refine wE_block ?_
 refine inner_range (q:=h.next+1) (all:=boardsL w ht) (O:=fun d=> .map (ents (tabL kerf ws kl d))) rfl (by rfl) (by rw[F.f136];rfl) (by omega) (by omega) B6 B7 ?_ (by omega) ?_
 ·have Y:Yld T (h.next+1) (h1.next+1) h1.next boardV (boardsL w ht) fun d H=>PW h1.next (h.next+1) h1 (.loop [(3, .pointer (some ⟨h.next,0,none⟩)),(7, .pointer (some ⟨h.next+2,0,none⟩)),(17,fn2 136 (h.next+3) (h.next+4))] [18] asgO bodyO 0 .normal) (fun d=> .map (ents (tabL kerf ws kl d))) d H∧Bd W (tabL kerf ws kl d):=by
   refine⟨fun done x H hx hrH hN hP=> ?_,fun d H H' hP hN hag=>⟨PW.stable (by omega) d H H' hP.1 hN hag,hP.2⟩⟩
   obtain⟨hP,hB⟩:=hP
   have hxb:=boards_of hx
   have hV:=val_bd (kl:=kl) hW.1 hk.1 hws0 hB hxb.1 hxb.2.2.1
   obtain⟨x1,x2⟩:=x
   simp only at hxb hV
   refine FW.mono' (FW.withAS F.p (best_round F hrH (a:=x1) (b:=x2) (t:=tabL kerf ws kl done) (by omega) (by omega) hn hk (fun y hy=> ?_) hP.loop ((hP.old _ (by omega) (by omega)).trans B2) ((hP.old _ (by omega) (by omega)).trans B4) hP.obj ((hP.old bb (by omega) (by omega)).trans ((B1 bb kb).trans gb)) (SliceOf.agree hks (by omega) fun b0 vs o t hb he=>(hP.old b0 (by omega) (by omega)).trans (B1 b0 hb)) (SliceOf.agree hws (by omega) fun b0 vs o t hb he=>(hP.old b0 (by omega) (by omega)).trans (B1 b0 hb))) hrH.log) ?_
   ·have h1:=cut_bd hW.1 hk.1 hB hy
    have h2:W*((x1:Int)*(x2:Int))≤1000000000*(1000*1000):=Int.le_trans (area_mono (W:=W) (a:=x1) (b:=x2) (c:=1000) (d:=1000) hW.1 (by omega) (by omega) (by omega) (by omega)) (Int.mul_le_mul_of_nonneg_right hW.2 (by omega))
    omega
   ·rintro r H' ⟨hA',q1,q2,q3,q4⟩
    refine⟨q1,fun z hz=>by have:=q2 z hz;omega,⟨fun y hy hne=>(q3 y (by omega) hne).trans (hP.old y hy hne),by rw[tabL_snoc];exact q4,(q3 _ (by omega) (by omega)).trans hP.loop,Nat.lt_of_lt_of_le hP.nx hA'.next⟩,?_⟩
    rw[tabL_snoc]
    exact upd_bd ⟨hxb.1,hxb.2.2.1⟩ hV hB
  refine CW.mono (boards136 F.p F.f136 (.of (B7.push _)) (bw:=h.next+3) (bh:=h.next+4) (l:=h1.next) (N:=h1.next+1) (lo:=h.next+1) (w:=w) (ht:=ht) (Nat.le_refl _) (by show h.next+1≤h1.next+1;omega) hw hh Y (fun d H hP=>(hP.1.old _ (by omega) (by omega)).trans gp) (fun d H hP=>(hP.1.old _ (by omega) (by omega)).trans gx)
   ⟨⟨fun z hz _=>z4 hz,(z4 (by omega)).trans B3,z3 _ _,Nat.lt_succ_self _⟩,fun e he=>by cases he⟩) ?_
  rintro r h2 ⟨q1,v,q2,q3,q4,_⟩
  exact⟨q1,v,q2,q3,q4⟩
 intro h3 c1 c2 c3 c4 c5
 have D4:h3.get (h.next+2)=some (.cells [.map (some (h.next+1))] true 1):=(c4 _ (by omega) (by omega)).trans B4
 refine kB_n ?_;refine kS_n ?_;refine y4 ?_;refine yL ?_;refine yM ?_;refine y3 ?_;refine wE_ret ?_
 exact endA_ret (vs:=[.map (some (h.next+1))]) c1 (by rfl) ⟨_,rfl,c5⟩
end Go.A.Pk
end
section
set_option maxRecDepth 100000
namespace Go.A.Pk
variable {T:Nat→Option AFunc}
inductive WslB (lo:Nat) (h:Heap):Value→List Int→Prop
 |nil:WslB lo h (.slice none 0 0) []
 |full {q xs}:lo≤q→q<h.next→h.get q=some (.cells (ints xs) true 1)→xs≠[]→WslB lo h (.slice (some ⟨q,0,none⟩) xs.length UNK) xs
theorem worth_succ{l:List Kd}{i:Nat}{x:Kd}(h:l[i]? =some x):(l.take (i+1)).map (·.worth)=(l.take i).map (·.worth)++[x.worth]:=by
 rw[List.take_add_one,h];simp
def StartO(lo:Nat)(a:Option Addr)(n c:Nat)(kerf:Int)(l:List Kd)(er:Int)(v:Value)(h':Heap):Prop:=∃p,v= .tuple #[.pointer p, .int .i64 er]∧
 (er=0→∃w,p=some ⟨lo+1,0,none⟩∧h'.get (lo+1)=some (.cells [.slice a n c, .int .i64 kerf,w] true 1)∧WslB (lo+2) h' w (l.map (·.worth)))
theorem StartO.gc{lo:Nat}{a:Option Addr}{n c:Nat}{kerf:Int}{l:List Kd}{er:Int}(h:Heap)(v:Value)(h1:Heap)(hv:noRef v=true)(q:StartO lo a n c kerf l er v h1):StartO lo a n c kerf l er v h:=by
 obtain⟨p,rfl,h2⟩:=q
 refine⟨p,rfl,fun he=> ?_⟩
 obtain⟨w,rfl,_⟩:=h2 he
 simp[noRef,flatL,flat,scalL,scal,scal1]at hv
theorem WslB.keep{lo:Nat}{h h':Heap}{v:Value}{xs:List Int}(w:WslB lo h v xs)(hn:h.next≤h'.next)(hg:∀z,lo≤z→z<h.next→h'.get z=h.get z):WslB lo h' v xs:=by
 cases w with
 |nil=>exact .nil
 |full a b c d=>exact .full a (by omega) ((hg _ a b).trans c) d
theorem StartO.logs{lo:Nat}{a:Option Addr}{n c:Nat}{kerf:Int}{l:List Kd}{er:Int}(v:Value)(h':Heap)(m:List Nat)(q:StartO lo a n c kerf l er v h'):StartO lo a n c kerf l er v {h' with log:=m}:=by
 obtain⟨p,h1,h2⟩:=q
 refine⟨p,h1,fun he=> ?_⟩
 obtain⟨w,h3,h4,h5⟩:=h2 he
 exact⟨w,h3,h4,h5.keep (Nat.le_refl _) fun _ _ _=>rfl⟩
theorem WslB.slice{lo:Nat}{h:Heap}{v:Value}{xs:List Int}(w:WslB lo h v xs)(hx:xs.length<1000000):∃a c,v= .slice a xs.length c∧SliceOf h 1 (.slice a xs.length c) xs.length (ints xs):=by
 cases w with
 |nil=>exact⟨none,0,rfl, .nil⟩
 | @full q _ h1 h2 h3 h5=>
   refine⟨some ⟨q,0,none⟩,UNK,rfl, .mem ⟨h2,⟨_,_,_,h3,?_⟩,by simp[ints]⟩ (by unfold UNK;omega)⟩
   rw[ltake_eq,ldrop_eq,List.drop_zero,List.take_of_length_le (by simp[ints])]
set_option maxHeartbeats 4000000 in
theorem startedO75(G:FnsE T){h:Heap}(hr:Rdy h){a:Option Addr}{n c:Nat}{l:List Kd}(hs:SliceOf h 5 (.slice a n c) n (kcs l))(kerf:Int)(hn:n<1000000){v:Value}{m:Nat}{bl:List Bool}(hb:SliceOf h 1 v m (bcs bl))(hm:m<1000000):
 Al T 75 [.agg #[.slice a n c, .int .i64 kerf],v] h (StartO h.next a n c kerf l (startE kerf l bl)):=by
 refine .of G.toFnsA.p G.f75 hr (StartO.gc h) ?_
 have hx:Ext h (h.push (.cells [.slice a n c, .int .i64 kerf] true 1)):=(Ext.refl h).push _
 have hlen:l.length=n:=by have:=hs.len;rw[kcs_length]at this;omega
 refine y4 ?_;refine yB ?_;refine yM ?_;refine yM ?_;refine y3 ?_;refine wE_seq ?_;refine y4 ?_
 refine yN ?_
 refine yC ?_
 refine FW.pu (check66 G.toFnsA (.of (hx.wf hr.wf)) ((hs.ext hx).log []) kerf hn) ?_
 unfold startE
 by_cases hc:chk kerf l=0
 ·rw[if_pos hc,hc]
  refine yM ?_;refine y3 ?_;refine y4 ?_;refine yM ?_;refine yf ?_;refine y3 ?_;refine yX ?_;refine wE_skip ?_;refine kS_n ?_;refine wE_seq ?_;refine y4 ?_;refine yM ?_
  refine yC ?_
  refine FW.pu (contains122 G.toFnsC (.of (hx.wf hr.wf)) ((hb.ext hx).log []) hm) ?_
  cases hbl:bl.all id with
  |false=>
   refine y3 ?_;refine yY ?_;refine y4 ?_;refine yM ?_;refine yM ?_;refine y3 ?_;refine wE_ret ?_;refine kS_r ?_
   exact endA_ret (vs:=[.pointer none, .int .i64 1]) hr.log rfl ⟨_,rfl,fun e=>by cases e⟩
  |true=>
   refine y3 ?_;refine yX ?_;refine wE_skip ?_;refine kS_n ?_;refine y4 ?_
   refine yN ?_;refine wO_val (a_build (by exact rfl)) ?_;refine yB ?_
   refine yM ?_;refine y3 ?_;refine wE_seq ?_;refine y4 ?_;refine yF ?_
   refine yL ?_;refine yD ?_;refine yM ?_;refine y3 ?_;refine wE_block ?_
   refine wE_loop (fun k e ds h'=>∃(i:Nat) (w:Value) (xs:List Int),i≤n∧k=n-i∧e=[(7, .pointer (some ⟨h.next+1,0,none⟩)),(21, .slice a n c),(22, .int .i64 n),(23, .int .i64 i)]∧ds=[]∧Ext (h.push (.cells [.slice a n c, .int .i64 kerf] true 1)) h'∧
    h.next+1<h'.next∧h'.get (h.next+1)=some (.cells [.slice a n c, .int .i64 kerf,w] true 1)∧WslB (h.next+2) h' w xs∧Nonempty (PLift (xs=(l.take i).map (·.worth))))
    ⟨0, .slice none 0 0,[],Nat.zero_le _,rfl,rfl,rfl,(Ext.refl _).push _,Nat.lt_succ_self _,by(simp(disch:=first|omega|(simp only[z1,z2];omega)|(simp only[z1,z2];done)|fail)only[z8,z4,z5,z9,z7,z1,z2, *];exact rfl), .nil,⟨⟨rfl⟩⟩⟩ ?_
   rintro k e ds hi ⟨i,w,xs,hin,rfl,rfl,rfl,hx1,hnx,hW,hw,⟨⟨hxs⟩⟩⟩
   by_cases hlt:i<n
   ·obtain⟨x,hxl⟩:∃x,l[i]? =some x:=⟨l[i],List.getElem?_eq_getElem (by omega)⟩
    have hs':=hs.ext (((Ext.refl h).push _).trans hx1)
    rcases hs'.inv with⟨_,_,h0,_⟩|⟨b,o,cap',hv,s,hcap⟩
    ·omega
    ·cases hv
     obtain⟨vs,own,t,g1,g2⟩:=slice_elem s hxl
     have hx3:=(hx1.push (.cells [.int .i64 0, .int .i64 0, .int .i64 0, .int .i64 0, .bool false] true 1)).wr (base:=h.next) (x:=hi.next) (o:= .cells (kc x) true 1) hx1.next (by omega)
     have hx4:=hx3.push (.cells [.int .i64 x.worth] true 1)
     have hsu:=worth_succ hxl
     have hxl2:xs.length=i:=by rw[hxs];simp;omega
     have hsu2:(l.take (i+1)).map (·.worth)=xs++[x.worth]:=by rw[hsu,←hxs]
     have hid:PLift (xs.length=i∧(l.take (i+1)).map (·.worth)=xs++[x.worth]):=⟨hxl2,hsu2⟩
     clear hsu hxs hxl2 hsu2
     cases hw with
     |nil=>
      refine y4 ?_;refine yt ?_;refine y3 ?_;refine wE_seq ?_;refine yY ?_;refine wE_skip ?_;refine kS_n ?_;refine wE_seq ?_;refine wE_block ?_;refine y4 ?_;refine wO_val (a_iaddrS (by exact rfl) (by exact rfl) (by omega)) ?_
      refine wO_val (a_loadN (by exact rfl) g1 g2 (by exact rfl)) ?_
      refine wO_val a_new ?_;refine yS ?_;refine y3 ?_;refine wE_draw ?_;refine qM ?_;refine qM ?_
      refine wD_quiet rfl rfl rfl (by exact rfl) (by exact rfl) (by exact rfl) (a_nilchk (by exact rfl)) ?_;refine qF ?_
      refine qL ?_
      refine qF ?_
      refine qL ?_
      refine wD_new rfl rfl rfl (by exact rfl) (by exact rfl) (by exact rfl) (a_bslice (by exact rfl) (by exact rfl)) (by refine rs_cons (rq_quiet rfl (a_load (by exact rfl) (by(simp(disch:=first|omega|(simp only[z1,z2];omega))only[z3,z4,z5,z6,z7,z1,z2, *];exact rfl)) (by exact rfl)) (by exact sv_int _ _)) ?_;refine rs_cons (rq_quiet rfl (a_faddr (by exact rfl)) (by exact sv_ptr _)) ?_;refine rs_cons (rq_quiet rfl (a_load (by exact rfl) (by(simp(disch:=first|omega|(simp only[z1,z2];omega))only[z3,z4,z5,z6,z7,z1,z2, *];exact rfl)) (by exact rfl)) (by exact sv_slice _ _ _)) ?_;refine rs_cons (rq_quiet rfl (a_faddr (by exact rfl)) (by exact sv_ptr _)) ?_;refine rs_cons (rq_quiet rfl (a_nilchk (by exact rfl)) (by exact sv_ptr _)) ?_;refine rs_cons (rq_quiet rfl (a_mov (by exact rfl)) (by exact sv_ptr _)) ?_;refine rs_cons (rq_quiet rfl (a_mov (by exact rfl)) (by exact sv_ptr _)) ?_;exact rs_nil) ?_
      refine wD_app_nil (n:=1) rfl rfl rfl (by exact rfl) (by exact rfl) (by exact rfl) (src_log (src_slice (cs:=[.int .i64 x.worth]) (by(simp(disch:=first|omega|(simp only[z1,z2];omega)|(simp only[z1,z2];done)|fail)only[z8,z4,z5,z9,z7,z1,z2, *];exact rfl)) rfl rfl)) (by omega) (by omega) (by apply ra_dropC rfl;apply ra_dropC rfl;apply ra_dropC rfl;apply ra_dropC rfl;apply ra_dropC rfl;apply ra_dropC rfl;apply ra_dropC rfl;apply ra_keepC rfl (rq_quiet rfl (a_mov (by exact rfl)) (by exact sv_ptr _)) rfl;exact ra_nil) ?_
      refine wD_quiet rfl rfl rfl (by exact rfl) (by exact rfl) (by exact rfl) (a_nilchk (by exact rfl)) ?_;refine qF ?_
      refine wD_store rfl rfl rfl (by exact rfl) (by exact rfl) (by exact rfl) (by(simp(disch:=first|omega|(simp only[z1,z2];omega))only[z3,z4,z5,z6,z7,z1,z2, *];exact rfl)) (by exact rfl) (by exact rfl) (by(simp only[z1,z2];omega)) (by omega) (by apply ra_dropC rfl;apply ra_dropC rfl;apply ra_dropC rfl;exact ra_nil) ?_
      refine wD_nil ?_;refine y1 ?_;refine kB_n ?_;refine kS_n ?_;refine wE_region ?_;refine yinc ?_;refine yM ?_;refine y3 ?_
      obtain⟨hxl2,hsu2⟩:=hid
      obtain rfl:i=0:=hxl2.symm
      refine⟨n-1,by omega,1, .slice (some ⟨hi.next+2,0,none⟩) 1 UNK,[x.worth],by omega,rfl,rfl,rfl,?_,?_,?_,?_,?_⟩
      ·exact(hx4.push (.cells [.int .i64 x.worth] true 1)).wr (Nat.le_refl _) (Nat.le_succ _)
      ·(simp only[z1,z2];omega)
      ·(simp(disch:=first|omega|(simp only[z1,z2];omega))only[z3,z4,z5,z6,z7,z1,z2, *];exact rfl)
      ·exact .full (xs:=[x.worth]) (by omega) (by(simp only[z1,z2];omega)) (by(simp(disch:=first|omega|(simp only[z1,z2];omega)|(simp only[z1,z2];done)|fail)only[z8,z4,z5,z9,z7,z1,z2, *];exact rfl)) (by simp)
      ·exact⟨⟨hsu2.symm⟩⟩
     | @full q _ h1 h2 h3 h5=>
       have h4:(ints xs).length=xs.length:=by simp[ints]
       have h7:xs.length<1000000:=by have:=hid.down.1;omega
       have h6:xs.length≠0:=by cases xs with|nil=>exact absurd rfl h5|cons _ _=>simp
       have hwr:lcat (ints xs) [.int .i64 x.worth]=ints (xs++[x.worth]):=by rw[lcat_eq];simp[ints]
       refine y4 ?_;refine yt ?_;refine y3 ?_;refine wE_seq ?_;refine yY ?_;refine wE_skip ?_;refine kS_n ?_;refine wE_seq ?_;refine wE_block ?_;refine y4 ?_;refine wO_val (a_iaddrS (by exact rfl) (by exact rfl) (by omega)) ?_
       refine wO_val (a_loadN (by exact rfl) g1 g2 (by exact rfl)) ?_
       refine wO_val a_new ?_;refine yS ?_;refine y3 ?_;refine wE_draw ?_;refine qM ?_;refine qM ?_
       refine wD_quiet rfl rfl rfl (by exact rfl) (by exact rfl) (by exact rfl) (a_nilchk (by exact rfl)) ?_;refine qF ?_
       refine qL ?_
       refine qF ?_
       refine qL ?_
       refine wD_new rfl rfl rfl (by exact rfl) (by exact rfl) (by exact rfl) (a_bslice (by exact rfl) (by exact rfl)) (by refine rs_cons (rq_quiet rfl (a_load (by exact rfl) (by(simp(disch:=first|omega|(simp only[z1,z2];omega))only[z3,z4,z5,z6,z7,z1,z2, *];exact rfl)) (by exact rfl)) (by exact sv_int _ _)) ?_;refine rs_cons (rq_quiet rfl (a_faddr (by exact rfl)) (by exact sv_ptr _)) ?_;refine rs_cons (rq_quiet rfl (a_load (by exact rfl) (by(simp(disch:=first|omega|(simp only[z1,z2];omega))only[z3,z4,z5,z6,z7,z1,z2, *];exact rfl)) (by exact rfl)) (by exact sv_slice _ _ _)) ?_;refine rs_cons (rq_quiet rfl (a_faddr (by exact rfl)) (by exact sv_ptr _)) ?_;refine rs_cons (rq_quiet rfl (a_nilchk (by exact rfl)) (by exact sv_ptr _)) ?_;refine rs_cons (rq_quiet rfl (a_mov (by exact rfl)) (by exact sv_ptr _)) ?_;refine rs_cons (rq_quiet rfl (a_mov (by exact rfl)) (by exact sv_ptr _)) ?_;exact rs_nil) ?_
       refine wD_app_open (n:=1) (vs:=ints xs) (ws:=ints (xs++[x.worth])) rfl rfl rfl (by exact rfl) (by exact rfl) (by exact rfl) (src_log (src_slice (cs:=[.int .i64 x.worth]) (by(simp(disch:=first|omega|(simp only[z1,z2];omega)|(simp only[z1,z2];done)|fail)only[z8,z4,z5,z9,z7,z1,z2, *];exact rfl)) rfl rfl)) (by omega) (by(simp(disch:=first|omega|(simp only[z1,z2];omega))only[z3,z4,z5,z6,z7,z1,z2, *];done)) (by omega) (by omega) rfl (by omega) hwr (by(simp only[z1,z2];omega)) (by omega) (by apply ra_dropC rfl;apply ra_dropC rfl;apply ra_dropC rfl;apply ra_dropC rfl;apply ra_dropC rfl;apply ra_dropC rfl;apply ra_dropC rfl;apply ra_keepC rfl (rq_quiet rfl (a_mov (by exact rfl)) (by exact sv_ptr _)) rfl;exact ra_nil) ?_
       refine wD_quiet rfl rfl rfl (by exact rfl) (by exact rfl) (by exact rfl) (a_nilchk (by exact rfl)) ?_;refine qF ?_
       refine wD_store rfl rfl rfl (by exact rfl) (by exact rfl) (by exact rfl) (by(simp(disch:=first|omega|(simp only[z1,z2];omega))only[z3,z4,z5,z6,z7,z1,z2, *];exact rfl)) (by exact rfl) (by exact rfl) (by(simp only[z1,z2];omega)) (by omega) (by apply ra_dropC rfl;apply ra_dropC rfl;apply ra_dropC rfl;exact ra_nil) ?_
       refine wD_nil ?_;refine y1 ?_;refine kB_n ?_;refine kS_n ?_;refine wE_region ?_;refine yinc ?_;refine yM ?_;refine y3 ?_
       have hxi:=hid.down.1
       refine⟨n-(i+1),by omega,i+1, .slice (some ⟨hi.next+2,0,none⟩) (xs.length+1) UNK,xs++[x.worth],by omega,rfl,rfl,rfl,?_,?_,?_,?_,?_⟩
       ·exact((hx4.wr (x:=q) (base:=h.next) (o:= .dead) (show h.next+1≤q by omega) (by omega)).push (.cells (ints (xs++[x.worth])) true 1)).wr (Nat.le_refl _) (Nat.le_succ _)
       ·(simp only[z1,z2];omega)
       ·(simp(disch:=first|omega|(simp only[z1,z2];omega))only[z3,z4,z5,z6,z7,z1,z2, *];exact rfl)
       ·have:=WslB.full (lo:=h.next+2) (q:=hi.next+2) (xs:=xs++[x.worth]) (h:=(((((hi.push (.cells [.int .i64 0, .int .i64 0, .int .i64 0, .int .i64 0, .bool false] true 1)).wr h.next hi.next (.cells (kc x) true 1)).push (.cells [.int .i64 x.worth] true 1)).wr h.next q .dead).push (.cells (ints (xs++[x.worth])) true 1)).wr h.next (h.next+1) (.cells [.slice (some ⟨b,o,none⟩) n c, .int .i64 kerf, .slice (some ⟨hi.next+2,0,none⟩) (xs.length+1) UNK] true 1)) (by omega) (by(simp only[z1,z2];omega)) (by(simp(disch:=first|omega|(simp only[z1,z2];omega)|(simp only[z1,z2];done)|fail)only[z8,z4,z5,z9,z7,z1,z2, *];done)) (by simp)
        rw[List.length_append]at this
        exact this
       ·exact⟨⟨hid.down.2.symm⟩⟩
   ·obtain rfl:i=n:=by omega
    refine y4 ?_;refine yf ?_;refine y3 ?_;refine wE_seq ?_;refine yX ?_;refine wE_exit ?_;refine kS_e ?_;refine kS_e ?_;refine kB_e ?_;refine kS_n ?_
    refine y4 ?_;refine yM ?_;refine yM ?_;refine yM ?_;refine y3 ?_;refine wE_ret ?_
    refine endA_ret (vs:=[.pointer (some ⟨h.next+1,0,none⟩), .int .i64 0]) (hx1.log.trans hr.log) rfl ⟨_,rfl,fun _=> ?_⟩
    rw[List.take_of_length_le (by omega)]at hxs
    obtain rfl:xs=l.map (·.worth):=hxs
    exact⟨w,rfl,hW,hw⟩
 ·rw[if_neg hc]
  refine yM ?_;refine y3 ?_;refine y4 ?_;refine yM ?_;refine yt ?_;refine y3 ?_;refine yY ?_;refine y4 ?_;refine yM ?_;refine yM ?_;refine yM ?_;refine y3 ?_;refine wE_ret ?_;refine kS_r ?_
  exact endA_ret (vs:=[.pointer none, .int .i64 (chk kerf l)]) hr.log rfl ⟨_,rfl,fun e=>(hc e).elim⟩
def StartQ(a:Option Addr)(n c:Nat)(kerf:Int)(l:List Kd)(er:Int)(v:Value)(h':Heap):Prop:=∃p,v= .tuple #[.pointer p, .int .i64 er]∧
 (er=0→∃bb wa wc,p=some ⟨bb,0,none⟩∧h'.get bb=some (.cells [.slice a n c, .int .i64 kerf, .slice wa n wc] true 1)∧SliceOf h' 1 (.slice wa n wc) n (ints (l.map (·.worth))))
theorem StartQ.gc{a:Option Addr}{n c:Nat}{kerf:Int}{l:List Kd}{er:Int}(h:Heap)(v:Value)(h1:Heap)(hv:noRef v=true)(q:StartQ a n c kerf l er v h1):StartQ a n c kerf l er v h:=by
 obtain⟨p,rfl,h2⟩:=q
 refine⟨p,rfl,fun he=> ?_⟩
 obtain⟨bb,wa,wc,rfl,_⟩:=h2 he
 simp[noRef,flatL,flat,scalL,scal,scal1]at hv
set_option maxHeartbeats 4000000 in
theorem startedB75(G:FnsE T){h:Heap}(hr:Rdy h){a:Option Addr}{n c:Nat}{l:List Kd}(hs:SliceOf h 5 (.slice a n c) n (kcs l))(kerf:Int)(hn:n<1000000){v:Value}{m:Nat}{bl:List Bool}(hb:SliceOf h 1 v m (bcs bl))(hm:m<1000000):
 Al T 75 [.agg #[.slice a n c, .int .i64 kerf],v] h (StartQ a n c kerf l (startE kerf l bl)):=by
 have hlen:l.length=n:=by have:=hs.len;rw[kcs_length]at this;omega
 refine CW.mono (startedO75 G hr hs kerf hn hb hm) fun r h' ⟨hx,v,hv,q⟩=>⟨hx,v,hv,?_⟩
 obtain⟨p,rfl,h2⟩:=q
 refine⟨p,rfl,fun he=> ?_⟩
 obtain⟨w,rfl,g,s⟩:=h2 he
 have e:(l.map (·.worth)).length=n:=by rw[List.length_map,hlen]
 obtain⟨a2,c2,rfl,s2⟩:=s.slice (by omega)
 rw[e]at g s2
 exact⟨_,a2,c2,rfl,g,s2⟩
end Go.A.Pk
end
section
set_option maxRecDepth 100000
namespace Go.A.Pk
variable {T:Nat→Option AFunc}
structure FnsW (T:Nat→Option AFunc):Prop extends FnsE T,FnsV T where
 f76:T 76=some f76
 f32:T 32=some f32
def OnB(w ht:Int):Prop:=(1≤w∧w≤16)∧(1≤ht∧ht≤16)
instance(w ht:Int):Decidable (OnB w ht):=by unfold OnB;infer_instance
theorem board76a(hp:primAS T)(hf6:T 76=some f76)(hf7:T 77=some f77){h:Heap}(hr:Rdy h)(w ht:Int):Pu T 76 [.int .i64 w, .int .i64 ht] h (.bool (decide (OnB w ht))):=by
 refine .of hp hf6 hr rfl ?_
 by_cases c1:1≤w∧w≤16
 ·by_cases c2:1≤ht∧ht≤16
  ·rw[decide_eq_true (show OnB w ht from⟨c1,c2⟩)]
   refine y4 ?_;refine yM ?_;refine y3 ?_;refine y4 ?_;refine yM ?_
   refine yC ?_
   refine FW.pu (in77T hp hf7 (.of hr.wf) c1) ?_
   refine yM ?_;refine yO ?_;refine yM ?_;refine yO ?_
   refine yC ?_
   refine FW.pu (in77T hp hf7 (.of hr.wf) c2) ?_
   refine yT ?_;refine yM ?_;refine y3 ?_;refine wE_ret ?_
   exact endP_ret hr.log rfl rfl
  ·rw[decide_eq_false (show¬OnB w ht from fun q=>c2 q.2)]
   refine y4 ?_;refine yM ?_;refine y3 ?_;refine y4 ?_;refine yM ?_
   refine yC ?_
   refine FW.pu (in77T hp hf7 (.of hr.wf) c1) ?_
   refine yM ?_;refine yO ?_;refine yM ?_;refine yO ?_
   refine yC ?_
   refine FW.pu (in77F hp hf7 (.of hr.wf) c2) ?_
   refine yT ?_;refine yM ?_;refine y3 ?_;refine wE_ret ?_
   exact endP_ret hr.log rfl rfl
 ·rw[decide_eq_false (show¬OnB w ht from fun q=>c1 q.1)]
  refine y4 ?_;refine yM ?_;refine y3 ?_;refine y4 ?_;refine yM ?_
  refine yC ?_
  refine FW.pu (in77F hp hf7 (.of hr.wf) c1) ?_
  refine yM ?_;refine yP ?_;refine yP ?_;refine yU ?_;refine yM ?_;refine y3 ?_;refine wE_ret ?_
  exact endP_ret hr.log rfl rfl
theorem board76(F:FnsW T){h:Heap}(hr:Rdy h)(w ht:Int):Pu T 76 [.int .i64 w, .int .i64 ht] h (.bool (decide (OnB w ht))):=board76a F.toFnsE.toFnsA.p F.f76 F.toFnsE.toFnsA.f77 hr w ht
theorem StartQ.logs{a:Option Addr}{n c:Nat}{kerf:Int}{l:List Kd}{er:Int}(v:Value)(h':Heap)(m:List Nat)(q:StartQ a n c kerf l er v h'):StartQ a n c kerf l er v {h' with log:=m}:=by
 obtain⟨p,h1,h2⟩:=q
 refine⟨p,h1,fun e=> ?_⟩
 obtain⟨bb,wa,wc,q1,q2,q3⟩:=h2 e
 exact⟨bb,wa,wc,q1,q2,q3.log _⟩
def bestV(kerf:Int)(l:List Kd)(w ht:Int):Int:=look (tabL kerf (l.map (·.worth)) l (boardsL w.toNat ht.toNat)) (w,ht)
def bestR(kerf:Int)(l:List Kd)(w ht:Int):Value:= .tuple #[.int .i64 (if asked kerf l (OnB w ht)=0 then bestV kerf l w ht else 0), .int .i64 (asked kerf l (OnB w ht))]
set_option maxHeartbeats 4000000 in
theorem best32(F:FnsW T){h:Heap}(hr:Rdy h){a:Option Addr}{n c:Nat}{l:List Kd}(hs:SliceOf h 5 (.slice a n c) n (kcs l))(kerf:Int)(hn:n<1000000)(w ht:Int):Pu T 32 [.agg #[.slice a n c, .int .i64 kerf], .int .i64 w, .int .i64 ht] h (bestR kerf l w ht):=by
 refine .of F.toFnsE.toFnsA.p F.f32 hr rfl ?_
 have hx:Ext h (h.push (.cells [.slice a n c, .int .i64 kerf] true 1)):=(Ext.refl h).push _
 obtain rfl:n=l.length:=by have:=hs.len;rw[kcs_length]at this;omega
 refine y4 ?_;refine yB ?_;refine yM ?_;refine yM ?_;refine y3 ?_;refine wE_seq ?_;refine wE_draw ?_
 refine qN ?_
 refine qM ?_;refine qM ?_
 refine qC ?_
 refine FW.puD (board76 F (.of (hx.wf hr.wf)) w ht) (by apply ra_dropC rfl;apply ra_dropC rfl;apply ra_keepC rfl (rq_quiet rfl (a_loadN (by exact rfl) (by(simp(disch:=first|omega|(simp only[z1,z2];omega))only[z3,z4,z5,z6,z7,z1,z2, *];exact rfl)) (by exact rfl) (by exact rfl)) (by exact sv_agg (by refine sl_cons (s1_slice _ _ _) ?_;refine sl_cons (s1_int _ _) ?_;exact sl_nil))) rfl;exact ra_nil) ?_
 refine wD_new rfl rfl rfl (by exact rfl) (by exact rfl) (by exact rfl) (a_bslice (by exact rfl) (by exact rfl)) (by refine rs_cons (rq_quiet rfl (a_loadN (by exact rfl) (by(simp(disch:=first|omega|(simp only[z1,z2];omega))only[z3,z4,z5,z6,z7,z1,z2, *];exact rfl)) (by exact rfl) (by exact rfl)) (by exact sv_agg (by refine sl_cons (s1_slice _ _ _) ?_;refine sl_cons (s1_int _ _) ?_;exact sl_nil))) ?_;exact rs_nil) ?_
 refine qC ?_
 have hx2:=hx.push (.cells [.bool (decide (OnB w ht))] true 1)
 refine FW.alD (startedB75 F.toFnsE (.of (hx2.wf hr.wf)) ((hs.ext hx2).log []) kerf hn (bl:=[decide (OnB w ht)]) (m:=1) (.mem ⟨Nat.lt_succ_self _,⟨_,_,_,z3 _ _,rfl⟩,rfl⟩ (Nat.le_refl _)) (by omega)) (fun v h' m q=>StartQ.logs v h' m q) ?_
 rintro _ h1 hx3 ⟨p,rfl,hst⟩
 rw[startE_one]at hst
 rw[startE_one]
 refine⟨_,by apply ra_dropC rfl;apply ra_dropC rfl;exact ra_nil,?_⟩
 have w1:WF h1:=hx3.wf (hx2.wf hr.wf)
 have hx13:Ext h h1:=hx2.trans hx3
 by_cases ha:asked kerf l (OnB w ht)=0
 ·obtain⟨bb,wa,wc,rfl,gb,hws⟩:=hst ha
  have hP:=asked_zero ha
  obtain⟨q1,q2,q3,q4⟩:=chk_iff.1 hP.1
  obtain⟨⟨e1,e2⟩,e3,e4⟩:=hP.2
  obtain⟨wn,rfl⟩:=Int.eq_ofNat_of_zero_le (show 0≤w by omega)
  obtain⟨hn',rfl⟩:=Int.eq_ofNat_of_zero_le (show 0≤ht by omega)
  unfold bestR
  rw[if_pos ha,ha]
  refine qM ?_;refine qE ?_;refine qE ?_
  refine qM ?_;refine qM ?_;refine wD_nil ?_;refine y1 ?_;refine kS_n ?_;refine wE_seq ?_;refine y4 ?_
  refine yM ?_;refine yf ?_;refine y3 ?_;refine yX ?_;refine wE_skip ?_;refine kS_n ?_;refine y4 ?_
  refine yM ?_;refine yM ?_;refine yM ?_
  refine yC ?_
  refine FW.al (best83 F.toFnsV (.of w1) (w:=wn) (ht:=hn') (W:=1000000) (ws:=l.map (·.worth)) (by omega) (by omega) (by omega) ⟨by omega,by omega⟩ (by omega) (fun x hx=> ?_) gb ((hs.ext hx13).log []) (hws.log [])) (fun _ _ _ q=>q) ?_
  ·obtain⟨k,hk,rfl⟩:=List.mem_map.1 hx
   have:=(q3 k hk).2.2.2
   exact this
  rintro _ h2 hx4 ⟨r,rfl,gr⟩
  refine yM ?_;refine yM ?_;refine wO_val (a_build (by exact rfl)) ?_
  refine wO_val (a_lookup (x:=((wn:Int),(hn':Int))) (by exact rfl) (by exact rfl) gr) ?_
  refine yM ?_;refine yM ?_;refine y3 ?_;refine wE_ret ?_
  exact endP_ret ((hx13.trans hx4).log.trans hr.log) rfl rfl
 ·unfold bestR
  rw[if_neg ha]
  refine qM ?_;refine qE ?_;refine qE ?_
  refine qM ?_;refine qM ?_;refine wD_nil ?_;refine y1 ?_;refine kS_n ?_;refine wE_seq ?_;refine y4 ?_
  refine yM ?_;refine yt ?_;refine y3 ?_;refine yY ?_;refine y4 ?_;refine yM ?_
  refine yM ?_;refine yM ?_;refine y3 ?_;refine wE_ret ?_;refine kS_r ?_
  exact endP_ret (hx13.log.trans hr.log) rfl rfl
end Go.A.Pk
end
section
namespace Go.A.Pk
def foldM{α:Type}(f:α→Int)(xs:List α)(m:Int):Int:=xs.foldl (fun m x=>mx m (f x)) m
theorem foldM_ge{α:Type}{f:α→Int}:∀{xs:List α} {m:Int},m≤foldM f xs m∧∀x∈xs,f x≤foldM f xs m
 |[],m=>⟨Int.le_refl _,fun x hx=>by cases hx⟩
 |y::xs,m=>by
  have h:=foldM_ge (f:=f) (xs:=xs) (m:=mx m (f y))
  have hm:=mx_ge (a:=m) (b:=f y)
  refine⟨Int.le_trans hm.1 h.1,fun x hx=> ?_⟩
  rcases List.mem_cons.1 hx with rfl|hx
  ·exact Int.le_trans hm.2 h.1
  ·exact h.2 x hx
theorem foldM_le{α:Type}{f:α→Int}{B:Int}:∀{xs:List α} {m:Int},m≤B→(∀x∈xs,f x≤B)→foldM f xs m≤B
 |[],m,h,_=>h
 |y::xs,m,h,hx=>foldM_le (xs:=xs) (m:=mx m (f y)) (mx_le h (hx y (List.mem_cons_self ..))) fun x hx'=>hx x (List.mem_cons_of_mem _ hx')
theorem foldM_congr{α:Type}{f g:α→Int}:∀{xs:List α} {m:Int},(∀x∈xs,f x=g x)→foldM f xs m=foldM g xs m
 |[],_,_=>rfl
 |y::xs,m,h=>by
  show foldM f xs (mx m (f y))=foldM g xs (mx m (g y))
  rw[h y (List.mem_cons_self ..),foldM_congr fun x hx=>h x (List.mem_cons_of_mem _ hx)]
def VF(kerf:Int)(ws:List Int)(kl:List Kd):Nat→Int×Int→Int
 |0,_=>0
 |n+1,p=>if 1≤p.1∧1≤p.2 then foldM (fun x=>VF kerf ws kl n (oneB x p.1.toNat p.2.toNat)+VF kerf ws kl n (twoB kerf x p.1.toNat p.2.toNat)) (cutsL p.1.toNat p.2.toNat) (leafM ws (leavesL p.1.toNat p.2.toNat kl 0) 0)else 0
def sz(p:Int×Int):Nat:=p.1.toNat+p.2.toNat
theorem cut_lt{kerf:Int}(hk:0≤kerf){a b:Nat}{x:Nat×Nat}(hx:x∈cutsL a b):sz (oneB x a b)<a+b∧sz (twoB kerf x a b)<a+b:=by
 unfold sz
 rcases cuts_of hx with⟨e3,hl,hu⟩|⟨e4,hl,hu⟩
 ·simp only[oneB,twoB,e3,if_true];omega
 ·have n3:¬x.1=3:=by omega
  simp only[oneB,twoB,if_neg n3];omega
theorem VF_succ{kerf:Int}(hk:0≤kerf){ws:List Int}{kl:List Kd}:∀{n:Nat} {p:Int×Int},sz p≤n→VF kerf ws kl (n+1) p=VF kerf ws kl n p
 |0,p,h=>by
  unfold sz at h
  simp only[VF]
  rw[if_neg (by omega)]
 |n+1,p,h=>by
  rw[VF,VF]
  split
  ·refine foldM_congr fun x hx=> ?_
   have:=cut_lt hk hx
   unfold sz at h
   rw[VF_succ hk (by omega),VF_succ hk (by omega)]
  ·rfl
theorem VF_ge{kerf:Int}(hk:0≤kerf){ws:List Int}{kl:List Kd}{n:Nat}{p:Int×Int}(h:sz p≤n):∀{m:Nat},n≤m→VF kerf ws kl m p=VF kerf ws kl n p:=by
 intro m hm
 induction m with
 |zero=>obtain rfl:n=0:=by omega
        rfl
 |succ m ih=>
  by_cases e:n=m+1
  ·rw[e]
  ·rw[VF_succ hk (by omega),ih (by omega)]
def V(kerf:Int)(ws:List Int)(kl:List Kd)(p:Int×Int):Int:=VF kerf ws kl (sz p) p
theorem V_out{kerf:Int}{ws:List Int}{kl:List Kd}{p:Int×Int}(h:¬ (1≤p.1∧1≤p.2)):V kerf ws kl p=0:=by
 unfold V
 cases sz p with
 |zero=>rfl
 |succ n=>rw[VF,if_neg h]
theorem V_eq{kerf:Int}(hk:0≤kerf){ws:List Int}{kl:List Kd}{a b:Nat}(ha:1≤a)(hb:1≤b):V kerf ws kl ((a:Int),(b:Int))=foldM (fun x=>V kerf ws kl (oneB x a b)+V kerf ws kl (twoB kerf x a b)) (cutsL a b) (leafM ws (leavesL a b kl 0) 0):=by
 have hs:sz ((a:Int),(b:Int))=a+b:=by simp[sz]
 unfold V
 rw[hs]
 obtain⟨n,hn⟩:∃n,a+b=n+1:=⟨a+b-1,by omega⟩
 rw[hn,VF,if_pos ⟨by show(1:Int)≤a;omega,by show(1:Int)≤b;omega⟩]
 show foldM (fun x=>VF kerf ws kl n (oneB x a b)+VF kerf ws kl n (twoB kerf x a b)) (cutsL a b) _=_
 refine foldM_congr fun x hx=> ?_
 have:=cut_lt hk hx
 rw[VF_ge hk (n:=sz (oneB x a b)) (Nat.le_refl _) (by omega),VF_ge hk (n:=sz (twoB kerf x a b)) (Nat.le_refl _) (by omega)]
theorem look_upd{x:Nat×Nat}{v:Int}:∀(t:Tab) (y:Int×Int),look (upd t x v) y=if y=((x.1:Int),(x.2:Int))then v else look t y
 |[],y=>by
  have e1:isKey y (x,v)=decide (y=((x.1:Int),(x.2:Int))):=by
   unfold isKey
   exact decide_eq_decide.2 ⟨fun q=>Prod.ext q.1 q.2,fun q=>by rw[q];exact⟨rfl,rfl⟩⟩
  simp only[upd,look]
  rw[e1]
  by_cases h:y=((x.1:Int),(x.2:Int))
  ·simp[h]
  ·simp[h]
 |e::t,y=>by
  simp only[upd]
  by_cases hk:isKey (x.1,x.2) e=true
  ·rw[if_pos hk]
   simp only[look]
   simp only[isKey,decide_eq_true_eq]at hk
   have e1:isKey y (x,v)=decide (y=((x.1:Int),(x.2:Int))):=by
    unfold isKey
    exact decide_eq_decide.2 ⟨fun q=>Prod.ext q.1 q.2,fun q=>by rw[q];exact⟨rfl,rfl⟩⟩
   have e2:isKey y e=decide (y=((x.1:Int),(x.2:Int))):=by
    unfold isKey
    exact decide_eq_decide.2 ⟨fun q=>Prod.ext (q.1.trans hk.1.symm) (q.2.trans hk.2.symm),fun q=>by rw[q];exact hk⟩
   rw[e1,e2]
   by_cases h:y=((x.1:Int),(x.2:Int))
   ·simp[h]
   ·simp[h]
  ·rw[if_neg hk]
   simp only[look]
   rw[look_upd t y]
   by_cases h:y=((x.1:Int),(x.2:Int))
   ·have:isKey y e=false:=by rw[h];simpa using hk
    simp[h,this]
    intro q
    rw[h]at this
    rw[this]at q;cases q
   ·simp[h]
theorem tab_look{kerf:Int}(hk:0≤kerf){ws:List Int}{kl:List Kd}{h:Nat}:∀(i j:Nat),j≤h→∀y:Int×Int,look (tabL kerf ws kl (boardsL i h++row (i+1) j)) y=
 if(1≤y.1∧y.1≤i∧1≤y.2∧y.2≤h)∨(y.1=(i:Int)+1∧1≤y.2∧y.2≤j)then V kerf ws kl y else 0
 |0,0,_,y=>by
  rw[if_neg (by omega)]
  rfl
 |i+1,0,hj,y=>by
  have e:boardsL (i+1) h++row (i+1+1) 0=boardsL i h++row (i+1) h:=by simp[boardsL,row]
  rw[e,tab_look hk i h (Nat.le_refl _) y]
  have:((1≤y.1∧y.1≤i∧1≤y.2∧y.2≤h)∨(y.1=(i:Int)+1∧1≤y.2∧y.2≤h))↔((1≤y.1∧y.1≤(i+1:Nat)∧1≤y.2∧y.2≤h)∨(y.1=((i+1:Nat):Int)+1∧1≤y.2∧y.2≤(0:Nat))):=by omega
  by_cases hc:(1≤y.1∧y.1≤i∧1≤y.2∧y.2≤h)∨(y.1=(i:Int)+1∧1≤y.2∧y.2≤h)
  ·rw[if_pos hc,if_pos (this.1 hc)]
  ·rw[if_neg hc,if_neg (fun q=>hc (this.2 q))]
 |i,j+1,hj,y=>by
  have ih:=tab_look hk (ws:=ws) (kl:=kl) (h:=h) i j (by omega)
  rw[row_succ,←List.append_assoc,tabL_snoc,look_upd,ih y]
  have hval:val kerf ws kl (tabL kerf ws kl (boardsL i h++row (i+1) j)) (i+1) (j+1)=V kerf ws kl (((i+1:Nat):Int),((j+1:Nat):Int)):=by
   rw[V_eq hk (by omega) (by omega)]
   show foldM _ _ _=foldM _ _ _
   refine foldM_congr fun x hx=> ?_
   rw[ih,ih]
   have key:∀z:Int×Int,(1≤z.1∧1≤z.2→((1≤z.1∧z.1≤i∧1≤z.2∧z.2≤h)∨(z.1=(i:Int)+1∧1≤z.2∧z.2≤j)))→(if(1≤z.1∧z.1≤i∧1≤z.2∧z.2≤h)∨(z.1=(i:Int)+1∧1≤z.2∧z.2≤j)then V kerf ws kl z else 0)=V kerf ws kl z:=fun z hz=>by
    by_cases hc:1≤z.1∧1≤z.2
    ·rw[if_pos (hz hc)]
    ·rw[if_neg (by omega),V_out hc]
   rcases cuts_of hx with⟨e3,hl,hu⟩|⟨e4,hl,hu⟩
   ·rw[key _ (by simp only[oneB,e3,if_true];omega),key _ (by simp only[twoB,e3,if_true];omega)]
   ·have n3:¬x.1=3:=by omega
    rw[key _ (by simp only[oneB,if_neg n3];omega),key _ (by simp only[twoB,if_neg n3];omega)]
  by_cases he:y=(((i+1:Nat):Int),((j+1:Nat):Int))
  ·rw[if_pos he,hval,if_pos (by rw[he];simp;omega),he]
  ·rw[if_neg he]
   have hne:¬ (y.1=((i+1:Nat):Int)∧y.2=((j+1:Nat):Int)):=fun q=>he (Prod.ext q.1 q.2)
   by_cases hc:(1≤y.1∧y.1≤i∧1≤y.2∧y.2≤h)∨(y.1=(i:Int)+1∧1≤y.2∧y.2≤j)
   ·rw[if_pos hc,if_pos (by omega)]
   ·rw[if_neg hc,if_neg (by omega)]
theorem bestV_eq{kerf:Int}(hk:0≤kerf){l:List Kd}{w ht:Int}(hw:1≤w)(hh:1≤ht):bestV kerf l w ht=V kerf (l.map (·.worth)) l (w,ht):=by
 unfold bestV
 have:=tab_look hk (ws:=l.map (·.worth)) (kl:=l) (h:=ht.toNat) w.toNat 0 (Nat.zero_le _) (w,ht)
 rw[show boardsL w.toNat ht.toNat++row (w.toNat+1) 0=boardsL w.toNat ht.toNat by simp[row]]at this
 rw[this,if_pos]
 exact .inl ⟨hw,by show w≤w.toNat;omega,hh,by show ht≤ht.toNat;omega⟩
end Go.A.Pk
end
section
set_option maxRecDepth 100000
namespace Go.A.Pk
variable {T:Nat→Option AFunc}
theorem lrow_len{α:Type}(z:List α):∀n,(lrow n z).length=n*z.length
 |0=>by simp[lrow]
 |n+1=>by rw[lrow,lcat_eq,List.length_append,lrow_len z n,Nat.add_mul,Nat.one_mul,Nat.add_comm]
theorem lrow_add{α:Type}(z:List α)(m:Nat):∀n,lrow (n+m) z=lrow n z++lrow m z
 |0=>by simp[lrow]
 |n+1=>by rw[Nat.succ_add,lrow,lrow,lcat_eq,lcat_eq,lrow_add z m n,List.append_assoc]
end Go.A.Pk
end
section
set_option maxRecDepth 100000
namespace Go.A.Pk
variable {T:Nat→Option AFunc}
set_option maxHeartbeats 8000000 in
theorem leavesX140(hp:primAS T)(hf:T 140=some f140){h:Heap}(hr:Rdy h){pb bb px l' N lo a b n c:Nat}{sa:Option Addr}{l:List Kd}{v1 v2:Value}{P:List (Nat×Nat)→Heap→Prop}{S:Heap→Prop}(hN:N≤h.next)(hlo:lo≤h.next)(hn:n<1000)(hlN:l'<N)(Y:YldX T lo N l' nodeV (leavesL a b l 0) P S)
 (hpb:h.get pb=some (.cells [.pointer (some ⟨bb,0,none⟩)] true 1))(hbb:h.get bb=some (.cells [.slice sa n c,v1,v2] true 1))
 (hks:∀d H,P d H→SliceOf H 5 (.slice sa n c) n (kcs l))(hpx:∀d H,P d H→H.get px=some (.cells [.int .i64 a, .int .i64 b] true 1))(h0:P [] h):
 GrX T 140 [.func (.yield l') #[] #[], .pointer (some ⟨pb,0,none⟩), .pointer (some ⟨px,0,none⟩)] h lo (P (leavesL a b l 0)) S:=by
 have hlb:l'<h.next:=by omega
 refine GrX.of (l:=l') hp hf hlo hlb (fun h1 h2 hn ha q=>Y.stable _ _ _ q (Nat.le_trans hN hn) fun x hx=>ha x (by omega)) Y.sloop ?_
 have hlen:l.length=n:=by have:=(hks _ _ h0).len;rw[kcs_length]at this;omega
 refine y4 ?_;refine yL ?_;refine wO_val (a_nilchk (by exact rfl)) ?_;refine yF ?_;refine yF ?_;refine yL ?_;refine yD ?_;refine yM ?_
 refine y3 ?_;refine wE_block ?_
 refine wE_loop (fun k e ds h'=>∃i:Nat,i≤n∧k=n-i∧e=[(0, .func (.yield l') #[] #[]),(2, .pointer (some ⟨px,0,none⟩)),(10, .slice sa n c),(11, .int .i64 n),(12, .int .i64 i)]∧ds=[]∧Lk lo h h'∧P (leavesL a b (l.take i) 0) h')
  ⟨0,Nat.zero_le _,rfl,rfl,rfl, .refl _ _,by simpa[leavesL]using h0⟩ ?_
 clear hpb hbb
 rintro k e ds h' ⟨i,hi,rfl,rfl,rfl,hk,hP⟩
 by_cases hlt:i<n
 ·obtain⟨x,hxl⟩:∃x,l[i]? =some x:=⟨l[i]'(by omega),List.getElem?_eq_getElem (by omega)⟩
  have hsl:=hks _ _ hP
  rcases hsl.inv with⟨_,_,hz,_⟩|⟨b0,o0,cap,hv,s,hcap⟩
  ·omega
  ·cases hv
   obtain⟨vs,own,t0,g5,g6⟩:=slice_elem s hxl
   have hpx':=hpx _ _ hP
   refine y4 ?_;refine yt ?_;refine y3 ?_;refine wE_seq ?_;refine yY ?_;refine wE_skip ?_;refine kS_n ?_;refine wE_seq ?_;refine wE_block ?_;refine y4 ?_;refine yM ?_;refine wO_val (a_iaddrS (by exact rfl) (by exact rfl) (by omega)) ?_
   refine wO_val (a_loadN (by exact rfl) g5 g6 (by exact rfl)) ?_
   have hpxl:px<h'.next:=WF.get_lt (hk.wf hr.wf) hpx'
   refine wO_val a_new ?_;refine yM ?_;refine yS ?_;refine y3 ?_;refine wE_seq ?_;refine y4 ?_
   refine yN ?_;refine yF ?_
   refine yL ?_;refine yF ?_
   refine yL ?_;refine wO_val (a_build (by exact rfl)) ?_
   have hN':N≤h'.next:=Nat.le_trans hN hk.next
   have hlo':lo≤h'.next:=Nat.le_trans hlo hk.next
   have hkq:Lk lo h' ((h'.push (.cells [.int .i64 0, .int .i64 0, .int .i64 0, .int .i64 0, .bool false] true 1)).wr h.next h'.next (.cells (kc x) true 1)):=((Lk.refl lo h').push hlo' _).wr hlo'
   have gk:(((h'.push (.cells [.int .i64 0, .int .i64 0, .int .i64 0, .int .i64 0, .bool false] true 1)).wr h.next h'.next (.cells (kc x) true 1))).get h'.next=some (.cells (kc x) true 1):=by(simp(disch:=first|omega|(simp only[z1,z2];omega))only[z3,z4,z5,z6,z7,z1,z2, *];done)
   have gp:(((h'.push (.cells [.int .i64 0, .int .i64 0, .int .i64 0, .int .i64 0, .bool false] true 1)).wr h.next h'.next (.cells (kc x) true 1))).get px=some (.cells [.int .i64 a, .int .i64 b] true 1):=by(simp(disch:=first|omega|(simp only[z1,z2];omega))only[z3,z4,z5,z6,z7,z1,z2, *];done)
   have hPq:P (leavesL a b (l.take i) 0) ((h'.push (.cells [.int .i64 0, .int .i64 0, .int .i64 0, .int .i64 0, .bool false] true 1)).wr h.next h'.next (.cells (kc x) true 1)):=Y.stable _ _ _ hP (Nat.le_succ_of_le hN') fun z hz=>(z5 (by omega)).trans (z4 (by omega))
   have hqn:h'.next<(((h'.push (.cells [.int .i64 0, .int .i64 0, .int .i64 0, .int .i64 0, .bool false] true 1)).wr h.next h'.next (.cells (kc x) true 1))).next:=Nat.lt_succ_self _
   have hmem:=leaves_mem (a:=a) (b:=b) hxl
   have hsucc:=leaves_succ (a:=a) (b:=b) hxl
   change WO T _ _ _ _ _ _ ((h'.push (.cells [.int .i64 0, .int .i64 0, .int .i64 0, .int .i64 0, .bool false] true 1)).wr h.next h'.next (.cells (kc x) true 1))
   generalize hH:Heap.wr (Heap.push h' _) _ _ _=H at*
   clear hH g5 g6 s hpx' hsl hP hpxl
   have hkH:=hk.trans hkq
   by_cases c1:(a:Int)=x.w∧(b:Int)=x.h
   ·have L1:leavesEq [.i .i64, .i .i64] [.int .i64 a, .int .i64 b] [.int .i64 x.w, .int .i64 x.h]=some true:=by rw[leaves2,decide_eq_true c1]
    refine wO_val (a_agg (b:=true) (by exact rfl) (by exact rfl) L1) ?_
    refine yM ?_;refine yO ?_;refine yM ?_;refine yO ?_;refine yM ?_;refine yO ?_;refine wO_val (a_build (by exact rfl)) ?_;refine yO ?_
    refine wO_call (fn:= .yield l') (args:=[nodeV (1,i)]) (by rfl) ?_
    refine Y.call hp (hmem _ (by simp[leafAt,c1])) (hkH.wf hr.wf) (Nat.le_trans hlo hkH.next) (Nat.le_trans hN hkH.next) hlb hPq ?_ ?_
    rotate_left
    ·intro h9 hk9 hm9 hS9
     refine yO ?_;refine yA ?_;refine yT ?_;refine y3 ?_;refine yY ?_;refine wE_ret ?_;refine kS_r ?_;refine kB_r ?_;refine kS_r ?_;refine kS_r ?_;refine kB_r ?_
     exact endX_ret ((hkH.trans hk9).log (by rw[hr.log];exact LogGe.nil _)) rfl hm9 hS9
    intro h2 hk2 hm2 hP2
    have gk2:=(hm2 h'.next hN' hqn).trans gk
    have gp2:=hpx _ _ hP2
    have hk3:=hkH.trans hk2
    by_cases c2:x.turn=true
    ·have ga:(h2).get h'.next=some (.cells [.int .i64 x.id, .int .i64 x.w, .int .i64 x.h, .int .i64 x.worth, .bool true] true 1):=by rw[gk2,kc,c2]
     clear gk gk2
     refine yO ?_;refine yA ?_;refine yT ?_;refine y3 ?_;refine yX ?_;refine wE_skip ?_;refine kS_n ?_;refine y4 ?_
     refine yF ?_;refine yL ?_;refine yM ?_;refine yO ?_;refine yN ?_;refine yO ?_;refine yF ?_;refine yO ?_
     refine yL ?_;refine yO ?_;refine yF ?_;refine yO ?_;refine yL ?_;refine yO ?_;refine wO_val (a_build (by exact rfl)) ?_;refine yO ?_
     by_cases c3:(a:Int)=x.h∧(b:Int)=x.w
     ·have L2:leavesEq [.i .i64, .i .i64] [.int .i64 a, .int .i64 b] [.int .i64 x.h, .int .i64 x.w]=some true:=by rw[leaves2,decide_eq_true c3]
      refine wO_val (a_agg (b:=true) (by exact rfl) (by exact rfl) L2) ?_
      refine yT ?_;refine yM ?_;refine yO ?_;refine yM ?_;refine yO ?_;refine yM ?_;refine yO ?_;refine wO_val (a_build (by exact rfl)) ?_;refine yO ?_
      refine wO_call (fn:= .yield l') (args:=[nodeV (2,i)]) (by rfl) ?_
      refine Y.call hp (hmem _ (by simp[leafAt,c2,c3])) (hk3.wf hr.wf) (Nat.le_trans hlo hk3.next) (Nat.le_trans hN hk3.next) hlb hP2 ?_ ?_
      rotate_left
      ·intro h9 hk9 hm9 hS9
       refine yO ?_;refine yA ?_;refine yT ?_;refine y3 ?_;refine yY ?_;refine wE_ret ?_;refine kB_r ?_;refine kS_r ?_;refine kS_r ?_;refine kB_r ?_
       exact endX_ret ((hk3.trans hk9).log (by rw[hr.log];exact LogGe.nil _)) rfl hm9 hS9
      intro h4 hk4 _ hP4
      refine yO ?_;refine yA ?_;refine yT ?_;refine y3 ?_;refine yX ?_;refine wE_skip ?_;refine kB_n ?_;refine kS_n ?_;refine wE_region ?_
      refine yinc ?_;refine yM ?_;refine y3 ?_
      refine⟨n-(i+1),by omega,i+1,by omega,rfl,rfl,rfl,hk3.trans hk4,?_⟩
      have hl:leafAt x i a b=[(1,i)]++[(2,i)]:=by unfold leafAt;rw[if_pos c1,if_pos ⟨c2,c3⟩]
      rw[hsucc,hl,←List.append_assoc];exact hP4
     ·have L2:leavesEq [.i .i64, .i .i64] [.int .i64 a, .int .i64 b] [.int .i64 x.h, .int .i64 x.w]=some false:=by rw[leaves2,decide_eq_false c3]
      refine wO_val (a_agg (b:=false) (by exact rfl) (by exact rfl) L2) ?_
      refine yT ?_;refine yM ?_;refine yP ?_;refine yP ?_;refine yP ?_;refine yP ?_;refine yP ?_;refine yU ?_
      refine y3 ?_;refine yX ?_;refine wE_skip ?_;refine kB_n ?_;refine kS_n ?_;refine wE_region ?_;refine yinc ?_;refine yM ?_;refine y3 ?_
      refine⟨n-(i+1),by omega,i+1,by omega,rfl,rfl,rfl,hk3,?_⟩
      have hl:leafAt x i a b=[(1,i)]++[]:=by unfold leafAt;rw[if_pos c1,if_neg (fun q=>c3 q.2)]
      rw[hsucc,hl,List.append_nil];exact hP2
    ·have c2:x.turn=false:=by simpa using c2
     have ga:(h2).get h'.next=some (.cells [.int .i64 x.id, .int .i64 x.w, .int .i64 x.h, .int .i64 x.worth, .bool false] true 1):=by rw[gk2,kc,c2]
     clear gk gk2
     refine yO ?_;refine yA ?_;refine yT ?_;refine y3 ?_;refine yX ?_;refine wE_skip ?_;refine kS_n ?_;refine y4 ?_
     refine yF ?_;refine yL ?_;refine yM ?_;refine yP ?_;refine yP ?_;refine yP ?_;refine yP ?_;refine yP ?_
     refine yP ?_;refine yP ?_;refine yU ?_;refine yM ?_;refine yP ?_;refine yP ?_;refine yP ?_;refine yP ?_
     refine yP ?_;refine yU ?_;refine y3 ?_;refine yX ?_;refine wE_skip ?_;refine kB_n ?_;refine kS_n ?_;refine wE_region ?_
     refine yinc ?_;refine yM ?_;refine y3 ?_
     refine⟨n-(i+1),by omega,i+1,by omega,rfl,rfl,rfl,hk3,?_⟩
     have hl:leafAt x i a b=[(1,i)]++[]:=by unfold leafAt;rw[if_pos c1,if_neg (fun q=>by rw[c2]at q;cases q.1)]
     rw[hsucc,hl,List.append_nil];exact hP2
   ·have L1:leavesEq [.i .i64, .i .i64] [.int .i64 a, .int .i64 b] [.int .i64 x.w, .int .i64 x.h]=some false:=by rw[leaves2,decide_eq_false c1]
    refine wO_val (a_agg (b:=false) (by exact rfl) (by exact rfl) L1) ?_
    by_cases c2:x.turn=true
    ·have ga:(H).get h'.next=some (.cells [.int .i64 x.id, .int .i64 x.w, .int .i64 x.h, .int .i64 x.worth, .bool true] true 1):=by rw[gk,kc,c2]
     clear gk
     refine yM ?_;refine yP ?_;refine yP ?_;refine yP ?_;refine yP ?_;refine yP ?_;refine yU ?_;refine y3 ?_;refine yX ?_;refine wE_skip ?_;refine kS_n ?_;refine y4 ?_;refine yF ?_;refine yL ?_;refine yM ?_
     refine yO ?_;refine yN ?_;refine yO ?_;refine yF ?_;refine yO ?_;refine yL ?_;refine yO ?_;refine yF ?_
     refine yO ?_;refine yL ?_;refine yO ?_;refine wO_val (a_build (by exact rfl)) ?_;refine yO ?_
     by_cases c3:(a:Int)=x.h∧(b:Int)=x.w
     ·have L2:leavesEq [.i .i64, .i .i64] [.int .i64 a, .int .i64 b] [.int .i64 x.h, .int .i64 x.w]=some true:=by rw[leaves2,decide_eq_true c3]
      refine wO_val (a_agg (b:=true) (by exact rfl) (by exact rfl) L2) ?_
      refine yT ?_;refine yM ?_;refine yO ?_;refine yM ?_;refine yO ?_;refine yM ?_;refine yO ?_;refine wO_val (a_build (by exact rfl)) ?_;refine yO ?_
      refine wO_call (fn:= .yield l') (args:=[nodeV (2,i)]) (by rfl) ?_
      refine Y.call hp (hmem _ (by simp[leafAt,c2,c3])) (hkH.wf hr.wf) (Nat.le_trans hlo hkH.next) (Nat.le_trans hN hkH.next) hlb hPq ?_ ?_
      rotate_left
      ·intro h9 hk9 hm9 hS9
       refine yO ?_;refine yA ?_;refine yT ?_;refine y3 ?_;refine yY ?_;refine wE_ret ?_;refine kB_r ?_;refine kS_r ?_;refine kS_r ?_;refine kB_r ?_
       exact endX_ret ((hkH.trans hk9).log (by rw[hr.log];exact LogGe.nil _)) rfl hm9 hS9
      intro h4 hk4 _ hP4
      refine yO ?_;refine yA ?_;refine yT ?_;refine y3 ?_;refine yX ?_;refine wE_skip ?_;refine kB_n ?_;refine kS_n ?_;refine wE_region ?_
      refine yinc ?_;refine yM ?_;refine y3 ?_
      refine⟨n-(i+1),by omega,i+1,by omega,rfl,rfl,rfl,hkH.trans hk4,?_⟩
      have hl:leafAt x i a b=[]++[(2,i)]:=by unfold leafAt;rw[if_neg c1,if_pos ⟨c2,c3⟩]
      rw[hsucc,hl,List.nil_append];exact hP4
     ·have L2:leavesEq [.i .i64, .i .i64] [.int .i64 a, .int .i64 b] [.int .i64 x.h, .int .i64 x.w]=some false:=by rw[leaves2,decide_eq_false c3]
      refine wO_val (a_agg (b:=false) (by exact rfl) (by exact rfl) L2) ?_
      refine yT ?_;refine yM ?_;refine yP ?_;refine yP ?_;refine yP ?_;refine yP ?_;refine yP ?_;refine yU ?_
      refine y3 ?_;refine yX ?_;refine wE_skip ?_;refine kB_n ?_;refine kS_n ?_;refine wE_region ?_;refine yinc ?_;refine yM ?_;refine y3 ?_
      refine⟨n-(i+1),by omega,i+1,by omega,rfl,rfl,rfl,hkH,?_⟩
      have hl:leafAt x i a b=[]++[]:=by unfold leafAt;rw[if_neg c1,if_neg (fun q=>c3 q.2)]
      rw[hsucc,hl,List.append_nil,List.append_nil];exact hPq
    ·have c2:x.turn=false:=by simpa using c2
     have ga:(H).get h'.next=some (.cells [.int .i64 x.id, .int .i64 x.w, .int .i64 x.h, .int .i64 x.worth, .bool false] true 1):=by rw[gk,kc,c2]
     clear gk
     refine yM ?_;refine yP ?_;refine yP ?_;refine yP ?_;refine yP ?_;refine yP ?_;refine yU ?_;refine y3 ?_;refine yX ?_;refine wE_skip ?_;refine kS_n ?_;refine y4 ?_;refine yF ?_;refine yL ?_;refine yM ?_
     refine yP ?_;refine yP ?_;refine yP ?_;refine yP ?_;refine yP ?_;refine yP ?_;refine yP ?_;refine yU ?_
     refine yM ?_;refine yP ?_;refine yP ?_;refine yP ?_;refine yP ?_;refine yP ?_;refine yU ?_;refine y3 ?_;refine yX ?_;refine wE_skip ?_;refine kB_n ?_;refine kS_n ?_;refine wE_region ?_;refine yinc ?_;refine yM ?_;refine y3 ?_
     refine⟨n-(i+1),by omega,i+1,by omega,rfl,rfl,rfl,hkH,?_⟩
     have hl:leafAt x i a b=[]++[]:=by unfold leafAt;rw[if_neg c1,if_neg (fun q=>by rw[c2]at q;cases q.1)]
     rw[hsucc,hl,List.append_nil,List.append_nil];exact hPq
 ·obtain rfl:i=n:=by omega
  have hfull:l.take i=l:=List.take_of_length_le (by omega)
  rw[hfull]at hP
  refine y4 ?_;refine yf ?_;refine y3 ?_;refine wE_seq ?_;refine yX ?_;refine wE_exit ?_;refine kS_e ?_;refine kS_e ?_;refine kB_e ?_
  exact endX_end (hk.log (by rw[hr.log];exact LogGe.nil _)) rfl hP
set_option maxHeartbeats 8000000 in
theorem cutsX141(hp:primAS T)(hf:T 141=some f141){h:Heap}(hr:Rdy h){bx l N lo a b:Nat}{P:List (Nat×Nat)→Heap→Prop}{S:Heap→Prop}(hN:N≤h.next)(hlo:lo≤h.next)(ha:a<1000)(hb:b<1000)(hlN:l<N)(Y:YldX T lo N l nodeV (cutsL a b) P S)
 (hbx:∀d H,P d H→H.get bx=some (.cells [.int .i64 a, .int .i64 b] true 1))(h0:P [] h):
 GrX T 141 [.func (.yield l) #[] #[], .pointer (some ⟨bx,0,none⟩)] h lo (P (cutsL a b)) S:=by
 have hlb:l<h.next:=by omega
 refine GrX.of (l:=l) hp hf hlo hlb (fun h1 h2 hn ha q=>Y.stable _ _ _ q (Nat.le_trans hN hn) fun x hx=>ha x (by omega)) Y.sloop ?_
 refine y4 ?_;refine wO_val (a_build (by exact rfl)) ?_;refine yM ?_;refine y3 ?_;refine wE_block ?_
 refine wE_loop (fun k e ds h'=>∃i:Nat,i≤2∧k=2-i∧e=[(0, .func (.yield l) #[] #[]),(1, .pointer (some ⟨bx,0,none⟩)),(6, .agg (List.toArray [.int .u8 3, .int .u8 4])),(7, .int .i64 i)]∧ds=[]∧Lk lo h h'∧P (if i=0 then []else if i=1 then row 3 (a-1)else cutsL a b) h')
  ⟨0,Nat.zero_le _,rfl,rfl,rfl, .refl _ _,h0⟩ ?_
 rintro k e ds h' ⟨i,hi,rfl,rfl,rfl,hk,hP⟩
 obtain rfl|rfl|rfl:i=0∨i=1∨i=2:=by omega
 ·replace hP:P ([]) h':=hP
  refine y4 ?_;refine yt ?_;refine y3 ?_;refine wE_seq ?_;refine yY ?_;refine wE_skip ?_;refine kS_n ?_;refine wE_seq ?_;refine wE_block ?_;refine y4 ?_;refine yM ?_;refine wO_val (a_idxA (i:=0) (by exact rfl) (by exact rfl) (by omega) (by exact rfl)) ?_;refine yM ?_;refine yM ?_;refine y3 ?_;refine y4 ?_;refine yM ?_;refine y3 ?_;refine wE_block ?_
  refine wE_loop (fun k e ds h''=>∃j:Nat,j≤a-1∧k=a-1-j∧e=[(0, .func (.yield l) #[] #[]),(1, .pointer (some ⟨bx,0,none⟩)),(3, .int .i64 (0:Nat)),(4, .int .u8 3),(5, .int .i64 (j+1:Nat)),(6, .agg (List.toArray [.int .u8 3, .int .u8 4])),(7, .int .i64 (0:Nat))]∧ds=[]∧Lk lo h h''∧P (row 3 j) h'')
   ⟨0,Nat.zero_le _,rfl,rfl,rfl,hk,by simpa[row]using hP⟩ ?_
  clear hP hk h'
  rintro k e ds h' ⟨j,hj,rfl,rfl,rfl,hk,hP⟩
  have g2:=hbx _ _ hP
  by_cases hjt:j<a-1
  ·refine wE_seq ?_;refine y4 ?_;refine yM ?_;refine yM ?_;refine wO_val (a_iaddrA (i:=0) (by exact rfl) (by exact rfl) (by omega)) ?_;refine yL ?_;refine yt ?_;refine y3 ?_;refine yY ?_;refine wE_skip ?_;refine kS_n ?_;refine wE_seq ?_;refine wE_block ?_;refine y4 ?_;refine yM ?_;refine yM ?_;refine yM ?_
   refine wO_val (a_build (by exact rfl)) ?_
   refine wO_call (fn:= .yield l) (args:=[nodeV (3,j+1)]) (by rfl) ?_
   refine Y.call hp (cuts_mem3 hjt) (hk.wf hr.wf) (Nat.le_trans hlo hk.next) (Nat.le_trans hN hk.next) hlb hP ?_ ?_
   rotate_left
   ·intro h9 hk9 hm9 hS9
    refine yA ?_;refine y3 ?_;refine yY ?_;refine wE_ret ?_;refine kB_r ?_;refine kS_r ?_;refine kS_r ?_;refine kB_r ?_;refine kB_r ?_;refine kS_r ?_;refine kS_r ?_;refine kB_r ?_
    exact endX_ret ((hk.trans hk9).log (by rw[hr.log];exact LogGe.nil _)) rfl hm9 hS9
   intro h2 hk2 _ hP2
   rw[←row_succ]at hP2
   refine yA ?_;refine y3 ?_;refine yX ?_;refine wE_skip ?_;refine kB_n ?_;refine kS_n ?_;refine wE_region ?_;refine yM ?_
   refine yinc ?_;refine yM ?_;refine y3 ?_
   exact⟨a-1-(j+1),by omega,j+1,by omega,rfl,rfl,rfl,hk.trans hk2,hP2⟩
  ·obtain rfl:j=a-1:=by omega
   refine wE_seq ?_;refine y4 ?_;refine yM ?_;refine yM ?_;refine wO_val (a_iaddrA (i:=0) (by exact rfl) (by exact rfl) (by omega)) ?_;refine yL ?_;refine yf ?_;refine y3 ?_;refine yX ?_;refine wE_exit ?_;refine kS_e ?_;refine kS_e ?_;refine kB_e ?_;refine kB_n ?_;refine kS_n ?_;refine wE_region ?_;refine yinc ?_;refine yM ?_
   refine y3 ?_
   exact⟨2-1,by omega,1,by omega,rfl,rfl,rfl,hk,hP⟩
 ·replace hP:P (row 3 (a-1)) h':=hP
  refine y4 ?_;refine yt ?_;refine y3 ?_;refine wE_seq ?_;refine yY ?_;refine wE_skip ?_;refine kS_n ?_;refine wE_seq ?_;refine wE_block ?_;refine y4 ?_;refine yM ?_;refine wO_val (a_idxA (i:=1) (by exact rfl) (by exact rfl) (by omega) (by exact rfl)) ?_;refine yM ?_;refine yM ?_;refine y3 ?_;refine y4 ?_;refine yM ?_;refine y3 ?_;refine wE_block ?_
  refine wE_loop (fun k e ds h''=>∃j:Nat,j≤b-1∧k=b-1-j∧e=[(0, .func (.yield l) #[] #[]),(1, .pointer (some ⟨bx,0,none⟩)),(3, .int .i64 (1:Nat)),(4, .int .u8 4),(5, .int .i64 (j+1:Nat)),(6, .agg (List.toArray [.int .u8 3, .int .u8 4])),(7, .int .i64 (1:Nat))]∧ds=[]∧Lk lo h h''∧P (row 3 (a-1)++row 4 j) h'')
   ⟨0,Nat.zero_le _,rfl,rfl,rfl,hk,by simpa[row]using hP⟩ ?_
  clear hP hk h'
  rintro k e ds h' ⟨j,hj,rfl,rfl,rfl,hk,hP⟩
  have g2:=hbx _ _ hP
  by_cases hjt:j<b-1
  ·refine wE_seq ?_;refine y4 ?_;refine yM ?_;refine yM ?_;refine wO_val (a_iaddrA (i:=1) (by exact rfl) (by exact rfl) (by omega)) ?_;refine yL ?_;refine yt ?_;refine y3 ?_;refine yY ?_;refine wE_skip ?_;refine kS_n ?_;refine wE_seq ?_;refine wE_block ?_;refine y4 ?_;refine yM ?_;refine yM ?_;refine yM ?_
   refine wO_val (a_build (by exact rfl)) ?_
   refine wO_call (fn:= .yield l) (args:=[nodeV (4,j+1)]) (by rfl) ?_
   refine Y.call hp (cuts_mem4 hjt) (hk.wf hr.wf) (Nat.le_trans hlo hk.next) (Nat.le_trans hN hk.next) hlb hP ?_ ?_
   rotate_left
   ·intro h9 hk9 hm9 hS9
    refine yA ?_;refine y3 ?_;refine yY ?_;refine wE_ret ?_;refine kB_r ?_;refine kS_r ?_;refine kS_r ?_;refine kB_r ?_;refine kB_r ?_;refine kS_r ?_;refine kS_r ?_;refine kB_r ?_
    exact endX_ret ((hk.trans hk9).log (by rw[hr.log];exact LogGe.nil _)) rfl hm9 hS9
   intro h2 hk2 _ hP2
   rw[List.append_assoc,←row_succ]at hP2
   refine yA ?_;refine y3 ?_;refine yX ?_;refine wE_skip ?_;refine kB_n ?_;refine kS_n ?_;refine wE_region ?_;refine yM ?_
   refine yinc ?_;refine yM ?_;refine y3 ?_
   exact⟨b-1-(j+1),by omega,j+1,by omega,rfl,rfl,rfl,hk.trans hk2,hP2⟩
  ·obtain rfl:j=b-1:=by omega
   refine wE_seq ?_;refine y4 ?_;refine yM ?_;refine yM ?_;refine wO_val (a_iaddrA (i:=1) (by exact rfl) (by exact rfl) (by omega)) ?_;refine yL ?_;refine yf ?_;refine y3 ?_;refine yX ?_;refine wE_exit ?_;refine kS_e ?_;refine kS_e ?_;refine kB_e ?_;refine kB_n ?_;refine kS_n ?_;refine wE_region ?_;refine yinc ?_;refine yM ?_
   refine y3 ?_
   exact⟨2-2,by omega,2,by omega,rfl,rfl,rfl,hk,hP⟩
 ·replace hP:P (cutsL a b) h':=hP
  refine y4 ?_;refine yf ?_;refine y3 ?_;refine wE_seq ?_;refine yX ?_;refine wE_exit ?_;refine kS_e ?_;refine kS_e ?_;refine kB_e ?_
  exact endX_end (hk.log (by rw[hr.log];exact LogGe.nil _)) rfl hP
end Go.A.Pk
end
section
set_option maxRecDepth 100000
namespace Go.A.Pk
variable {T:Nat→Option AFunc}
section
variable {base:Nat} {h:Heap} {e:Env}
theorem a_cap{x:Operand}{a:Option Addr}{n c:Nat}(hx:ev h e x=some (.slice a n c))(hc:c<1000000):aop h base e (.cap x)=some (.val (.int .i64 c) h):=by
 simp only[aop,hx,nbeq_not (show c≠UNK by unfold UNK;omega),cond_false]
theorem a_sliceNil{size:Nat}{x:Operand}{hi:Option Operand}(hx:ev h e x=some (.slice none 0 0))(hh:bnd h e 0 hi=some 0):aop h base e (.slice (.sl size) x none hi none)=some (.val (.slice none 0 0) h):=by
 simp only[aop,hx,sliceOp,bnd_none,hh]
 rfl
theorem a_appN_nil{z:List Value}{bytes n m:Nat}{k:IntKind}{x y:Operand}(hx:ev h e x=some (.slice none 0 0))(hy:ev h e y=some (.int k (n:Nat)))(h0:n≠0)(hb:(2*(0+n)+768)*bytes≤281474976710656)(hb2:n*bytes≤281474976710656)(hn:n<1000000)(hm:llen z=m):
 aop h base e (.appendN z bytes x y)=some (.val (.slice (some ⟨h.next,0,none⟩) n UNK) (h.push (.cells (lrow n z) true m))):=by
 subst hm
 simp only[aop,hx,hy,natOf_nat,nblt_of (show n<9223372036854775808 by omega),nble_of hb2,Bool.and_self,cond_true,appendA,nbeq_not h0,cond_false,nble_of hb,Nat.beq,asPair]
end
structure FnsJ (T:Nat→Option AFunc):Prop where
 p:primAS T
 f126:T 126=some f126
 f150:T 150=some f150
 f176:T 176=some f176
theorem grow176(F:FnsJ T){h:Heap}(hr:Rdy h){n:Nat}(hn:n<100000):
 Al T 176 [.slice none 0 0, .int .i64 n] h fun v h'=>(n=0∧v= .slice none 0 0)∨(0<n∧∃q,h.next≤q∧q<h'.next∧v= .slice (some ⟨q,0,none⟩) 0 UNK∧h'.get q=some (.cells (lrow n [.int .u8 0, .int .i64 0]) true 2)):=by
 refine .of F.p F.f176 hr (fun v h1 hv q=> ?_) ?_
 ·rcases q with q|⟨_,q,_,_,rfl,_⟩
  ·exact .inl q
  ·simp[noRef,flatL,flat,scalL,scal,scal1]at hv
 refine y4 ?_;refine yM ?_;refine y3 ?_;refine wE_seq ?_;refine y4 ?_;refine yM ?_;refine yf ?_
 refine y3 ?_;refine yX ?_;refine wE_skip ?_;refine kS_n ?_;refine wE_seq ?_;refine y4 ?_;refine yM ?_;refine yM ?_
 refine wO_val (a_cap (by exact rfl) (by omega)) ?_
 by_cases h0:n=0
 ·refine yM ?_;refine yD ?_;refine ysub ?_;refine ysub ?_;refine yM ?_;refine y3 ?_;refine y4 ?_;refine yM ?_;refine yf ?_;refine y3 ?_;refine yX ?_;refine wE_skip ?_;refine kS_n ?_;refine y4 ?_;refine yM ?_;refine yM ?_;refine y3 ?_;refine wE_ret ?_
  exact endA_ret hr.log rfl (.inl ⟨h0,rfl⟩)
 ·refine yM ?_;refine yD ?_;refine ysub ?_;refine ysub ?_;refine yM ?_;refine y3 ?_;refine y4 ?_;refine yM ?_;refine yt ?_;refine y3 ?_;refine yY ?_;refine wE_region ?_;refine yM ?_;refine yM ?_
  refine wO_val (a_cap (by exact rfl) (by omega)) ?_
  refine wO_val (a_sliceNil (by exact rfl) (by exact bnd_some (n:=0) rfl)) ?_
  refine yM ?_
  rw[show(n:Int)-(((0:Nat):Int)-((0:Nat):Int))=n by omega]
  refine wO_val (a_appN_nil (by exact rfl) (by exact rfl) h0 (by omega) (by omega) (by omega) (by exact rfl)) ?_
  refine yM ?_;refine yD ?_
  refine wO_val (a_slice_hi (i:=0) (n:=n) (by exact rfl) (by exact rfl) (z3 _ _) (Nat.zero_le _) (by omega)) ?_
  refine yM ?_;refine y3 ?_;refine y4 ?_;refine yM ?_;refine yM ?_;refine y3 ?_;refine wE_ret ?_
  exact endA_ret hr.log rfl (.inr ⟨by omega,h.next,Nat.le_refl _,Nat.lt_succ_self _,rfl,z3 _ _⟩)
theorem concat0(F:FnsJ T){h:Heap}(hr:Rdy h):Pu T 150 [.slice none 0 0] h (.slice none 0 0):=by
 refine .of F.p F.f150 hr rfl ?_
 refine y4 ?_;refine yM ?_;refine y3 ?_;refine y4 ?_;refine yM ?_;refine y3 ?_;refine wE_seq ?_;refine y4 ?_;refine yM ?_;refine yD ?_;refine yM ?_;refine y3 ?_;refine wE_block ?_
 refine wE_round ?_
 refine y4 ?_;refine yf ?_;refine y3 ?_;refine wE_seq ?_;refine yX ?_;refine wE_exit ?_;refine kS_e ?_;refine kS_e ?_;refine kB_e ?_;refine kS_n ?_
 refine y4 ?_;refine yM ?_
 refine yC ?_
 refine FW.al (grow176 F (.of hr.wf) (n:=0) (by omega)) (fun _ _ _ q=>q) ?_
 rintro _ h2 hx2 (⟨_,rfl⟩|⟨h0,_⟩)
 ·refine yM ?_;refine y3 ?_;refine wE_seq ?_;refine y4 ?_;refine yM ?_;refine yD ?_;refine yM ?_;refine y3 ?_;refine wE_block ?_
  refine wE_round ?_
  refine y4 ?_;refine yf ?_;refine y3 ?_;refine wE_seq ?_;refine yX ?_;refine wE_exit ?_;refine kS_e ?_;refine kS_e ?_;refine kB_e ?_;refine kS_n ?_
  refine y4 ?_;refine yM ?_;refine yM ?_;refine y3 ?_;refine wE_ret ?_
  exact endP_ret (hx2.log.trans hr.log) rfl rfl
 ·omega
theorem put1{n1 n2:Nat}{z cs:List Value}(hz:z.length=2)(hc:cs.length=n1*2):lputs (lrow (n1+n2) z) (0+0*2) cs=cs++lrow n2 z:=by
 rw[lputs_mid (by rw[lrow_len,hz];omega)]
 simp only[Nat.zero_mul,Nat.add_zero,Nat.zero_add,List.take_zero,List.nil_append]
 rw[hc,lrow_add,show n1*2=(lrow n1 z).length by rw[lrow_len,hz],List.drop_left]
theorem put2{n1 n2:Nat}{z c1 cs:List Value}(hz:z.length=2)(h1:c1.length=n1*2)(hc:cs.length=n2*2):lputs (c1++lrow n2 z) (0+n1*2) cs=c1++cs:=by
 rw[lputs_mid (by rw[List.length_append,lrow_len,hz];omega),Nat.zero_add,←h1,List.take_left,hc]
 rw[List.drop_of_length_le (by rw[List.length_append,lrow_len,hz];omega),List.append_nil]
set_option maxHeartbeats 8000000 in
theorem concat2(F:FnsJ T){h:Heap}(hr:Rdy h){p n1 n2:Nat}{v1 v2:Value}{cs1 cs2:List Value}(gp:h.get p=some (.cells [v1,v2] true 1))(s1:SliceOf h 2 v1 n1 cs1)(s2:SliceOf h 2 v2 n2 cs2)(o1:ones cs1=true)(o2:ones cs2=true)(h1:0<n1)(hb:n1+n2<100000):
 Al T 150 [.slice (some ⟨p,0,none⟩) 2 2] h fun v h'=>∃q,v= .slice (some ⟨q,0,none⟩) (n1+n2) UNK∧q<h'.next∧h'.get q=some (.cells (cs1++cs2) true 2):=by
 refine .of F.p F.f150 hr (fun v h1 hv q=> ?_) ?_
 ·obtain⟨q,rfl,_⟩:=q
  simp[noRef,flatL,flat,scalL,scal,scal1]at hv
 obtain⟨a1,c1,rfl⟩:=s1.form
 obtain⟨a2,c2,rfl⟩:=s2.form
 have kp:=WF.get_lt hr.wf gp
 have l1:=s1.len
 have l2:=s2.len
 refine y4 ?_;refine yM ?_;refine y3 ?_;refine y4 ?_;refine yM ?_;refine y3 ?_;refine wE_seq ?_;refine y4 ?_;refine yM ?_;refine yD ?_;refine yM ?_;refine y3 ?_;refine wE_block ?_
 refine wE_round ?_
 refine y4 ?_;refine yt ?_;refine y3 ?_;refine wE_seq ?_;refine yY ?_;refine wE_skip ?_;refine kS_n ?_;refine wE_seq ?_;refine wE_block ?_;refine y4 ?_
 refine wO_val (a_iaddrS (i:=0) (by exact rfl) (by exact rfl) (by omega)) ?_
 refine yL ?_;refine yM ?_;refine y3 ?_;refine y4 ?_;refine yM ?_;refine yM ?_
 refine yD ?_;refine yadd ?_;refine yM ?_;refine y3 ?_;refine y4 ?_
 refine yM ?_;refine yf ?_;refine y3 ?_;refine yX ?_;refine wE_skip ?_;refine kB_n ?_;refine kS_n ?_;refine wE_region ?_
 refine yadd ?_;refine yM ?_;refine y3 ?_
 refine wE_round ?_
 refine y4 ?_;refine yt ?_;refine y3 ?_;refine wE_seq ?_;refine yY ?_;refine wE_skip ?_;refine kS_n ?_;refine wE_seq ?_;refine wE_block ?_;refine y4 ?_
 refine wO_val (a_iaddrS (i:=1) (by exact rfl) (by exact rfl) (by omega)) ?_
 refine yL ?_;refine yM ?_;refine y3 ?_;refine y4 ?_;refine yM ?_;refine yM ?_
 refine yD ?_;refine yadd ?_;refine yM ?_;refine y3 ?_;refine y4 ?_
 refine yM ?_;refine yf ?_;refine y3 ?_;refine yX ?_;refine wE_skip ?_;refine kB_n ?_;refine kS_n ?_;refine wE_region ?_
 refine yadd ?_;refine yM ?_;refine y3 ?_
 refine wE_round ?_
 refine y4 ?_;refine yf ?_;refine y3 ?_;refine wE_seq ?_;refine yX ?_;refine wE_exit ?_;refine kS_e ?_;refine kS_e ?_;refine kB_e ?_;refine kS_n ?_
 refine y4 ?_;refine yM ?_
 rw[show(0:Int)+(n1:Int)+(n2:Int)=((n1+n2:Nat):Int)by omega]
 refine yC ?_
 refine FW.al (grow176 F (.of hr.wf) hb) (fun _ _ _ q=>q) ?_
 rintro _ h2 hx2 (⟨h0,_⟩|⟨_,q,hq1,hq2,rfl,gq⟩)
 ·omega
 have gp2:=(hx2.old _ kp).trans gp
 have t1:=s1.ext hx2
 have hq1':h.next≤q:=hq1
 have hpq:p≠q:=by omega
 clear gp
 refine yM ?_;refine y3 ?_;refine wE_seq ?_;refine y4 ?_;refine yM ?_;refine yD ?_;refine yM ?_;refine y3 ?_;refine wE_block ?_
 refine wE_round ?_
 refine y4 ?_;refine yt ?_;refine y3 ?_;refine wE_seq ?_;refine yY ?_;refine wE_skip ?_;refine kS_n ?_;refine wE_seq ?_;refine wE_block ?_;refine y4 ?_
 refine wO_val (a_iaddrS (i:=0) (by exact rfl) (by exact rfl) (by omega)) ?_
 refine yL ?_;refine yM ?_;refine y3 ?_;refine wE_region ?_;refine yM ?_;refine yM ?_
 refine wO_val (a_app_fit (len:=0) (n:=n1) (ws:=cs1++lrow n2 [.int .u8 0, .int .i64 0]) (by exact rfl) (by exact rfl) (src_of t1) (by omega) gq (by rw[lrow_len];simp;omega) o1 (by omega) (put1 rfl l1)) ?_
 have hx3:Ext h (h2.wr h.next q (.cells (cs1++lrow n2 [.int .u8 0, .int .i64 0]) true 2)):=hx2.wr hq1' hq1'
 have gq3:(h2.wr h.next q (.cells (cs1++lrow n2 [.int .u8 0, .int .i64 0]) true 2)).get q=some (.cells (cs1++lrow n2 [.int .u8 0, .int .i64 0]) true 2):=Heap.get_wr_new gq
 have gp3:(h2.wr h.next q (.cells (cs1++lrow n2 [.int .u8 0, .int .i64 0]) true 2)).get p=some (.cells [.slice a1 n1 c1, .slice a2 n2 c2] true 1):=(z5 hpq).trans gp2
 have hq3:q<(h2.wr h.next q (.cells (cs1++lrow n2 [.int .u8 0, .int .i64 0]) true 2)).next:=hq2
 generalize Heap.wr h2 h.next q _=h3 at*
 have t2:=s2.ext hx3
 clear gq gp2
 refine yM ?_;refine wO_nil ?_;refine y1 ?_;refine kB_n ?_;refine kS_n ?_;refine wE_region ?_;refine yadd ?_;refine yM ?_;refine y3 ?_
 refine wE_round ?_
 refine y4 ?_;refine yt ?_;refine y3 ?_;refine wE_seq ?_;refine yY ?_;refine wE_skip ?_;refine kS_n ?_;refine wE_seq ?_;refine wE_block ?_;refine y4 ?_
 refine wO_val (a_iaddrS (i:=1) (by exact rfl) (by exact rfl) (by omega)) ?_
 refine yL ?_;refine yM ?_;refine y3 ?_;refine wE_region ?_;refine yM ?_;refine yM ?_
 by_cases h0:n2=0
 ·subst h0
  obtain rfl:cs2=[]:=List.length_eq_zero_iff.1 (by simpa using l2)
  refine wO_val (a_app_zero (by exact rfl) (by exact rfl) (src_of t2) (by unfold UNK;omega)) ?_
  refine yM ?_;refine wO_nil ?_;refine y1 ?_;refine kB_n ?_;refine kS_n ?_;refine wE_region ?_;refine yadd ?_;refine yM ?_;refine y3 ?_
  refine wE_round ?_
  refine y4 ?_;refine yf ?_;refine y3 ?_;refine wE_seq ?_;refine yX ?_;refine wE_exit ?_;refine kS_e ?_;refine kS_e ?_;refine kB_e ?_;refine kS_n ?_
  refine y4 ?_;refine yM ?_;refine yM ?_;refine y3 ?_;refine wE_ret ?_
  refine endA_ret (hx3.log.trans hr.log) rfl ⟨q,?_,hq3,?_⟩
  ·show Value.slice _ (0+n1) UNK=_
   rw[Nat.zero_add];rfl
  ·rw[gq3];simp[lrow]
 ·refine wO_val (a_app_fit (len:=0+n1) (n:=n2) (ws:=cs1++cs2) (by exact rfl) (by exact rfl) (src_of t2) h0 gq3 (by rw[List.length_append,lrow_len];simp;omega) o2 (by omega) (by rw[show 0+(0+n1)*2=0+n1*2 by omega];exact put2 (z:=[.int .u8 0, .int .i64 0]) rfl l1 l2)) ?_
  refine yM ?_;refine wO_nil ?_;refine y1 ?_;refine kB_n ?_;refine kS_n ?_;refine wE_region ?_;refine yadd ?_;refine yM ?_;refine y3 ?_
  refine wE_round ?_
  refine y4 ?_;refine yf ?_;refine y3 ?_;refine wE_seq ?_;refine yX ?_;refine wE_exit ?_;refine kS_e ?_;refine kS_e ?_;refine kB_e ?_;refine kS_n ?_
  refine y4 ?_;refine yM ?_;refine yM ?_;refine y3 ?_;refine wE_ret ?_
  refine endA_ret ((hx3.wr hq1' hq1').log.trans hr.log) rfl ⟨q,?_,hq3,Heap.get_wr_new gq3⟩
  show Value.slice _ (0+n1+n2) UNK=_
  rw[Nat.zero_add]
def nd(x:Nat×Nat):List Value:=[.int .u8 x.1, .int .i64 x.2]
theorem joined0(F:FnsJ T){h:Heap}(hr:Rdy h)(x:Nat×Nat):Al T 126 [nodeV x, .slice none 0 0] h fun v h'=>∃q,v= .slice (some ⟨q,0,none⟩) 1 1∧h.next≤q∧q<h'.next∧h'.get q=some (.cells (nd x) true 2):=by
 refine .of F.p F.f126 hr (fun v h1 hv q=> ?_) ?_
 ·obtain⟨q,rfl,_⟩:=q
  simp[noRef,flatL,flat,scalL,scal,scal1]at hv
 obtain⟨x1,x2⟩:=x
 unfold nodeV nd
 refine y4 ?_;refine yB ?_;refine yM ?_;refine y3 ?_;refine wE_seq ?_;refine wE_draw ?_
 refine qN ?_
 refine wD_new rfl rfl rfl (by exact rfl) (by exact rfl) (by exact rfl) (a_bslice (by exact rfl) (by exact rfl)) (by refine rs_cons (rq_quiet rfl (a_loadN (by exact rfl) (by(simp(disch:=first|omega|(simp only[z1,z2];omega))only[z3,z4,z5,z6,z7,z1,z2, *];exact rfl)) (by exact rfl) (by exact rfl)) (by exact sv_agg (by refine sl_cons (s1_int _ _) ?_;refine sl_cons (s1_int _ _) ?_;exact sl_nil))) ?_;exact rs_nil) ?_
 refine qM ?_
 refine qC ?_
 have hx:Ext h ((h.push (.cells [.int .u8 x1, .int .i64 x2] true 1)).push (.cells [.int .u8 x1, .int .i64 x2] true 2)):=((Ext.refl h).push _).push _
 refine FW.puD (concat0 F (.of (hx.wf hr.wf))) (by apply ra_dropC rfl;apply ra_keepC rfl (rq_made rfl) (by rfl);apply ra_keepC rfl (rq_quiet rfl (a_loadN (by exact rfl) (by(simp(disch:=first|omega|(simp only[z1,z2];omega))only[z3,z4,z5,z6,z7,z1,z2, *];exact rfl)) (by exact rfl) (by exact rfl)) (by exact sv_agg (by refine sl_cons (s1_int _ _) ?_;refine sl_cons (s1_int _ _) ?_;exact sl_nil))) rfl;exact ra_nil) ?_
 skip
 refine wD_app_zero rfl rfl rfl (by exact rfl) (by exact rfl) (by exact rfl) (by exact rfl) (Nat.le_refl _) (by apply ra_dropC rfl;apply ra_dropC rfl;exact ra_nil) ?_
 refine qM ?_;refine wD_nil ?_;refine y1 ?_;refine kS_n ?_;refine wE_ret ?_
 exact endA_ret hr.log rfl ⟨h.next+1,rfl,Nat.le_succ _,Nat.lt_succ_self _,z3 _ _⟩
set_option maxHeartbeats 4000000 in
theorem joined2(F:FnsJ T){h:Heap}(hr:Rdy h)(x:Nat×Nat){p n1 n2:Nat}{v1 v2:Value}{cs1 cs2:List Value}(gp:h.get p=some (.cells [v1,v2] true 1))(s1:SliceOf h 2 v1 n1 cs1)(s2:SliceOf h 2 v2 n2 cs2)(o1:ones cs1=true)(o2:ones cs2=true)(h1:0<n1)(hb:n1+n2<100000):
 Al T 126 [nodeV x, .slice (some ⟨p,0,none⟩) 2 2] h fun v h'=>∃q,v= .slice (some ⟨q,0,none⟩) (1+(n1+n2)) UNK∧h.next≤q∧q<h'.next∧h'.get q=some (.cells (nd x++(cs1++cs2)) true 2):=by
 refine .of F.p F.f126 hr (fun v h1 hv q=> ?_) ?_
 ·obtain⟨q,rfl,_⟩:=q
  simp[noRef,flatL,flat,scalL,scal,scal1]at hv
 obtain⟨x1,x2⟩:=x
 unfold nodeV nd
 have kp:=WF.get_lt hr.wf gp
 have l1:=s1.len
 have l2:=s2.len
 refine y4 ?_;refine yB ?_;refine yM ?_;refine y3 ?_;refine wE_seq ?_;refine wE_draw ?_
 refine qN ?_
 refine wD_new rfl rfl rfl (by exact rfl) (by exact rfl) (by exact rfl) (a_bslice (by exact rfl) (by exact rfl)) (by refine rs_cons (rq_quiet rfl (a_loadN (by exact rfl) (by(simp(disch:=first|omega|(simp only[z1,z2];omega))only[z3,z4,z5,z6,z7,z1,z2, *];exact rfl)) (by exact rfl) (by exact rfl)) (by exact sv_agg (by refine sl_cons (s1_int _ _) ?_;refine sl_cons (s1_int _ _) ?_;exact sl_nil))) ?_;exact rs_nil) ?_
 refine qM ?_
 refine qC ?_
 have hx:Ext h ((h.push (.cells [.int .u8 x1, .int .i64 x2] true 1)).push (.cells [.int .u8 x1, .int .i64 x2] true 2)):=((Ext.refl h).push _).push _
 refine FW.alD (concat2 F (.of (hx.wf hr.wf)) ((hx.old _ kp).trans gp) ((s1.ext hx).log []) ((s2.ext hx).log []) o1 o2 h1 hb) (fun _ _ _ q=>q) ?_
 rintro _ h2 hx2 ⟨q,rfl,hq,gq⟩
 have g0:h2.get h.next=some (.cells [.int .u8 x1, .int .i64 x2] true 1):=by rw[hx2.old _ (by(simp only[z1,z2];omega))];(simp(disch:=first|omega|(simp only[z1,z2];omega))only[z3,z4,z5,z6,z7,z1,z2, *];exact rfl)
 have g1:h2.get (h.next+1)=some (.cells [.int .u8 x1, .int .i64 x2] true 2):=by rw[hx2.old _ (by(simp only[z1,z2];omega))];(simp(disch:=first|omega|(simp only[z1,z2];omega)|(simp only[z1,z2];done)|fail)only[z8,z4,z5,z9,z7,z1,z2, *];exact rfl)
 refine⟨_,by apply ra_dropC rfl;apply ra_keepC rfl (rq_made rfl) (by rfl);apply ra_keepC rfl (rq_quiet rfl (a_loadN (by exact rfl) (by assumption) (by exact rfl) (by exact rfl)) (by exact sv_agg (by refine sl_cons (s1_int _ _) ?_;refine sl_cons (s1_int _ _) ?_;exact sl_nil))) rfl;exact ra_nil,?_⟩
 have hk2:h.next+2≤h2.next:=hx2.next
 skip
 refine wD_app_full (n:=n1+n2) (ws:= .int .u8 x1:: .int .i64 x2::(cs1++cs2)) rfl rfl rfl (by exact rfl) (by exact rfl) (by exact rfl) (src_log (src_slice gq (by rw[ltake_eq,ldrop_eq,List.drop_zero,List.take_of_length_le (by rw[List.length_append,l1,l2];omega)]) (by rw[List.length_append,l1,l2];omega))) (by omega) (by omega) (by unfold UNK;omega) g1 (by simp) (by omega) (by rw[lcat_eq];rfl) (by apply ra_dropC rfl;apply ra_dropC rfl;exact ra_nil) ?_
 refine qM ?_;refine wD_nil ?_;refine y1 ?_;refine kS_n ?_;refine wE_ret ?_
 exact endA_ret ((hx.trans hx2).log.trans hr.log) rfl ⟨h2.next,rfl,by omega,Nat.lt_succ_self _,z3 _ _⟩
end Go.A.Pk
end
section
set_option maxRecDepth 100000
namespace Go.A.Pk
variable {T:Nat→Option AFunc}
def asgP0:ACode:=(.region [g 7 (.new [(.int .u8 0),(.int .i64 0)]),⟨none, .store 2 (t 7) (t 16),none⟩] [3,4,5,6,7])
def bodyP0:ACode:=(.block 1 (.seq (.draw [g 17 (.load none (t 3)),g 18 (.nilchk (t 17)),g 19 (.faddr 2 (t 18)),g 20 (.load none (t 19)),g 21 (.faddr 1 (t 7)),g 22 (.load none (t 21)),g 23 (.iaddrS 1 (t 20) (t 22)),g 24 (.load none (t 23)),g 25 (.load none (t 4)),g 26 (.load (some 2) (t 5)),g 27 (.lookup true [.i .i64, .i .i64] (.int .i64 0) false (t 25) (t 26)),g 28 (.bin (.num .eql) (t 24) (t 27))] [0,1,2,3,4,5,6,7,8,9,10,11] [0,1,3,7,0,16,63,127,0,0,768,2047] [6,7,28])
 (.cond (t 28) (.seq (.region [g 29 (.load (some 2) (t 7)),g 30 (.call (.func 126) [(t 29),(.const (.slice none 0 0))]),⟨none, .store 1 (t 6) (t 30),none⟩] [])
 .ret) .skip)))
def asgP1:ACode:=(.region [g 8 (.new [(.int .u8 0),(.int .i64 0)]),⟨none, .store 2 (t 8) (t 38),none⟩] [3,4,5,6,8])
def bodyP1:ACode:=(.block 3 (.seq (.region [g 40 (.load none (t 3)),g 41 (.load (some 2) (t 5)),g 42 (.load (some 2) (t 8)),g 43 (.call (.func 106) [(t 40),(t 41),(t 42)]),g 39 (.mov (t 43)),g 44 (.extract (t 39) 0),g 45 (.extract (t 39) 1),g 9 (.new [(.int .i64 0),(.int .i64 0)]),g 10 (.new [(.int .i64 0),(.int .i64 0)]),⟨none, .store 2 (t 9) (t 44),none⟩,⟨none, .store 2 (t 10) (t 45),none⟩] [3,4,5,6,8,9,10])
 (.seq (.draw [g 46 (.load none (t 4)),g 47 (.load (some 2) (t 9)),g 48 (.lookup true [.i .i64, .i .i64] (.int .i64 0) false (t 46) (t 47)),g 49 (.load none (t 4)),g 50 (.load (some 2) (t 10)),g 51 (.lookup true [.i .i64, .i .i64] (.int .i64 0) false (t 49) (t 50)),g 52 (.bin (.num .add) (t 48) (t 51)),g 53 (.load none (t 4)),g 54 (.load (some 2) (t 5)),g 55 (.lookup true [.i .i64, .i .i64] (.int .i64 0) false (t 53) (t 54)),g 56 (.bin (.num .eql) (t 52) (t 55))] [0,1,2,3,4,5,6,7,8,9,10] [0,0,3,0,0,24,63,0,0,384,1023] [3,4,6,8,9,10,56])
 (.cond (t 56) (.seq (.draw [g 57 (.load (some 2) (t 8)),g 58 (.load none (t 3)),g 59 (.load none (t 4)),g 60 (.load (some 2) (t 9)),g 61 (.call (.func 84) [(t 58),(t 59),(t 60)]),g 62 (.load none (t 3)),g 63 (.load none (t 4)),g 64 (.load (some 2) (t 10)),g 65 (.call (.func 84) [(t 62),(t 63),(t 64)]),g 66 (.bslice [(.slice none 0 0)] 2 [(0,1,(t 61)),(1,1,(t 65))]),g 67 (.call (.func 126) [(t 57),(t 66)]),⟨none, .store 1 (t 6) (t 67),none⟩] [0,1,2,3,5,6,7,4,8,9,10,11] [0,0,0,0,14,0,0,0,254,510,1023,2047] [])
 .ret) .skip))))
def ncs:List (Nat×Nat)→List Value
 |[]=>[]
 |x::l=>nd x++ncs l
theorem ncs_len:∀l,(ncs l).length=l.length*2
 |[]=>rfl
 |x::l=>by simp[ncs,nd,ncs_len l];omega
theorem ncs_app:∀l m,ncs (l++m)=ncs l++ncs m
 |[],m=>rfl
 |x::l,m=>by simp[ncs,ncs_app l m]
theorem ones_ncs:∀l,ones (ncs l)=true
 |[]=>rfl
 |x::l=>by
  have:=ones_ncs l
  simp only[ncs,nd,List.cons_append,List.nil_append,ones]at this⊢
  simpa using this
inductive PlanR (kerf:Int) (ws:List Int) (kl:List Kd) (t:Tab):Int×Int→List (Nat×Nat)→Prop
 |none {p:Int×Int}:¬ (1≤p.1∧1≤p.2)→PlanR kerf ws kl t p []
 |leaf {a b:Nat} {x:Nat×Nat}:1≤a→1≤b→x∈leavesL a b kl 0→ws.getD x.2 0=look t ((a:Int),(b:Int))→PlanR kerf ws kl t ((a:Int),(b:Int)) [x]
 |cut {a b:Nat} {x:Nat×Nat} {n1 n2:List (Nat×Nat)}:1≤a→1≤b→x∈cutsL a b→look t (oneB x a b)+look t (twoB kerf x a b)=look t ((a:Int),(b:Int))→PlanR kerf ws kl t (oneB x a b) n1→PlanR kerf ws kl t (twoB kerf x a b) n2→PlanR kerf ws kl t ((a:Int),(b:Int)) (x::(n1++n2))
 |waste {a b:Nat}:1≤a→1≤b→(∀x∈leavesL a b kl 0,ws.getD x.2 0≠look t ((a:Int),(b:Int)))→(0<look t ((a:Int),(b:Int))→∀x∈cutsL a b,look t (oneB x a b)+look t (twoB kerf x a b)≠look t ((a:Int),(b:Int)))→PlanR kerf ws kl t ((a:Int),(b:Int)) [(0,0)]
def areaN(p:Int×Int):Nat:=p.1.toNat*p.2.toNat
theorem cut_area{kerf:Int}(hk:0≤kerf){a b:Nat}(ha:1≤a)(hb:1≤b){x:Nat×Nat}(hx:x∈cutsL a b):1≤areaN (oneB x a b)∧areaN (oneB x a b)<a*b∧areaN (oneB x a b)+areaN (twoB kerf x a b)≤a*b:=by
 unfold areaN
 rcases cuts_of hx with⟨e3,hl,hu⟩|⟨e4,hl,hu⟩
 ·simp only[oneB,twoB,e3,if_true]
  generalize hm:((a:Int)-x.2-kerf).toNat=m
  have hm':m≤a-x.2:=by omega
  simp only[Int.toNat_natCast]
  refine⟨Nat.mul_pos hl (by omega),Nat.mul_lt_mul_of_pos_right (by omega) (by omega),?_⟩
  rw[←Nat.add_mul]
  exact Nat.mul_le_mul_right _ (by omega)
 ·have n3:¬x.1=3:=by omega
  simp only[oneB,twoB,if_neg n3]
  generalize hm:((b:Int)-x.2-kerf).toNat=m
  have hm':m≤b-x.2:=by omega
  simp only[Int.toNat_natCast]
  refine⟨Nat.mul_pos (by omega) hl,Nat.mul_lt_mul_of_pos_left (by omega) (by omega),?_⟩
  rw[←Nat.mul_add]
  exact Nat.mul_le_mul_left _ (by omega)
theorem plan_len{kerf:Int}(hk:0≤kerf){ws:List Int}{kl:List Kd}{t:Tab}{p:Int×Int}{ns:List (Nat×Nat)}(h:PlanR kerf ws kl t p ns):ns.length≤2*areaN p-1:=by
 induction h with
 |none _=>simp
 | @leaf a b x ha hb _ _=>
   have e:areaN ((a:Int),(b:Int))=a*b:=rfl
   have:0<a*b:=Nat.mul_pos ha hb
   simp only[List.length_singleton];omega
 | @cut a b x n1 n2 ha hb hx _ _ _ h1 h2=>
   have⟨q1,q2,q3⟩:=cut_area hk ha hb hx
   have e:areaN ((a:Int),(b:Int))=a*b:=rfl
   simp only[List.length_cons,List.length_append]
   omega
 | @waste a b ha hb _ _=>
   have e:areaN ((a:Int),(b:Int))=a*b:=rfl
   have:0<a*b:=Nat.mul_pos ha hb
   simp only[List.length_singleton];omega
theorem plan_pos{kerf:Int}{ws:List Int}{kl:List Kd}{t:Tab}{p:Int×Int}{ns:List (Nat×Nat)}(h:PlanR kerf ws kl t p ns)(hp:1≤p.1∧1≤p.2):0<ns.length:=by
 cases h with
 |none h=>exact absurd hp h
 |_=>simp
def U2(h:Heap)(v:Value):Prop:=∀b o n,v= .slice (some ⟨b,o,none⟩) n UNK→∃vs own,h.get b=some (.cells vs own 2)
def PlanQ(kerf:Int)(ws:List Int)(kl:List Kd)(t:Tab)(p:Int×Int)(v:Value)(h:Heap):Prop:=∃ns a c,PlanR kerf ws kl t p ns∧v= .slice a ns.length c∧SliceOf h 2 (.slice a ns.length c) ns.length (ncs ns)∧U2 h v∧(c=UNK∨c<1000000)
theorem PlanQ.log{kerf:Int}{ws:List Int}{kl:List Kd}{t:Tab}{p:Int×Int}(v:Value)(h':Heap)(m:List Nat)(q:PlanQ kerf ws kl t p v h'):PlanQ kerf ws kl t p v {h' with log:=m}:=by
 obtain⟨ns,a,c,h1,h2,h3,h4⟩:=q
 exact⟨ns,a,c,h1,h2,h3.log m,h4⟩
structure BenchT (h:Heap) (bb mb:Nat) (sa:Option Addr) (n c:Nat) (kerf:Int) (wa:Option Addr) (wc:Nat) (kl:List Kd) (ws:List Int) (t:Tab):Prop where
 gb:h.get bb=some (.cells [.slice sa n c, .int .i64 kerf, .slice wa n wc] true 1)
 gm:h.get mb=some (.map (ents t))
 hks:SliceOf h 5 (.slice sa n c) n (kcs kl)
 hws:SliceOf h 1 (.slice wa n wc) n (ints ws)
theorem BenchT.keep{h h':Heap}{bb mb:Nat}{sa:Option Addr}{n c:Nat}{kerf:Int}{wa:Option Addr}{wc:Nat}{kl:List Kd}{ws:List Int}{t:Tab}(B:BenchT h bb mb sa n c kerf wa wc kl ws t)(hw:WF h)(hn:h.next≤h'.next)(ha:∀z,z<h.next→(∃v o s,h.get z=some (.cells v o s))∨(∃m,h.get z=some (.map m))→h'.get z=h.get z):BenchT h' bb mb sa n c kerf wa wc kl ws t:=
 ⟨(ha _ (WF.get_lt hw B.gb) (.inl ⟨_,_,_,B.gb⟩)).trans B.gb,(ha _ (WF.get_lt hw B.gm) (.inr ⟨_,B.gm⟩)).trans B.gm,SliceOf.agree B.hks hn fun b vs o s hb he=>ha b hb (.inl ⟨_,_,_,he⟩),SliceOf.agree B.hws hn fun b vs o s hb he=>ha b hb (.inl ⟨_,_,_,he⟩)⟩
theorem BenchT.ext{h h':Heap}{bb mb:Nat}{sa:Option Addr}{n c:Nat}{kerf:Int}{wa:Option Addr}{wc:Nat}{kl:List Kd}{ws:List Int}{t:Tab}(B:BenchT h bb mb sa n c kerf wa wc kl ws t)(hw:WF h)(x:Ext h h'):BenchT h' bb mb sa n c kerf wa wc kl ws t:=B.keep hw x.next fun z hz _=>x.old z hz
structure PX (H:Heap) (l p6:Nat) (L2:AObj) (D:List (Nat×Nat)→Prop) (H':Heap):Prop where
 old:∀z,z<H.next→z≠l→z≠p6→H'.get z=H.get z
 nx:H.next≤H'.next
 loop:H'.get l=some L2
 out:∃ns q c,D ns∧H.next≤q∧q<H'.next∧(ns.length≤c∧(c=UNK∨c<1000000))∧H'.get p6=some (.cells [.slice (some ⟨q,0,none⟩) ns.length c] true 1)∧H'.get q=some (.cells (ncs ns) true 2)
structure FnsPl (T:Nat→Option AFunc):Prop extends FnsV T,FnsJ T where
 f125:T 125=some f125
 f84:T 84=some f84
set_option maxHeartbeats 8000000 in
theorem plan_leaf(F:FnsPl T){H:Heap}(hr:Rdy H){lo N l p3 p4 p5 p6 bb mb a b n c wc:Nat}{sa wa:Option Addr}{kerf:Int}{kl:List Kd}{ws:List Int}{t:Tab}{fv o6:Value}{x:Nat×Nat}(hx:x.2<n)(B:BenchT H bb mb sa n c kerf wa wc kl ws t)
 (gl:H.get l=some (.loop [(3, .pointer (some ⟨p3,0,none⟩)),(4, .pointer (some ⟨p4,0,none⟩)),(5, .pointer (some ⟨p5,0,none⟩)),(6, .pointer (some ⟨p6,0,none⟩)),(15,fv)] [16] asgP0 bodyP0 0 .normal))
 (g3:H.get p3=some (.cells [.pointer (some ⟨bb,0,none⟩)] true 1))(g4:H.get p4=some (.cells [.map (some mb)] true 1))(g5:H.get p5=some (.cells [.int .i64 a, .int .i64 b] true 1))(g6:H.get p6=some (.cells [o6] true 1))(hp6:lo≤p6∧p6<N)(hlo:lo≤l∧l<N):
 FW T (.yield l) [nodeV x] H fun r H'=>(∀z∈H'.log,lo≤z∧z<N)∧(r= .ret (.bool true)∧((∀z,z<H.next→H'.get z=H.get z)∧H.next≤H'.next∧ws.getD x.2 0≠look t ((a:Int),(b:Int)))∨
  r= .ret (.bool false)∧l∈H'.log∧PX H l p6 (.loop [(3, .pointer (some ⟨p3,0,none⟩)),(4, .pointer (some ⟨p4,0,none⟩)),(5, .pointer (some ⟨p5,0,none⟩)),(6, .pointer (some ⟨p6,0,none⟩)),(15,fv)] [16] asgP0 bodyP0 2 .ret) (fun ns=>ns=[x]∧ws.getD x.2 0=look t ((a:Int),(b:Int))) H'):=by
 have hlen:ws.length=n:=by have:=B.hws.len;simp[ints]at this;omega
 have gb:=B.gb
 have gm:=B.gm
 rcases B.hws.inv with⟨_,_,h0,_⟩|⟨b0,o0,cap,hv,s,hcap⟩
 ·omega
 cases hv
 obtain⟨vs,own',t0,gw,gx⟩:=slice_elem1 s (ints_get (l:=ws) (i:=x.2) (by omega))
 clear s
 have n3:=ne_loop g3 gl
 have n4:=ne_loop g4 gl
 have n5:=ne_loop g5 gl
 have n6:=ne_loop g6 gl
 have nb:=ne_loop gb gl
 have nm:=ne_map gm gl
 have nw:=ne_loop gw gl
 have k3:=WF.get_lt hr.wf g3
 have k4:=WF.get_lt hr.wf g4
 have k5:=WF.get_lt hr.wf g5
 have k6:=WF.get_lt hr.wf g6
 have kb:=WF.get_lt hr.wf gb
 have km:=WF.get_lt hr.wf gm
 have kw:=WF.get_lt hr.wf gw
 have kl':=WF.get_lt hr.wf gl
 refine FW.yieldX F.toFnsV.p (R:=fun H'=>(∀z,z<H.next→H'.get z=H.get z)∧H.next≤H'.next∧ws.getD x.2 0≠look t ((a:Int),(b:Int))) gl rfl kl' hlo ?_
 obtain⟨x1,x2⟩:=x
 unfold asgP0 nodeV
 refine wE_region ?_;refine wO_val a_new ?_;refine yS ?_;refine wO_nil ?_
 refine y1 ?_
 refine⟨rfl,by(simp(disch:=first|omega|(simp only[z1,z2];omega))only[z3,z4,z5,z6,z7,z1,z2, *];exact rfl),?_⟩
 unfold bodyP0
 dsimp only at hx gx⊢
 generalize ws.getD x2 0=w1 at*
 generalize hw0:look t ((a:Int),(b:Int))=w0 at*
 refine wE_block ?_;refine wE_seq ?_;refine wE_draw ?_;refine qL ?_
 refine wD_quiet rfl rfl rfl (by exact rfl) (by exact rfl) (by exact rfl) (a_nilchk (by exact rfl)) ?_;refine qF ?_
 refine qL ?_
 refine qF ?_
 refine qL ?_
 refine wD_quiet rfl rfl rfl (by exact rfl) (by exact rfl) (by exact rfl) (a_iaddrS (by exact rfl) (by exact rfl) (by omega)) ?_
 refine wD_quiet rfl rfl rfl (by exact rfl) (by exact rfl) (by exact rfl) (a_load (by exact rfl) (by(simp(disch:=first|omega|(simp only[z1,z2];omega))only[z3,z4,z5,z6,z7,z1,z2, *];exact rfl)) (by assumption)) ?_
 refine qL ?_
 refine qN ?_
 refine wD_quiet rfl rfl rfl (by exact rfl) (by exact rfl) (by exact rfl) (a_lookup (x:=((a:Int),(b:Int))) (by exact rfl) (by exact rfl) (by(simp(disch:=first|omega|(simp only[z1,z2];omega))only[z3,z4,z5,z6,z7,z1,z2, *];exact rfl))) ?_
 rw[hw0]
 clear hw0
 by_cases hw:w1=w0
 ·have hwn:¬w1≠w0:=fun q=>q hw
  have hw':PLift (w1=w0):=⟨hw⟩
  refine wD_quiet rfl rfl rfl (by exact rfl) (by exact rfl) (by exact rfl) (a_num (by exact rfl) (by exact rfl) (by exact m_eqlT (by omega))) ?_;refine wD_nil ?_;refine y1 ?_;refine kS_n ?_;refine yY ?_;refine y4 ?_
  refine yN ?_
  refine WO.gen ?_
  intro hA hAe
  have A1:∀z,z<H.next→z≠l→hA.get z=H.get z:=fun z hz hne=>by rw[hAe];simp(disch:=first|omega|(simp only[z1,z2];omega))only[z5,z4]
  have A2:∃o,hA.get l=some o∧busy o=true:=⟨_,by rw[hAe];(simp(disch:=first|omega|(simp only[z1,z2];omega))only[z3,z4,z5,z6,z7,z1,z2, *];exact rfl),rfl⟩
  have A3:hA.get H.next=some (.cells [.int .u8 x1, .int .i64 x2] true 1):=by rw[hAe];(simp(disch:=first|omega|(simp only[z1,z2];omega))only[z3,z4,z5,z6,z7,z1,z2, *];exact rfl)
  have A5:hA.next=H.next+1:=by rw[hAe];rfl
  have A6:hA.log=[]:=by rw[hAe];simp(disch:=first|omega|(simp only[z1,z2];omega))only[Heap.log_wr_new,Heap.log_push];exact hr.log
  have A7:WF hA:=by rw[hAe];exact((hr.wf.push _).as (AS.wr _ _ _ _)).as (AS.wr _ _ _ _)
  clear hAe hw hwn gw gb gm g3 g4 g5
  refine yC ?_
  refine FW.al (joined0 F.toFnsJ (.of A7) (x1,x2)) (fun _ _ _ q=>q) ?_
  rintro _ h2 hx2 ⟨q,rfl,hq1,hq2,gq⟩
  have eq1:H.next+1≤q:=by have:({hA with log:=[]}:Heap).next=H.next+1:=A5;omega
  have B6:h2.get p6=some (.cells [o6] true 1):=(hx2.old _ (by omega)).trans ((A1 p6 k6 n6).trans g6)
  have B1:∀z,z<H.next→z≠l→h2.get z=H.get z:=fun z hz hne=>(hx2.old z (by omega)).trans (A1 z hz hne)
  obtain⟨o2,A2a,A2b⟩:=A2
  have B2:h2.get l=some o2:=(hx2.old l (by omega)).trans A2a
  have hl2:h2.log=[]:=hx2.log.trans A6
  have hn2:=hx2.next
  refine yS ?_;refine y3 ?_;refine wE_ret ?_;refine kB_r ?_
  refine⟨⟨o2,(z5 (Ne.symm n6)).trans B2,A2b⟩,fun z hz=> ?_, .inr ⟨rfl,fun h5 hn hag hl5=>⟨fun z hz hne hne6=>(hag z hne).trans ((z5 hne6).trans (B1 z hz hne)),by rw[hn];show H.next≤h2.next;omega,hl5,?_⟩⟩⟩
  ·rcases wr_log_old hz with rfl|hz
   ·exact hp6
   ·rw[hl2]at hz;cases hz
  ·refine⟨[(x1,x2)],q,1,⟨rfl,hw'.down⟩,by omega,by rw[hn];exact hq2,⟨Nat.le_refl _, .inr (by omega)⟩,?_,?_⟩
   ·exact(hag p6 n6).trans (Heap.get_wr_new B6)
   ·exact(hag q (by omega)).trans ((z5 (by omega)).trans gq)
 ·refine wD_quiet rfl rfl rfl (by exact rfl) (by exact rfl) (by exact rfl) (a_num (by exact rfl) (by exact rfl) (by exact m_eqlF (by omega))) ?_;refine wD_nil ?_;refine y1 ?_;refine kS_n ?_;refine yX ?_;refine wE_skip ?_;refine kB_n ?_
  refine⟨⟨_,by(simp(disch:=first|omega|(simp only[z1,z2];omega))only[z3,z4,z5,z6,z7,z1,z2, *];exact rfl),rfl⟩,fun z hz=> ?_, .inl ⟨rfl,fun h5 hn hag hl5=>⟨fun z hz=> ?_,hn,hw⟩⟩⟩
  ·simp(disch:=first|omega|(simp only[z1,z2];omega))only[Heap.log_wr_new,Heap.log_push]at hz
   rw[hr.log]at hz;cases hz
  ·by_cases hz2:z=l
   ·rw[hz2];exact hl5.trans gl.symm
   ·refine(hag z hz hz2).trans ?_
    simp(disch:=first|omega|(simp only[z1,z2];omega))only[z5,z4]
end Go.A.Pk
end
section
set_option maxRecDepth 100000
namespace Go.A.Pk
variable {T:Nat→Option AFunc}
theorem sv_mapP(m:Option Nat):sameV (.map m) (.map m)=true:=by simp[sameV,same1]
theorem WD.genP{base:Nat}{ops:List AOper}{bf:List Nat}{Q:Env→Heap→Prop}{is:List Nat}{rs:List Rec}{e:Env}{h:Heap}(hK:∀hA,hA=h→WD T base ops bf Q is rs e hA):WD T base ops bf Q is rs e h:=hK h rfl
set_option maxHeartbeats 16000000 in
theorem plan_cut(F:FnsPl T){H:Heap}(hr:Rdy H){lo N l p3 p4 p5 p6 bb mb a b n c wc:Nat}{sa wa:Option Addr}{kerf:Int}{kl:List Kd}{ws:List Int}{t:Tab}{fv o6:Value}{x:Nat×Nat}(hxm:x∈cutsL a b)(ha:1≤a∧a≤16)(hb:1≤b∧b≤16)(hk:0≤kerf∧kerf≤100)
 (hT:∀q, -1000000000000≤look t q∧look t q≤1000000000000)(B:BenchT H bb mb sa n c kerf wa wc kl ws t)
 (gl:H.get l=some (.loop [(3, .pointer (some ⟨p3,0,none⟩)),(4, .pointer (some ⟨p4,0,none⟩)),(5, .pointer (some ⟨p5,0,none⟩)),(6, .pointer (some ⟨p6,0,none⟩)),(37,fv)] [38] asgP1 bodyP1 0 .normal))
 (g3:H.get p3=some (.cells [.pointer (some ⟨bb,0,none⟩)] true 1))(g4:H.get p4=some (.cells [.map (some mb)] true 1))(g5:H.get p5=some (.cells [.int .i64 a, .int .i64 b] true 1))(g6:H.get p6=some (.cells [o6] true 1))(hp6:lo≤p6∧p6<N)(hlo:lo≤l∧l<N)
 (IH:∀(p:Int×Int) (h:Heap),sz p<a+b→p.1≤16→p.2≤16→Rdy h→BenchT h bb mb sa n c kerf wa wc kl ws t→Al T 84 [.pointer (some ⟨bb,0,none⟩), .map (some mb),pairV p] h (PlanQ kerf ws kl t p)):
 FW T (.yield l) [nodeV x] H fun r H'=>(∀z∈H'.log,lo≤z∧z<N)∧(r= .ret (.bool true)∧((∀z,z<H.next→H'.get z=H.get z)∧H.next≤H'.next∧look t (oneB x a b)+look t (twoB kerf x a b)≠look t ((a:Int),(b:Int)))∨
  r= .ret (.bool false)∧l∈H'.log∧PX H l p6 (.loop [(3, .pointer (some ⟨p3,0,none⟩)),(4, .pointer (some ⟨p4,0,none⟩)),(5, .pointer (some ⟨p5,0,none⟩)),(6, .pointer (some ⟨p6,0,none⟩)),(37,fv)] [38] asgP1 bodyP1 2 .ret)
   (fun ns=>∃n1 n2,look t (oneB x a b)+look t (twoB kerf x a b)=look t ((a:Int),(b:Int))∧PlanR kerf ws kl t (oneB x a b) n1∧PlanR kerf ws kl t (twoB kerf x a b) n2∧ns=x::(n1++n2)) H'):=by
 have gb:=B.gb
 have gm:=B.gm
 have n3:=ne_loop g3 gl
 have n4:=ne_loop g4 gl
 have n5:=ne_loop g5 gl
 have n6:=ne_loop g6 gl
 have nb:=ne_loop gb gl
 have nm:=ne_map gm gl
 have k3:=WF.get_lt hr.wf g3
 have k4:=WF.get_lt hr.wf g4
 have k5:=WF.get_lt hr.wf g5
 have k6:=WF.get_lt hr.wf g6
 have kb:=WF.get_lt hr.wf gb
 have km:=WF.get_lt hr.wf gm
 have kl':=WF.get_lt hr.wf gl
 have hx34:(x.1=3∨x.1=4)∧x.2<1000:=by
  rcases cuts_of hxm with⟨e,_,_⟩|⟨e,_,_⟩
  ·exact⟨.inl e,by omega⟩
  ·exact⟨.inr e,by omega⟩
 have hsz:=cut_lt hk.1 hxm
 have har:=cut_area hk.1 ha.1 hb.1 hxm
 have hab:a*b≤256:=Nat.le_trans (Nat.mul_le_mul ha.2 hb.2) (by omega)
 have hone:1≤(oneB x a b).1∧1≤(oneB x a b).2∧(oneB x a b).1≤16∧(oneB x a b).2≤16∧(twoB kerf x a b).1≤16∧(twoB kerf x a b).2≤16:=by
  rcases cuts_of hxm with⟨e3,_,_⟩|⟨e4,_,_⟩
  ·simp only[oneB,twoB,e3,if_true];omega
  ·have q3:¬x.1=3:=by omega
   simp only[oneB,twoB,if_neg q3];omega
 refine FW.yieldX F.toFnsV.p (R:=fun H'=>(∀z,z<H.next→H'.get z=H.get z)∧H.next≤H'.next∧look t (oneB x a b)+look t (twoB kerf x a b)≠look t ((a:Int),(b:Int))) gl rfl kl' hlo ?_
 obtain⟨x1,x2⟩:=x
 have C106:=fun {h:Heap} (hr:Rdy h) (hb':h.get bb=some (.cells [.slice sa n c, .int .i64 kerf, .slice wa n wc] true 1)) (hlt:bb<h.next)=>split106 F.toFnsV.p F.f106 hr hb' hlt hk hx34.1 hx34.2 (a:=a) (b:=b) (by omega) (by omega)
 unfold asgP1 nodeV
 unfold nodeV boardV at C106
 refine wE_region ?_;refine wO_val a_new ?_;refine yS ?_;refine wO_nil ?_
 refine y1 ?_
 refine⟨rfl,by(simp(disch:=first|omega|(simp only[z1,z2];omega))only[z3,z4,z5,z6,z7,z1,z2, *];exact rfl),?_⟩
 unfold bodyP1
 generalize oneB (x1,x2) a b=q1 at*
 generalize twoB kerf (x1,x2) a b=q2 at*
 have hw1:=hT q1
 have hw2:=hT q2
 refine wE_block ?_;refine y4 ?_;refine yL ?_
 refine yN ?_
 refine yN ?_
 refine WO.gen ?_
 intro hA hAe
 have A1:∀z,z<H.next→z≠l→hA.get z=H.get z:=fun z hz hne=>by rw[hAe];simp(disch:=first|omega|(simp only[z1,z2];omega))only[z5,z4]
 have A2:hA.get l=some (.loop [(3, .pointer (some ⟨p3,0,none⟩)),(4, .pointer (some ⟨p4,0,none⟩)),(5, .pointer (some ⟨p5,0,none⟩)),(6, .pointer (some ⟨p6,0,none⟩)),(37,fv)] [38] asgP1 bodyP1 1 .normal):=by rw[hAe];(simp(disch:=first|omega|(simp only[z1,z2];omega))only[z3,z4,z5,z6,z7,z1,z2, *];exact rfl)
 have A3:hA.get H.next=some (.cells [.int .u8 x1, .int .i64 x2] true 1):=by rw[hAe];(simp(disch:=first|omega|(simp only[z1,z2];omega))only[z3,z4,z5,z6,z7,z1,z2, *];exact rfl)
 have A5:hA.next=H.next+1:=by rw[hAe];rfl
 have A6:hA.log=[]:=by rw[hAe];simp(disch:=first|omega|(simp only[z1,z2];omega))only[Heap.log_wr_new,Heap.log_push];exact hr.log
 have A7:WF hA:=by rw[hAe];exact((hr.wf.push _).as (AS.wr _ _ _ _)).as (AS.wr _ _ _ _)
 clear hAe
 refine yC ?_
 refine FW.pu (C106 (.of A7) ((A1 bb kb nb).trans gb) (by show bb<hA.next;omega)) ?_
 clear C106
 have D3:=(A1 p3 k3 n3).trans g3
 have D4:=(A1 p4 k4 n4).trans g4
 have D5:=(A1 p5 k5 n5).trans g5
 have D6:=(A1 p6 k6 n6).trans g6
 have Dm:=(A1 mb km nm).trans gm
 have BA:BenchT hA bb mb sa n c kerf wa wc kl ws t:=B.keep hr.wf (by omega) fun z hz hc=>A1 z hz (fun e=>by subst e;rcases hc with⟨_,_,_,h⟩|⟨_,h⟩<;>(rw[gl]at h;cases h))
 unfold pairV
 obtain⟨q11,q12⟩:=q1
 obtain⟨q21,q22⟩:=q2
 dsimp only at hone
 refine yM ?_;refine yE ?_;refine yE ?_;refine wO_val a_new ?_;refine wO_val a_new ?_
 refine yS ?_
 refine yS ?_;refine y3 ?_;refine wE_seq ?_;refine wE_draw ?_
 refine qL ?_
 refine qN ?_
 refine wD_quiet rfl rfl rfl (by exact rfl) (by exact rfl) (by exact rfl) (a_lookup (x:=(q11,q12)) (by exact rfl) (by exact rfl) (by(simp(disch:=first|omega|(simp only[z1,z2];omega))only[z3,z4,z5,z6,z7,z1,z2, *];exact rfl))) ?_
 refine qL ?_
 refine qN ?_
 refine wD_quiet rfl rfl rfl (by exact rfl) (by exact rfl) (by exact rfl) (a_lookup (x:=(q21,q22)) (by exact rfl) (by exact rfl) (by(simp(disch:=first|omega|(simp only[z1,z2];omega))only[z3,z4,z5,z6,z7,z1,z2, *];exact rfl))) ?_
 refine wD_quiet rfl rfl rfl (by exact rfl) (by exact rfl) (by exact rfl) (a_num (by exact rfl) (by exact rfl) (by exact m_add (wrapA_i64 (by omega) (by omega)))) ?_
 refine qL ?_
 refine qN ?_
 refine wD_quiet rfl rfl rfl (by exact rfl) (by exact rfl) (by exact rfl) (a_lookup (x:=((a:Int),(b:Int))) (by exact rfl) (by exact rfl) (by(simp(disch:=first|omega|(simp only[z1,z2];omega))only[z3,z4,z5,z6,z7,z1,z2, *];exact rfl))) ?_
 have hD:∀n1 n2,PlanR kerf ws kl t (q11,q12) n1→PlanR kerf ws kl t (q21,q22) n2→0<n1.length∧n1.length+n2.length<100000:=fun n1 n2 r1 r2=>by
  have z1:=plan_len hk.1 r1
  have z2:=plan_len hk.1 r2
  have z3:=plan_pos r1 ⟨hone.1,hone.2.1⟩
  exact⟨z3,by omega⟩
 generalize hl1:look t (q11,q12)=w1 at*
 generalize hl2:look t (q21,q22)=w2 at*
 generalize hl0:look t ((a:Int),(b:Int))=w0 at*
 clear hl1 hl2 hl0
 by_cases hw:w1+w2=w0
 ·have hw':PLift (w1+w2=w0):=⟨hw⟩
  refine wD_quiet rfl rfl rfl (by exact rfl) (by exact rfl) (by exact rfl) (a_num (by exact rfl) (by exact rfl) (by exact m_eqlT (by omega))) ?_;refine wD_nil ?_;refine y1 ?_;refine kS_n ?_;refine yY ?_;refine wE_seq ?_;refine wE_draw ?_
  refine qN ?_
  refine qL ?_
  refine qL ?_
  refine qN ?_
  refine qL ?_
  refine qL ?_
  refine qN ?_
  refine WD.genP ?_
  intro hB hBe
  have hxB:Ext hA hB:=by rw[hBe];exact((((Ext.refl hA).push _).push _).wr (by omega) (by omega)).wr (by(simp only[z1,z2];omega)) (by(simp only[z1,z2];omega))
  have E9:hB.get hA.next=some (.cells [.int .i64 q11, .int .i64 q12] true 1):=by rw[hBe];(simp(disch:=first|omega|(simp only[z1,z2];omega)|(simp only[z1,z2];done)|fail)only[z8,z4,z5,z9,z7,z1,z2, *];exact rfl)
  have E10:hB.get (hA.next+1)=some (.cells [.int .i64 q21, .int .i64 q22] true 1):=by rw[hBe];(simp(disch:=first|omega|(simp only[z1,z2];omega)|(simp only[z1,z2];done)|fail)only[z8,z4,z5,z9,z7,z1,z2, *];exact rfl)
  have E5:hB.next=hA.next+2:=by rw[hBe];rfl
  clear hBe hw
  have wB:=hxB.wf A7
  have E3:=(hxB.old _ (by omega)).trans D3
  have E4:=(hxB.old _ (by omega)).trans D4
  have E6:=(hxB.old _ (by omega)).trans D6
  have E8:=(hxB.old _ (by omega)).trans A3
  have E2:=(hxB.old _ (by omega)).trans A2
  have BB:=BA.ext A7 hxB
  have hoB:∀z,z<H.next→z≠l→hB.get z=H.get z:=fun z hz hne=>(hxB.old z (by omega)).trans (A1 z hz hne)
  have hlB:hB.log=[]:=hxB.log.trans A6
  clear D3 D4 D5 D6 Dm A1 A2 A3 A6 gb gm g3 g4 g5 g6 BA hxB
  refine qC ?_
  refine FW.alD (IH (q11,q12) _ hsz.1 hone.2.2.1 hone.2.2.2.1 (.of wB) (BB.keep wB (Nat.le_refl _) fun _ _ _=>rfl)) (fun v h' m q=>PlanQ.log v h' m q) ?_
  rintro _ h2 hx2 ⟨ns1,a1,c1,R1,rfl,s1,_⟩
  have w2':=hx2.wf wB
  have G3:=(hx2.old _ (by omega)).trans E3
  have G4:=(hx2.old _ (by omega)).trans E4
  have G6:=(hx2.old _ (by omega)).trans E6
  have G8:=(hx2.old _ (by omega)).trans E8
  have G10:=(hx2.old _ (by omega)).trans E10
  have hn2:=hx2.next
  refine⟨_,by apply ra_keepC rfl (rq_quiet rfl (a_loadN (by exact rfl) (by assumption) (by exact rfl) (by exact rfl)) (by exact sv_agg (by refine sl_cons (s1_int _ _) ?_;refine sl_cons (s1_int _ _) ?_;exact sl_nil))) rfl;apply ra_keepC rfl (rq_quiet rfl (a_load (by exact rfl) (by assumption) (by exact rfl)) (by exact sv_mapP _)) rfl;apply ra_keepC rfl (rq_quiet rfl (a_load (by exact rfl) (by assumption) (by exact rfl)) (by exact sv_ptr _)) rfl;apply ra_dropC rfl;apply ra_dropC rfl;apply ra_dropC rfl;apply ra_keepC rfl (rq_quiet rfl (a_loadN (by exact rfl) (by assumption) (by exact rfl) (by exact rfl)) (by exact sv_agg (by refine sl_cons (s1_int _ _) ?_;refine sl_cons (s1_int _ _) ?_;exact sl_nil))) rfl;exact ra_nil,?_⟩
  skip
  refine qC ?_
  refine FW.alD (IH (q21,q22) _ hsz.2 hone.2.2.2.2.1 hone.2.2.2.2.2 (.of w2') ((BB.ext wB hx2).keep w2' (Nat.le_refl _) fun _ _ _=>rfl)) (fun v h' m q=>PlanQ.log v h' m q) ?_
  rintro _ h3 hx3 ⟨ns2,a2,c2,R2,rfl,s2,_⟩
  have w3:=hx3.wf w2'
  have J8:=(hx3.old _ (by omega)).trans G8
  have J6:=(hx3.old _ (by omega)).trans G6
  have hn3:=hx3.next
  have hpos:=hD _ _ R1 R2
  clear E3 E4 E6 E8 E9 E10 G3 G4 G6 G8 G10 IH hT
  refine⟨_,by apply ra_dropC rfl;apply ra_dropC rfl;apply ra_dropC rfl;apply ra_keepC rfl (rq_quiet rfl (a_loadN (by exact rfl) (by assumption) (by exact rfl) (by exact rfl)) (by exact sv_agg (by refine sl_cons (s1_int _ _) ?_;refine sl_cons (s1_int _ _) ?_;exact sl_nil))) rfl;exact ra_nil,?_⟩
  refine wD_new rfl rfl rfl (by exact rfl) (by exact rfl) (by exact rfl) (a_bslice (by exact rfl) (by exact rfl)) (by refine rs_cons (rq_quiet rfl (a_loadN (by exact rfl) (by(simp(disch:=first|omega|(simp only[z1,z2];omega))only[z3,z4,z5,z6,z7,z1,z2, *];exact rfl)) (by exact rfl) (by exact rfl)) (by exact sv_agg (by refine sl_cons (s1_int _ _) ?_;refine sl_cons (s1_int _ _) ?_;exact sl_nil))) ?_;exact rs_nil) ?_
  refine qC ?_
  have hx4:Ext h3 (h3.push (.cells [.slice a1 ns1.length c1, .slice a2 ns2.length c2] true 1)):=(Ext.refl h3).push _
  refine FW.alD (joined2 F.toFnsJ (.of (hx4.wf w3)) (x1,x2) (z3 _ _) (((s1.ext hx3).ext hx4).log []) ((s2.ext hx4).log []) (ones_ncs _) (ones_ncs _) hpos.1 hpos.2) (fun _ _ _ q=>q) ?_
  rintro _ h4 hx5 ⟨q,rfl,hq1,hq2,gq⟩
  have hn4:=(hx4.trans hx5).next
  have hq1':h3.next+1≤q:=hq1
  have K6:=((hx4.trans hx5).old _ (by omega)).trans J6
  have hoD:∀z,z<hB.next→h4.get z=hB.get z:=fun z hz=>((hx4.trans hx5).old z (by omega)).trans ((hx3.old z (by omega)).trans (hx2.old z hz))
  have hl4:h4.log=[]:=(hx4.trans hx5).log.trans (hx3.log.trans (hx2.log.trans hlB))
  refine⟨_,by apply ra_dropC rfl;apply ra_dropC rfl;exact ra_nil,?_⟩
  skip
  refine wD_storeA (ws:=[.slice (some ⟨q,0,none⟩) (1+(ns1.length+ns2.length)) UNK]) rfl rfl rfl (by exact rfl) (by exact rfl) (by exact rfl) K6 (by exact rfl) (by exact rfl) (by omega) (by exact ra_nil) ?_
  refine wD_nil ?_;refine y1 ?_;refine kS_n ?_;refine wE_ret ?_;refine kB_r ?_
  refine⟨⟨_,(z5 (Ne.symm n6)).trans ((hoD l (by omega)).trans E2),rfl⟩,fun z hz=> ?_, .inr ⟨rfl,fun h5 hn hag hl5=>⟨fun z hz hne hne6=>(hag z hne).trans ((z5 hne6).trans ((hoD z (by omega)).trans (hoB z hz hne))),by rw[hn];show H.next≤h4.next;omega,hl5,?_⟩⟩⟩
  ·rcases wr_log_old hz with rfl|hz
   ·exact hp6
   ·rw[hl4]at hz;cases hz
  ·have el:1+(ns1.length+ns2.length)=((x1,x2)::(ns1++ns2)).length:=by simp;omega
   have ec:nd (x1,x2)++(ncs ns1++ncs ns2)=ncs ((x1,x2)::(ns1++ns2)):=by rw[ncs,ncs_app]
   rw[el]at hag
   rw[ec]at gq
   refine⟨(x1,x2)::(ns1++ns2),q,UNK,⟨ns1,ns2,hw'.down,R1,R2,rfl⟩,by omega,by rw[hn];exact hq2,⟨by rw[←el];unfold UNK;omega, .inl rfl⟩,?_,?_⟩
   ·exact(hag p6 n6).trans (Heap.get_wr_new K6)
   ·exact(hag q (by omega)).trans ((z5 (by omega)).trans gq)
 ·refine wD_quiet rfl rfl rfl (by exact rfl) (by exact rfl) (by exact rfl) (a_num (by exact rfl) (by exact rfl) (by exact m_eqlF (by omega))) ?_;refine wD_nil ?_;refine y1 ?_;refine kS_n ?_;refine yX ?_;refine wE_skip ?_;refine kB_n ?_
  refine⟨⟨_,by(simp(disch:=first|omega|(simp only[z1,z2];omega))only[z3,z4,z5,z6,z7,z1,z2, *];exact rfl),rfl⟩,fun z hz=> ?_, .inl ⟨rfl,fun h5 hn hag hl5=>⟨fun z hz=> ?_,hn,hw⟩⟩⟩
  ·simp(disch:=first|omega|(simp only[z1,z2];omega))only[Heap.log_wr_new,Heap.log_push]at hz
   rw[A6]at hz;cases hz
  ·by_cases hz2:z=l
   ·rw[hz2];exact hl5.trans gl.symm
   ·refine(hag z hz hz2).trans (Eq.trans ?_ (A1 z hz hz2))
    simp(disch:=first|omega|(simp only[z1,z2];omega))only[z5,z4]
end Go.A.Pk
end
section
set_option maxRecDepth 100000
namespace Go.A.Pk
variable {T:Nat→Option AFunc}
def NoughtP(x:Int×Int):Prop:=x.1<1∨x.2<1
instance(x:Int×Int):Decidable (NoughtP x):=by unfold NoughtP;infer_instance
theorem nothing125p(hp:primAS T)(hf:T 125=some f125){h:Heap}(hr:Rdy h)(x:Int×Int):Pu T 125 [pairV x] h (.bool (decide (NoughtP x))):=by
 refine .of hp hf hr rfl ?_
 by_cases c1:x.1<1
 ·rw[decide_eq_true (show NoughtP x from .inl c1)]
  unfold pairV
  refine y4 ?_;refine yB ?_;refine yM ?_;refine y3 ?_;refine y4 ?_;refine wO_val (a_iaddrA (i:=0) (by exact rfl) (by exact rfl) (by omega)) ?_
  refine yL ?_;refine yt ?_
  refine yM ?_;refine yP ?_;refine yP ?_;refine yP ?_;refine yT ?_;refine yM ?_;refine y3 ?_;refine wE_ret ?_
  exact endP_ret hr.log rfl rfl
 ·by_cases c2:x.2<1
  ·rw[decide_eq_true (show NoughtP x from .inr c2)]
   unfold pairV
   refine y4 ?_;refine yB ?_;refine yM ?_;refine y3 ?_;refine y4 ?_;refine wO_val (a_iaddrA (i:=0) (by exact rfl) (by exact rfl) (by omega)) ?_
   refine yL ?_;refine yf ?_
   refine yM ?_;refine yO ?_;refine wO_val (a_iaddrA (i:=1) (by exact rfl) (by exact rfl) (by omega)) ?_;refine yO ?_
   refine yL ?_;refine yO ?_;refine yt ?_
   refine yU ?_;refine yM ?_;refine y3 ?_;refine wE_ret ?_
   exact endP_ret hr.log rfl rfl
  ·rw[decide_eq_false (show¬NoughtP x from fun q=>q.elim c1 c2)]
   unfold pairV
   refine y4 ?_;refine yB ?_;refine yM ?_;refine y3 ?_;refine y4 ?_;refine wO_val (a_iaddrA (i:=0) (by exact rfl) (by exact rfl) (by omega)) ?_
   refine yL ?_;refine yf ?_
   refine yM ?_;refine yO ?_;refine wO_val (a_iaddrA (i:=1) (by exact rfl) (by exact rfl) (by omega)) ?_;refine yO ?_
   refine yL ?_;refine yO ?_;refine yf ?_
   refine yU ?_;refine yM ?_;refine y3 ?_;refine wE_ret ?_
   exact endP_ret hr.log rfl rfl
theorem PlanQ.gc{kerf:Int}{ws:List Int}{kl:List Kd}{t:Tab}{p:Int×Int}{h:Heap}(v:Value)(h1:Heap)(hv:noRef v=true)(q:PlanQ kerf ws kl t p v h1):PlanQ kerf ws kl t p v h:=by
 obtain⟨ns,a,c,R,rfl,s,u⟩:=q
 have hu:U2 h (.slice a ns.length c):=fun b o n e=>by cases e;simp[noRef,flatL,flat,scalL,scal,scal1]at hv
 refine⟨ns,a,c,R,rfl,?_,hu,u.2⟩
 clear u
 generalize ns.length=n at*
 generalize ncs ns=cs at*
 cases s with
 |nil=>exact .nil
 |mem s _=>simp[noRef,flatL,flat,scalL,scal,scal1]at hv
theorem PX.log{H:Heap}{l p6:Nat}{L2:AObj}{D:List (Nat×Nat)→Prop}{H':Heap}(m:List Nat)(p:PX H l p6 L2 D H'):PX H l p6 L2 D {H' with log:=m}:=⟨p.old,p.nx,p.loop,p.out⟩
theorem PX.up{H H0:Heap}{l p6:Nat}{L2:AObj}{D D':List (Nat×Nat)→Prop}{H':Heap}(p:PX H l p6 L2 D H')(hn:H0.next≤H.next)(ho:∀z,z<H0.next→z≠l→z≠p6→H.get z=H0.get z)(hD:∀ns,D ns→D' ns):PX H0 l p6 L2 D' H':=by
 obtain⟨ns,q,c,d,h1,h2,h3,h4,h5⟩:=p.out
 exact⟨fun z hz h6 h7=>(p.old z (by omega) h6 h7).trans (ho z hz h6 h7),Nat.le_trans hn p.nx,p.loop,ns,q,c,hD ns d,by omega,h2,h3,h4,h5⟩
def tailPl:ACode:=cR (cR (cR (cR (codeOf f84))))
theorem plan_tail(F:FnsPl T){base p3 p4 p5 p6 a b:Nat}{H:Heap}{kerf:Int}{ws:List Int}{kl:List Kd}{t:Tab}{rest:Env}{o6:Value}(hw:WF H)(hlog:H.log=[])(hb6:base≤p6)(hbase:base≤H.next)(g6:H.get p6=some (.cells [o6] true 1))(hR:PlanR kerf ws kl t ((a:Int),(b:Int)) [(0,0)]):
 WE T base none tailPl (endA [(6,some none)] (PlanQ kerf ws kl t ((a:Int),(b:Int)))) ((3, .pointer (some ⟨p3,0,none⟩))::(4, .pointer (some ⟨p4,0,none⟩))::(5, .pointer (some ⟨p5,0,none⟩))::(6, .pointer (some ⟨p6,0,none⟩))::rest) [] H:=by
 have k6:=WF.get_lt hw g6
 unfold tailPl
 simp only[cR,codeOf,f84]
 refine y4 ?_;refine wO_val (a_build (by exact rfl)) ?_
 refine yC ?_
 refine FW.al (joined0 F.toFnsJ (.of hw) (0,0)) (fun _ _ _ q=>q) ?_
 rintro _ h2 hx2 ⟨q,rfl,hq1,hq2,gq⟩
 have B6:=(hx2.old p6 k6).trans g6
 have hq1':H.next≤q:=hq1
 refine yS ?_;refine y3 ?_;refine wE_ret ?_
 refine endA_ret (vs:=[.slice (some ⟨q,0,none⟩) 1 1]) ((Heap.log_wr_new hb6).trans (hx2.log.trans hlog)) (res_cell (b:=p6) rfl (Heap.get_wr_new B6) rfl res_nil) ⟨[(0,0)],_,_,hR,rfl, .mem ⟨hq2,⟨_,_,_,(z5 (by omega)).trans gq,rfl⟩,rfl⟩ (Nat.le_refl _),(fun b o n e=>by cases e), .inr (by omega)⟩
set_option maxHeartbeats 16000000 in
theorem plan84(F:FnsPl T){bb mb n c wc:Nat}{sa wa:Option Addr}{kerf:Int}{kl:List Kd}{ws:List Int}{t:Tab}(hk:0≤kerf∧kerf≤100)(hn:n<1000)(hT:∀q, -1000000000000≤look t q∧look t q≤1000000000000):
 ∀(m:Nat) (p:Int×Int) (h:Heap),sz p≤m→p.1≤16→p.2≤16→Rdy h→BenchT h bb mb sa n c kerf wa wc kl ws t→Al T 84 [.pointer (some ⟨bb,0,none⟩), .map (some mb),pairV p] h (PlanQ kerf ws kl t p):=by
 intro m
 induction m with
 |zero=>
  intro p h hs _ _ hr B
  have hno:NoughtP p:=by unfold sz at hs;unfold NoughtP;omega
  refine .of F.toFnsV.p F.f84 hr PlanQ.gc ?_
  have hx:Ext h ((((h.push (.cells [.pointer (some ⟨bb,0,none⟩)] true 1)).push (.cells [.map (some mb)] true 1)).push (.cells [.int .i64 p.1, .int .i64 p.2] true 1)).push (.cells [.slice none 0 0] true 1)):=((((Ext.refl h).push _).push _).push _).push _
  have C:=nothing125p F.toFnsV.p F.f125 (.of (hx.wf hr.wf)) p
  rw[decide_eq_true hno]at C
  unfold pairV at C⊢
  refine y4 ?_;refine yB ?_;refine yB ?_;refine yB ?_;refine wO_val a_new ?_;refine y3 ?_;refine wE_seq ?_;refine y4 ?_;refine yN ?_
  refine yC ?_
  refine FW.pu C ?_
  refine y3 ?_;refine yY ?_;refine y4 ?_
  refine yS ?_;refine y3 ?_;refine wE_ret ?_;refine kS_r ?_
  refine endA_ret (vs:=[.slice none 0 0]) ((Heap.log_wr_new (by(simp only[z1,z2];omega))).trans (hx.log.trans hr.log)) (res_cell (b:=h.next+3) rfl (by(simp(disch:=first|omega|(simp only[z1,z2];omega)|(simp only[z1,z2];done)|fail)only[z8,z4,z5,z9,z7,z1,z2, *];exact rfl)) rfl res_nil) ⟨[],none,0, .none (by unfold NoughtP at hno;omega),rfl, .nil,(fun _ _ _ e=>by cases e), .inr (by omega)⟩
 |succ m ih=>
  intro p h hs hp1 hp2 hr B
  refine .of F.toFnsV.p F.f84 hr PlanQ.gc ?_
  have hx:Ext h ((((h.push (.cells [.pointer (some ⟨bb,0,none⟩)] true 1)).push (.cells [.map (some mb)] true 1)).push (.cells [.int .i64 p.1, .int .i64 p.2] true 1)).push (.cells [.slice none 0 0] true 1)):=((((Ext.refl h).push _).push _).push _).push _
  have C:=nothing125p F.toFnsV.p F.f125 (.of (hx.wf hr.wf)) p
  by_cases hno:NoughtP p
  ·rw[decide_eq_true hno]at C
   unfold pairV at C⊢
   refine y4 ?_;refine yB ?_;refine yB ?_;refine yB ?_;refine wO_val a_new ?_;refine y3 ?_;refine wE_seq ?_;refine y4 ?_;refine yN ?_
   refine yC ?_
   refine FW.pu C ?_
   refine y3 ?_;refine yY ?_;refine y4 ?_
   refine yS ?_;refine y3 ?_;refine wE_ret ?_;refine kS_r ?_
   refine endA_ret (vs:=[.slice none 0 0]) ((Heap.log_wr_new (by(simp only[z1,z2];omega))).trans (hx.log.trans hr.log)) (res_cell (b:=h.next+3) rfl (by(simp(disch:=first|omega|(simp only[z1,z2];omega)|(simp only[z1,z2];done)|fail)only[z8,z4,z5,z9,z7,z1,z2, *];exact rfl)) rfl res_nil) ⟨[],none,0, .none (by unfold NoughtP at hno;omega),rfl, .nil,(fun _ _ _ e=>by cases e), .inr (by omega)⟩
  ·rw[decide_eq_false hno]at C
   obtain⟨pa,pb⟩:=p
   dsimp only at hp1 hp2
   have hno':1≤pa∧1≤pb:=by unfold NoughtP at hno;dsimp only at hno;omega
   obtain⟨a,rfl⟩:=Int.eq_ofNat_of_zero_le (show 0≤pa by omega)
   obtain⟨b,rfl⟩:=Int.eq_ofNat_of_zero_le (show 0≤pb by omega)
   have hsab:a+b≤m+1:=by simpa[sz]using hs
   have hlk:kl.length=n:=by have:=B.hks.len;rw[kcs_length]at this;omega
   unfold pairV at C⊢
   dsimp only at hx C⊢
   refine y4 ?_;refine yB ?_;refine yB ?_;refine yB ?_;refine wO_val a_new ?_;refine y3 ?_;refine wE_seq ?_;refine y4 ?_;refine yN ?_
   refine yC ?_
   refine FW.pu C ?_
   refine y3 ?_;refine yX ?_;refine wE_skip ?_;refine kS_n ?_;refine wE_seq ?_;refine y4 ?_
   refine yL ?_
   refine yN ?_
   refine yC ?_
   refine FW.al (leaves104 F.toFnsV.p F.toFnsV.f104 (.of (hx.wf hr.wf)) bb a b) (fun _ _ _ q=>q) ?_
   rintro _ h1 hx1 ⟨rfl,hn1,gp,gx⟩
   have en:({(((h.push (.cells [.pointer (some ⟨bb,0,none⟩)] true 1)).push (.cells [.map (some mb)] true 1)).push (.cells [.int .i64 (a:Int), .int .i64 (b:Int)] true 1)).push (.cells [.slice none 0 0] true 1)with log:=[]}:Heap).next=h.next+4:=rfl
   rw[en]at hn1 gp gx
   rw[en]
   have w1:=hx1.wf (hx.wf hr.wf)
   have hx01:=hx.trans hx1
   have g3:h1.get h.next=some (.cells [.pointer (some ⟨bb,0,none⟩)] true 1):=by rw[hx1.old _ (by(simp only[z1,z2];omega))];(simp(disch:=first|omega|(simp only[z1,z2];omega))only[z3,z4,z5,z6,z7,z1,z2, *];exact rfl)
   have g4:h1.get (h.next+1)=some (.cells [.map (some mb)] true 1):=by rw[hx1.old _ (by(simp only[z1,z2];omega))];(simp(disch:=first|omega|(simp only[z1,z2];omega)|(simp only[z1,z2];done)|fail)only[z8,z4,z5,z9,z7,z1,z2, *];exact rfl)
   have g5:h1.get (h.next+2)=some (.cells [.int .i64 a, .int .i64 b] true 1):=by rw[hx1.old _ (by(simp only[z1,z2];omega))];(simp(disch:=first|omega|(simp only[z1,z2];omega)|(simp only[z1,z2];done)|fail)only[z8,z4,z5,z9,z7,z1,z2, *];exact rfl)
   have g6:h1.get (h.next+3)=some (.cells [.slice none 0 0] true 1):=by rw[hx1.old _ (by(simp only[z1,z2];omega))];(simp(disch:=first|omega|(simp only[z1,z2];omega)|(simp only[z1,z2];done)|fail)only[z8,z4,z5,z9,z7,z1,z2, *];done)
   have B1:=B.ext hr.wf hx01
   have hlog1:h1.log=[]:=hx01.log.trans hr.log
   have hn1':h1.next=h.next+6:=hn1
   clear hx1 C hx
   refine y3 ?_;refine wE_block ?_
   refine wE_rangeX (lo:=h.next) (g:=140) (P:=fun H=>(∀z,z<h1.next→H.get z=h1.get z)∧H.get h1.next=some (.loop [(3, .pointer (some ⟨h.next,0,none⟩)),(4, .pointer (some ⟨h.next+1,0,none⟩)),(5, .pointer (some ⟨h.next+2,0,none⟩)),(6, .pointer (some ⟨h.next+3,0,none⟩)),(15,fn2 140 (h.next+4) (h.next+5))] [16] asgP0 bodyP0 0 .normal)∧h1.next<H.next∧∀x∈leavesL a b kl 0,ws.getD x.2 0≠look t ((a:Int),(b:Int)))
    (S:=PX (h1.push (.loop [(3, .pointer (some ⟨h.next,0,none⟩)),(4, .pointer (some ⟨h.next+1,0,none⟩)),(5, .pointer (some ⟨h.next+2,0,none⟩)),(6, .pointer (some ⟨h.next+3,0,none⟩)),(15,fn2 140 (h.next+4) (h.next+5))] [16] asgP0 bodyP0 0 .normal)) h1.next (h.next+3) (.loop [(3, .pointer (some ⟨h.next,0,none⟩)),(4, .pointer (some ⟨h.next+1,0,none⟩)),(5, .pointer (some ⟨h.next+2,0,none⟩)),(6, .pointer (some ⟨h.next+3,0,none⟩)),(15,fn2 140 (h.next+4) (h.next+5))] [16] asgP0 bodyP0 2 .ret) (PlanR kerf ws kl t ((a:Int),(b:Int))))
    (by rfl) (by rfl) (by rw[F.toFnsV.f140];rfl) (Nat.le_refl _) (by omega) hlog1 w1 ?_ (fun H q=>⟨_,_,_,_,q.2.1⟩) (fun H q=>⟨_,_,_,_,q.loop⟩) ?_ ?_
   ·refine leavesX140 F.toFnsV.p F.toFnsV.f140 (.of (w1.push _)) (pb:=h.next+4) (bb:=bb) (px:=h.next+5) (l':=h1.next) (N:=h1.next+1) (lo:=h.next) (a:=a) (b:=b) (n:=n) (c:=c) (sa:=sa) (l:=kl) (v1:= .int .i64 kerf) (v2:= .slice wa n wc)
     (P:=fun done H=>(∀z,z<h1.next→H.get z=h1.get z)∧H.get h1.next=some (.loop [(3, .pointer (some ⟨h.next,0,none⟩)),(4, .pointer (some ⟨h.next+1,0,none⟩)),(5, .pointer (some ⟨h.next+2,0,none⟩)),(6, .pointer (some ⟨h.next+3,0,none⟩)),(15,fn2 140 (h.next+4) (h.next+5))] [16] asgP0 bodyP0 0 .normal)∧h1.next<H.next∧∀x∈done,ws.getD x.2 0≠look t ((a:Int),(b:Int)))
     (Nat.le_refl _) (by show h.next≤h1.next+1;omega) hn (Nat.lt_succ_self _) ⟨fun done x H hxm hr' hN hP=> ?_,fun done H H' q hN' ha=>⟨fun z hz=>(ha z (by omega)).trans (q.1 z hz),(ha _ (Nat.lt_succ_self _)).trans q.2.1,by omega,q.2.2.2⟩,fun H m q=>q.log m,fun H q=>⟨_,_,_,_,q.loop⟩⟩
     ((z4 (by omega)).trans gp) ((z4 (WF.get_lt w1 B1.gb)).trans B1.gb) (fun d H q=>(B1.keep w1 (by omega) fun z hz _=>q.1 z hz).hks) (fun d H q=>(q.1 _ (by omega)).trans gx) ⟨fun z hz=>z4 hz,z3 _ _,Nat.lt_succ_self _,fun x hx=>by cases hx⟩
    obtain⟨q1,q2,q3,q4⟩:=hP
    refine FW.mono' (plan_leaf F hr' (lo:=h.next) (N:=h1.next+1) (x:=x) (by have:=leaves_idx x hxm;omega) (B1.keep w1 (by omega) fun z hz _=>q1 z hz) q2 ((q1 _ (by omega)).trans g3) ((q1 _ (by omega)).trans g4) ((q1 _ (by omega)).trans g5) ((q1 _ (by omega)).trans g6) (by omega) (by omega)) ?_
    rintro r H' ⟨zy1,zy2⟩
    refine⟨zy1,zy2.imp ?_ ?_⟩
    ·rintro⟨rfl,zy3,zy4,zy5⟩
     refine⟨rfl,fun z hz=>(zy3 z (by omega)).trans (q1 z hz),(zy3 _ q3).trans q2,by omega,fun y hy=> ?_⟩
     rcases List.mem_append.1 hy with hy|hy
     ·exact q4 y hy
     ·rw[List.mem_singleton.1 hy];exact zy5
    ·rintro⟨rfl,zy3,zy4⟩
     refine⟨rfl,zy3,zy4.up (by exact q3) (fun z hz hne _=> ?_) ?_⟩
     ·have hz':z<h1.next+1:=hz
      exact(q1 z (by omega)).trans (z4 (by omega)).symm
     ·rintro ns ⟨rfl,e⟩
      exact .leaf (by omega) (by omega) hxm e
   ·intro h2 h3 c1 c2 c3 c4 c5 ⟨q1,q2,q3,q4⟩
    have E:∀z,z<h1.next→h3.get z=h1.get z:=fun z hz=>(c5 z (by omega)).trans (q1 z hz)
    have e3:=(E _ (by omega)).trans g3
    have e4:=(E _ (by omega)).trans g4
    have e5:=(E _ (by omega)).trans g5
    have e6:=(E _ (by omega)).trans g6
    have B3:=B1.keep w1 (by omega) fun z hz _=>E z hz
    have gm3:=B3.gm
    clear g3 g4 g5 g6 gp gx q1 q2 q3 c4 c5 E
    by_cases hpos:0<look t ((a:Int),(b:Int))
    ·refine kB_n ?_;refine kS_n ?_;refine wE_seq ?_;refine y4 ?_;refine yL ?_;refine yN ?_
     refine wO_val (a_lookup (x:=((a:Int),(b:Int))) (by exact rfl) (by exact rfl) gm3) ?_
     refine yt ?_;refine y3 ?_;refine yY ?_;refine y4 ?_;refine yL ?_
     refine yN ?_
     refine yC ?_
     refine FW.al (cuts105 F.toFnsV.p F.toFnsV.f105 (.of c2) _ a b) (fun _ _ _ q=>q) ?_
     rintro _ h4 hx4 ⟨rfl,hn4,gx4⟩
     have w4:=hx4.wf c2
     have hn4':h4.next=h3.next+1:=hn4
     have hlog4:h4.log=[]:=hx4.log.trans c1
     have i3:=(hx4.old _ (by omega)).trans e3
     have i4:=(hx4.old _ (by omega)).trans e4
     have i5:=(hx4.old _ (by omega)).trans e5
     have i6:=(hx4.old _ (by omega)).trans e6
     have B4:=B3.ext c2 hx4
     clear e3 e4 e5 e6 gm3 hx4
     refine y3 ?_;refine wE_block ?_
     refine wE_rangeX (lo:=h.next) (g:=141) (P:=fun H=>(∀z,z<h4.next→H.get z=h4.get z)∧H.get h4.next=some (.loop [(3, .pointer (some ⟨h.next,0,none⟩)),(4, .pointer (some ⟨h.next+1,0,none⟩)),(5, .pointer (some ⟨h.next+2,0,none⟩)),(6, .pointer (some ⟨h.next+3,0,none⟩)),(37,fn1 141 h3.next)] [38] asgP1 bodyP1 0 .normal)∧h4.next<H.next∧∀x∈cutsL a b,look t (oneB x a b)+look t (twoB kerf x a b)≠look t ((a:Int),(b:Int)))
      (S:=PX (h4.push (.loop [(3, .pointer (some ⟨h.next,0,none⟩)),(4, .pointer (some ⟨h.next+1,0,none⟩)),(5, .pointer (some ⟨h.next+2,0,none⟩)),(6, .pointer (some ⟨h.next+3,0,none⟩)),(37,fn1 141 h3.next)] [38] asgP1 bodyP1 0 .normal)) h4.next (h.next+3) (.loop [(3, .pointer (some ⟨h.next,0,none⟩)),(4, .pointer (some ⟨h.next+1,0,none⟩)),(5, .pointer (some ⟨h.next+2,0,none⟩)),(6, .pointer (some ⟨h.next+3,0,none⟩)),(37,fn1 141 h3.next)] [38] asgP1 bodyP1 2 .ret) (PlanR kerf ws kl t ((a:Int),(b:Int))))
      (by rfl) (by rfl) (by rw[F.toFnsV.f141];rfl) (Nat.le_refl _) (by omega) hlog4 w4 ?_ (fun H q=>⟨_,_,_,_,q.2.1⟩) (fun H q=>⟨_,_,_,_,q.loop⟩) ?_ ?_
     ·refine cutsX141 F.toFnsV.p F.toFnsV.f141 (.of (w4.push _)) (bx:=h3.next) (l:=h4.next) (N:=h4.next+1) (lo:=h.next) (a:=a) (b:=b)
       (P:=fun done H=>(∀z,z<h4.next→H.get z=h4.get z)∧H.get h4.next=some (.loop [(3, .pointer (some ⟨h.next,0,none⟩)),(4, .pointer (some ⟨h.next+1,0,none⟩)),(5, .pointer (some ⟨h.next+2,0,none⟩)),(6, .pointer (some ⟨h.next+3,0,none⟩)),(37,fn1 141 h3.next)] [38] asgP1 bodyP1 0 .normal)∧h4.next<H.next∧∀x∈done,look t (oneB x a b)+look t (twoB kerf x a b)≠look t ((a:Int),(b:Int)))
       (Nat.le_refl _) (by show h.next≤h4.next+1;omega) (by omega) (by omega) (Nat.lt_succ_self _) ⟨fun done x H hxm hr' hN hP=> ?_,fun done H H' q hN' ha=>⟨fun z hz=>(ha z (by omega)).trans (q.1 z hz),(ha _ (Nat.lt_succ_self _)).trans q.2.1,by omega,q.2.2.2⟩,fun H m q=>q.log m,fun H q=>⟨_,_,_,_,q.loop⟩⟩
       (fun d H q=>(q.1 _ (by omega)).trans gx4) ⟨fun z hz=>z4 hz,z3 _ _,Nat.lt_succ_self _,fun x hx=>by cases hx⟩
      obtain⟨q1,q2,q3,q4⟩:=hP
      refine FW.mono' (plan_cut F hr' (lo:=h.next) (N:=h4.next+1) (x:=x) hxm (by omega) (by omega) hk hT (B4.keep w4 (by omega) fun z hz _=>q1 z hz) q2 ((q1 _ (by omega)).trans i3) ((q1 _ (by omega)).trans i4) ((q1 _ (by omega)).trans i5) ((q1 _ (by omega)).trans i6) (by omega) (by omega) fun p' h' hs' y1 y2 hr2 B2=>ih p' h' (by omega) y1 y2 hr2 B2) ?_
      rintro r H' ⟨zy1,zy2⟩
      refine⟨zy1,zy2.imp ?_ ?_⟩
      ·rintro⟨rfl,zy3,zy4,zy5⟩
       refine⟨rfl,fun z hz=>(zy3 z (by omega)).trans (q1 z hz),(zy3 _ q3).trans q2,by omega,fun y hy=> ?_⟩
       rcases List.mem_append.1 hy with hy|hy
       ·exact q4 y hy
       ·rw[List.mem_singleton.1 hy];exact zy5
      ·rintro⟨rfl,zy3,zy4⟩
       refine⟨rfl,zy3,zy4.up (by exact q3) (fun z hz hne _=> ?_) ?_⟩
       ·have hz':z<h4.next+1:=hz
        exact(q1 z (by omega)).trans (z4 (by omega)).symm
       ·rintro ns ⟨n1,n2,e,r1,r2,rfl⟩
        exact .cut (by omega) (by omega) hxm e r1 r2
     ·intro h5 h6 d1 d2 d3 d4 d5 ⟨q1,q2,q3,q5⟩
      have i6':=((d5 _ (by omega)).trans (q1 _ (by omega))).trans i6
      have TAIL:=fun rest=>plan_tail F (base:=h.next) (p3:=h.next) (p4:=h.next+1) (p5:=h.next+2) (p6:=h.next+3) (rest:=rest) d2 d1 (by omega) (by omega) i6' (.waste (kerf:=kerf) (ws:=ws) (kl:=kl) (t:=t) (a:=a) (b:=b) (by omega) (by omega) q4 fun _=>q5)
      unfold tailPl at TAIL
      simp only[cR,codeOf,f84]at TAIL
      refine kB_n ?_;refine kS_n ?_;exact TAIL _
     ·intro h5 h6 d1 d2 d3 d4 d5 hS
      obtain⟨ns,q,cc,R,y1,y2,y3,y4,y5⟩:=hS.out
      have y1':h4.next+1≤q:=y1
      refine kB_r ?_;refine kS_r ?_
      exact endA_ret (vs:=[.slice (some ⟨q,0,none⟩) ns.length cc]) d1 (res_cell (b:=h.next+3) rfl ((d5 _ (by omega)).trans y4) rfl res_nil) ⟨ns,_,_,R,rfl, .mem ⟨by omega,⟨_,_,_,(d5 _ (by omega)).trans y5,by rw[ltake_eq,ldrop_eq,List.drop_zero,List.take_of_length_le (by rw[ncs_len];omega)]⟩,ncs_len _⟩ y3.1,fun b o n e=>by cases e;exact⟨_,_,(d5 _ (by omega)).trans y5⟩,y3.2⟩
    ·have TAIL:=fun rest=>plan_tail F (base:=h.next) (p3:=h.next) (p4:=h.next+1) (p5:=h.next+2) (p6:=h.next+3) (rest:=rest) c2 c1 (by omega) (by omega) e6 (.waste (kerf:=kerf) (ws:=ws) (kl:=kl) (t:=t) (a:=a) (b:=b) (by omega) (by omega) q4 fun q=>absurd q hpos)
     unfold tailPl at TAIL
     simp only[cR,codeOf,f84]at TAIL
     refine kB_n ?_;refine kS_n ?_;refine wE_seq ?_;refine y4 ?_;refine yL ?_;refine yN ?_
     refine wO_val (a_lookup (x:=((a:Int),(b:Int))) (by exact rfl) (by exact rfl) gm3) ?_
     refine yf ?_;refine y3 ?_;refine yX ?_;refine wE_skip ?_;refine kS_n ?_;exact TAIL _
   ·intro h2 h3 c1 c2 c3 c4 c5 hS
    obtain⟨ns,q,cc,R,y1,y2,y3,y4,y5⟩:=hS.out
    have y1':h1.next+1≤q:=y1
    refine kB_r ?_;refine kS_r ?_
    exact endA_ret (vs:=[.slice (some ⟨q,0,none⟩) ns.length cc]) c1 (res_cell (b:=h.next+3) rfl ((c5 _ (by omega)).trans y4) rfl res_nil) ⟨ns,_,_,R,rfl, .mem ⟨by omega,⟨_,_,_,(c5 _ (by omega)).trans y5,by rw[ltake_eq,ldrop_eq,List.drop_zero,List.take_of_length_le (by rw[ncs_len];omega)]⟩,ncs_len _⟩ y3.1,fun b o n e=>by cases e;exact⟨_,_,(c5 _ (by omega)).trans y5⟩,y3.2⟩
end Go.A.Pk
end
section
namespace Go.A.Pk
variable {kerf:Int} {ws:List Int} {kl:List Kd}
theorem V_nonneg(hk:0≤kerf)(p:Int×Int):0≤V kerf ws kl p:=by
 by_cases h:1≤p.1∧1≤p.2
 ·obtain⟨a,ha⟩:=Int.eq_ofNat_of_zero_le (show 0≤p.1 by omega)
  obtain⟨b,hb⟩:=Int.eq_ofNat_of_zero_le (show 0≤p.2 by omega)
  have e:p=((a:Int),(b:Int)):=Prod.ext ha hb
  rw[e,V_eq hk (by omega) (by omega)]
  have h1:(0:Int)≤leafM ws (leavesL a b kl 0) 0:=(foldM_ge (f:=fun x:Nat×Nat=>ws.getD x.2 0) (xs:=leavesL a b kl 0) (m:=0)).1
  exact Int.le_trans h1 foldM_ge.1
 ·rw[V_out h];exact Int.le_refl _
end Go.A.Pk
end
section
set_option maxRecDepth 100000
namespace Go.A.Pk
variable {T:Nat→Option AFunc}
theorem tabL_bd{W kerf:Int}{ws:List Int}{kl:List Kd}(hW:0≤W)(hk:0≤kerf)(hws:∀x∈ws,0≤x∧x≤W):∀(xs:List (Nat×Nat)) (t:Tab),(∀x∈xs,1≤x.1∧1≤x.2)→Bd W t→Bd W (xs.foldl (fun t x=>upd t x (val kerf ws kl t x.1 x.2)) t)
 |[],t,_,h=>h
 |x::xs,t,hx,h=>tabL_bd hW hk hws xs _ (fun y hy=>hx y (List.mem_cons_of_mem _ hy)) (upd_bd (hx x (List.mem_cons_self ..)) (val_bd hW hk hws h (hx x (List.mem_cons_self ..)).1 (hx x (List.mem_cons_self ..)).2) h)
theorem bestV_bd{kerf:Int}{l:List Kd}(hc:chk kerf l=0){w ht:Int}(hb:OnB w ht):0≤bestV kerf l w ht∧bestV kerf l w ht≤256000000:=by
 obtain⟨q1,q2,q3,q4⟩:=chk_iff.1 hc
 have hB:Bd 1000000 (tabL kerf (l.map (·.worth)) l (boardsL w.toNat ht.toNat)):=tabL_bd (by omega) q2.1 (fun x hx=>by
  obtain⟨k,hk,rfl⟩:=List.mem_map.1 hx
  exact(q3 k hk).2.2.2) _ _ (fun x hx=>by have:=boards_of hx;omega) (fun e he=>by cases he)
 obtain⟨⟨h1,h2⟩,h3,h4⟩:=hb
 unfold bestV
 rcases look_bd (w,ht) hB with h|⟨_,_,h5,h6⟩
 ·rw[h];omega
 ·have:=area_mono (W:=1000000) (a:=w) (b:=ht) (c:=16) (d:=16) (by omega) (by omega) h2 (by omega) h4
  exact⟨h5,Int.le_trans h6 (Int.le_trans this (by omega))⟩
theorem bestR_ok{kerf:Int}{l:List Kd}{w ht:Int}(h:asked kerf l (OnB w ht)=0):bestR kerf l w ht= .tuple #[.int .i64 (bestV kerf l w ht), .int .i64 0]:=by unfold bestR;rw[if_pos h,h]
theorem asked_ok{kerf:Int}{l:List Kd}{p:Prop}[Decidable p](hc:chk kerf l=0)(hp:p):asked kerf l p=0:=by unfold asked;rw[if_pos hc,if_pos hp]
end Go.A.Pk
end
section
set_option maxRecDepth 100000
namespace Go.A.Pk
variable {T:Nat→Option AFunc}
def wsP(l:List Kd):List Int:=l.map (·.worth)
def tabP(kerf:Int)(l:List Kd)(w ht:Int):Tab:=tabL kerf (wsP l) l (boardsL w.toNat ht.toNat)
theorem look_tabP{kerf:Int}{l:List Kd}(hc:chk kerf l=0){w ht:Int}(hb:OnB w ht)(y:Int×Int):look (tabP kerf l w ht) y=if 1≤y.1∧y.1≤w∧1≤y.2∧y.2≤ht then bestV kerf l y.1 y.2 else 0:=by
 have hk:=(chk_iff.1 hc).2.1.1
 obtain⟨⟨h1,_⟩,h3,_⟩:=hb
 have:=tab_look hk (ws:=wsP l) (kl:=l) (h:=ht.toNat) w.toNat 0 (Nat.zero_le _) y
 rw[show boardsL w.toNat ht.toNat++row (w.toNat+1) 0=boardsL w.toNat ht.toNat by simp[row]]at this
 unfold tabP
 rw[this]
 by_cases hy:1≤y.1∧y.1≤w∧1≤y.2∧y.2≤ht
 ·rw[if_pos hy,if_pos (by omega),bestV_eq hk hy.1 hy.2.2.1];rfl
 ·rw[if_neg hy,if_neg (by omega)]
theorem look_tabP_bd{kerf:Int}{l:List Kd}(hc:chk kerf l=0){w ht:Int}(hb:OnB w ht)(y:Int×Int):0≤look (tabP kerf l w ht) y∧look (tabP kerf l w ht) y≤256000000:=by
 rw[look_tabP hc hb]
 by_cases hy:1≤y.1∧y.1≤w∧1≤y.2∧y.2≤ht
 ·rw[if_pos hy]
  obtain⟨⟨_,h2⟩,_,h4⟩:=hb
  exact bestV_bd hc ⟨⟨hy.1,by omega⟩,hy.2.2.1,by omega⟩
 ·rw[if_neg hy];omega
def PlanO(kerf:Int)(l:List Kd)(w ht:Int)(v:Value)(h:Heap):Prop:=∃ns a c,v= .tuple #[.slice a ns.length c, .int .i64 (asked kerf l (OnB w ht))]∧SliceOf h 2 (.slice a ns.length c) ns.length (ncs ns)∧(U2 h (.slice a ns.length c)∧(c=UNK∨c<1000000))∧
 (asked kerf l (OnB w ht)=0→PlanR kerf (wsP l) l (tabP kerf l w ht) (w,ht) ns)∧(asked kerf l (OnB w ht)≠0→ns=[])
theorem PlanO.log{kerf:Int}{l:List Kd}{w ht:Int}(v:Value)(h':Heap)(m:List Nat)(q:PlanO kerf l w ht v h'):PlanO kerf l w ht v {h' with log:=m}:=by
 obtain⟨ns,a,c,h1,h2,h3,h4⟩:=q
 exact⟨ns,a,c,h1,h2.log m,h3,h4⟩
theorem PlanO.gc{kerf:Int}{l:List Kd}{w ht:Int}{h:Heap}(v:Value)(h1:Heap)(hv:noRef v=true)(q:PlanO kerf l w ht v h1):PlanO kerf l w ht v h:=by
 obtain⟨ns,a,c,rfl,s,u,r⟩:=q
 have hu:U2 h (.slice a ns.length c):=fun b o n e=>by cases e;simp[noRef,flatL,flat,scalL,scal,scal1]at hv
 refine⟨ns,a,c,rfl,?_,⟨hu,u.2⟩,r⟩
 clear r u hu
 generalize ns.length=n at*
 generalize ncs ns=cs at*
 cases s with
 |nil=>exact .nil
 |mem s _=>simp[noRef,flatL,flat,scalL,scal,scal1]at hv
end Go.A.Pk
end
section
set_option maxRecDepth 100000
namespace Go.A.Pk
variable {T:Nat→Option AFunc}
def ncI:List (Nat×Int)→List Value
 |[]=>[]
 |x::l=>[.int .u8 x.1, .int .i64 x.2]++ncI l
theorem ncI_len:∀l,(ncI l).length=l.length*2
 |[]=>rfl
 |x::l=>by simp[ncI,ncI_len l];omega
theorem ncs_ncI:∀l:List (Nat×Nat),ncs l=ncI (l.map fun x=>(x.1,(x.2:Int)))
 |[]=>rfl
 |x::l=>by rw[ncs,List.map_cons,ncI,ncs_ncI l];rfl
structure Sm where
 ok:Bool
 worth:Int
 cells:Int
 depth:Int
 used:List Int
def z12:List Int:=[0,0,0,0,0,0,0,0,0,0,0,0]
def sm0:Sm:=⟨false,0,0,0,z12⟩
def isP(k:Kd)(kind:Nat)(p:Int×Int):Prop:=(kind=1∧k.w=p.1∧k.h=p.2)∨(kind=2∧k.turn=true∧k.h=p.1∧k.w=p.2)
instance(k:Kd)(kind:Nat)(p:Int×Int):Decidable (isP k kind p):=by unfold isP;infer_instance
def oneI(x:Nat×Int)(p:Int×Int):Int×Int:=if x.1=3 then(x.2,p.2)else(p.1,x.2)
def twoI(kerf:Int)(x:Nat×Int)(p:Int×Int):Int×Int:=if x.1=3 then(p.1-x.2-kerf,p.2)else(p.1,p.2-x.2-kerf)
def sizeI(x:Nat×Int)(p:Int×Int):Int:=if x.1=3 then p.1 else p.2
def plankS(l:List Kd)(x:Nat×Int)(p:Int×Int):Sm×Nat:=
 if 0≤x.2∧x.2≤(l.length:Int)-1 then(match l[x.2.toNat]? with
  |some k=>(⟨decide (isP k x.1 p),k.worth,p.1*p.2,0,z12.set x.2.toNat 1⟩,1)
  |none=>(sm0,0))else(sm0,0)
def nodeS(l:List Kd)(x:Nat×Int)(p:Int×Int):Sm×Nat:=
 if x.1=0 then({sm0 with ok:=decide (x.2=0)},1)else if x.1=1∨x.1=2 then plankS l x p else(sm0,0)
def joinS(kerf size at1:Int)(one two:Sm×Nat):Sm×Nat:=
 if one.1.ok=true then
  if size-at1-kerf<1 then({one.1 with depth:=one.1.depth+1},one.2+1)
  else if two.1.ok=true then(⟨true,one.1.worth+two.1.worth,one.1.cells+two.1.cells,1+mx one.1.depth two.1.depth,List.zipWith (· + ·) one.1.used two.1.used⟩,1+one.2+two.2)
  else(sm0,0)
 else(sm0,0)
def treeS(kerf:Int)(l:List Kd):Nat→Int×Int→List (Nat×Int)→Sm×Nat
 |_,_,[]=>(sm0,0)
 |0,p,x::_=>if x.1=3∨x.1=4 then(sm0,0)else nodeS l x p
 |f+1,p,x::ns=>if x.1=3∨x.1=4 then
   (if 1≤x.2∧x.2≤sizeI x p-1 then joinS kerf (sizeI x p) x.2 (treeS kerf l f (oneI x p) ns) (treeS kerf l f (twoI kerf x p) (ns.drop (treeS kerf l f (oneI x p) ns).2))else(sm0,0))
  else nodeS l x p
structure TB (s:Sm) (m:Nat):Prop where
 worth:0≤s.worth∧s.worth≤1000000*m
 cells:0≤s.cells∧s.cells≤256*m
 depth:0≤s.depth∧s.depth≤m
 len:s.used.length=12
 used:∀u∈s.used,0≤u∧u≤m
theorem TB.zero(b:Bool)(m:Nat):TB {sm0 with ok:=b} m:=⟨by show(0:Int)≤0∧(0:Int)≤_;omega,by show(0:Int)≤0∧(0:Int)≤_;omega,by show(0:Int)≤0∧(0:Int)≤_;omega,rfl,fun u hu=>by
 have:u=0:=by simpa[sm0,z12]using hu
 omega⟩
theorem node_bd{kerf:Int}{l:List Kd}(hc:chk kerf l=0)(x:Nat×Int){p:Int×Int}(h1:1≤p.1∧p.1≤16)(h2:1≤p.2∧p.2≤16):TB (nodeS l x p).1 (nodeS l x p).2∧(nodeS l x p).2≤1:=by
 unfold nodeS
 split
 ·exact⟨TB.zero _ _,Nat.le_refl _⟩
 ·split
  ·unfold plankS
   split
   ·split
    ·rename_i k hk
     have:=(chk_iff.1 hc).2.2.1 k (List.mem_of_getElem? hk)
     refine⟨⟨by dsimp only;have:=this.2.2.2;omega,?_,by show(0:Int)≤0∧(0:Int)≤_;omega,by simp[z12],fun u hu=> ?_⟩,Nat.le_refl _⟩
     ·have q1:=Int.mul_nonneg (show 0≤p.1 by omega) (show 0≤p.2 by omega)
      have q2:=Int.mul_le_mul h1.2 h2.2 (by omega) (by omega)
      dsimp only
      omega
     ·rcases List.mem_or_eq_of_mem_set hu with hu|rfl
      ·have:u=0:=by simpa[z12]using hu
       omega
      ·omega
    ·exact⟨TB.zero false _,Nat.zero_le _⟩
   ·exact⟨TB.zero false _,Nat.zero_le _⟩
  ·exact⟨TB.zero false _,Nat.zero_le _⟩
theorem zip_mem{a b:List Int}{u:Int}(h:u∈List.zipWith (· + ·) a b):∃x∈a,∃y∈b,u=x+y:=by
 induction a generalizing b with
 |nil=>simp at h
 |cons x a ih=>
  cases b with
  |nil=>simp at h
  |cons y b=>
   rw[List.zipWith_cons_cons,List.mem_cons]at h
   rcases h with rfl|h
   ·exact⟨x,List.mem_cons_self ..,y,List.mem_cons_self ..,rfl⟩
   ·obtain⟨x',hx,y',hy,e⟩:=ih h
    exact⟨x',List.mem_cons_of_mem _ hx,y',List.mem_cons_of_mem _ hy,e⟩
theorem tree_bd{kerf:Int}{l:List Kd}(hc:chk kerf l=0):∀(f:Nat) (p:Int×Int) (ns:List (Nat×Int)),1≤p.1∧p.1≤16→1≤p.2∧p.2≤16→TB (treeS kerf l f p ns).1 (treeS kerf l f p ns).2∧(treeS kerf l f p ns).2≤ns.length
 |f,p,[],_,_=>by cases f<;>exact⟨TB.zero false _,Nat.le_refl _⟩
 |0,p,x::ns,h1,h2=>by
  rw[treeS]
  split
  ·exact⟨TB.zero false _,Nat.zero_le _⟩
  ·have:=node_bd hc x h1 h2
   exact⟨this.1,by simp;omega⟩
 |f+1,p,x::ns,h1,h2=>by
  rw[treeS]
  split
  ·split
   ·rename_i hk hat
    have hk0:=(chk_iff.1 hc).2.1
    have g1:1≤(oneI x p).1∧(oneI x p).1≤16:=by unfold oneI;unfold sizeI at hat;split<;>(split at hat)<;>dsimp only<;>omega
    have g2:1≤(oneI x p).2∧(oneI x p).2≤16:=by unfold oneI;unfold sizeI at hat;split<;>(split at hat)<;>dsimp only<;>omega
    obtain⟨t1,n1⟩:=tree_bd hc f (oneI x p) ns g1 g2
    generalize treeS kerf l f (oneI x p) ns=one at*
    unfold joinS
    split
    ·split
     ·refine⟨⟨?_,?_,?_,t1.len,fun u hu=> ?_⟩,by simp;omega⟩
      ·have:=t1.worth;dsimp only;omega
      ·have:=t1.cells;dsimp only;omega
      ·have:=t1.depth;dsimp only;omega
      ·have:=t1.used u hu;omega
     ·rename_i hr
      have g3:1≤(twoI kerf x p).1∧(twoI kerf x p).1≤16:=by unfold twoI;unfold sizeI at hat hr;split<;>(split at hat)<;>(split at hr)<;>dsimp only<;>omega
      have g4:1≤(twoI kerf x p).2∧(twoI kerf x p).2≤16:=by unfold twoI;unfold sizeI at hat hr;split<;>(split at hat)<;>(split at hr)<;>dsimp only<;>omega
      obtain⟨t2,n2⟩:=tree_bd hc f (twoI kerf x p) (ns.drop one.2) g3 g4
      generalize treeS kerf l f (twoI kerf x p) (ns.drop one.2)=two at*
      rw[List.length_drop]at n2
      split
      ·refine⟨⟨?_,?_,?_,?_,fun u hu=> ?_⟩,by simp;omega⟩
       ·have:=t1.worth;have:=t2.worth;dsimp only;omega
       ·have:=t1.cells;have:=t2.cells;dsimp only;omega
       ·have:=t1.depth;have:=t2.depth;dsimp only;unfold mx;split<;>omega
       ·simp[t1.len,t2.len]
       ·obtain⟨a,ha,b,hb,rfl⟩:=zip_mem hu
        have:=t1.used a ha;have:=t2.used b hb;omega
      ·exact⟨TB.zero false _,Nat.zero_le _⟩
    ·exact⟨TB.zero false _,Nat.zero_le _⟩
   ·exact⟨TB.zero false _,Nat.zero_le _⟩
  ·have:=node_bd hc x h1 h2
   exact⟨this.1,by simp;omega⟩
section
variable {base:Nat} {h:Heap} {e:Env}
theorem a_storeAll{x y:Operand}{b n sz:Nat}{vs cs:List Value}(hx:ev h e x=some (.pointer (some ⟨b,0,none⟩)))(hy:ev h e y=some (.agg cs.toArray))(hb:h.get b=some (.cells vs true sz))(hn:cs.length=n)(hv:vs.length=n)(h1:ones cs=true):
 aop h base e (.store n x y)=some (.val (.tuple #[]) (h.wr base b (.cells cs true sz))):=by
 have hc:cellsOf (.agg cs.toArray)=cs:=by show cs.toArray.toList=cs;simp
 refine a_store hx hy hb ?_ ?_
 ·rw[hc,llen_eq,llen_eq,hn,hv,h1,nbeq_self,Nat.zero_add,nble_of (Nat.le_refl n)];rfl
 ·rw[hc,lputs_mid (by omega)]
  simp only[List.take_zero,List.nil_append,Nat.zero_add]
  rw[List.drop_of_length_le (by omega),List.append_nil]
end
theorem a_sliceU{base:Nat}{h:Heap}{e:Env}{size b o n c i j:Nat}{x:Operand}{lo hi:Option Operand}(hx:ev h e x=some (.slice (some ⟨b,o,none⟩) n c))(hl:bnd h e 0 lo=some i)(hh:bnd h e n hi=some j)(h1:i≤j)(h2:j≤c)(h3:i<c)(h4:c<UNK):
 aop h base e (.slice (.sl size) x lo hi none)=some (.val (.slice (some ⟨b,o+i*size,none⟩) (j-i) (c-i)) h):=by
 simp only[aop,hx,sliceOp,hl,hh,nbeq_not (show c≠UNK by omega),nble_of h1,nble_of h2,nbeq_not (show c≠i by omega),Bool.and_self,cond_true,cond_false,asPair]
end Go.A.Pk
end
section
set_option maxRecDepth 100000
namespace Go.A.Pk
variable {T:Nat→Option AFunc}
theorem WE.genT{base:Nat}{rnd:Option Nat}{c:ACode}{Q:XQ}{e:Env}{ds:Dfs}{h:Heap}(hK:∀hA,hA=h→WE T base rnd c Q e ds hA):WE T base rnd c Q e ds h:=hK h rfl
end Go.A.Pk
end
