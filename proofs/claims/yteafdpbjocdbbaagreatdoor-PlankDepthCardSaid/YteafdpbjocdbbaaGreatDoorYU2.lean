/- Walks of functions, plain laws, the table. -/
import Derived.Test.YteafdpbjocdbbaaGreatDoorYU1
import Derived.Test.YteafdpbjocdbbaaGreatDoorYF
import Derived.Test.YteafdpbjocdbbaaGreatDoorYD
set_option linter.all false
section
set_option maxRecDepth 100000
namespace Go.A.Pk
variable {T:Nat→Option AFunc}
theorem first_node{h:Heap}{b o n:Nat}{x:Nat×Int}{ns:List (Nat×Int)}(s:SliceAt h b o n 2 (ncI (x::ns))):∃vs own t,h.get b=some (.cells vs own t)∧ltake 2 (ldrop (o+0*2) vs)=[.int .u8 x.1, .int .i64 x.2]:=by
 obtain⟨vs,own,t,g1,g2⟩:=s.obj
 refine⟨vs,own,t,g1,?_⟩
 have hl:=s.len
 rw[ncI_len]at hl
 have h1:(ltake (n*2) (ldrop o vs)).take 2=[.int .u8 x.1, .int .i64 x.2]:=by rw[g2];rfl
 rw[ltake_eq,ldrop_eq,List.take_take,Nat.min_eq_left (by simp at hl;omega)]at h1
 rw[ltake_eq,ldrop_eq,Nat.zero_mul,Nat.add_zero]
 exact h1
end Go.A.Pk
end
section
set_option maxRecDepth 100000
namespace Go.A.Pk
variable {T:Nat→Option AFunc}
def planS(kerf:Int)(l:List Kd)(p:Int×Int)(ns:List (Nat×Int)):Sm:=if(treeS kerf l 32 p ns).1.ok=true∧(treeS kerf l 32 p ns).2=ns.length then(treeS kerf l 32 p ns).1 else sm0
def checkR(kerf:Int)(l:List Kd)(w ht:Int)(ns:List (Nat×Int)):Value:=if asked kerf l (OnB w ht)=0 then .tuple #[.int .i64 (planS kerf l (w,ht) ns).worth, .bool (planS kerf l (w,ht) ns).ok, .int .i64 0]else .tuple #[.int .i64 0, .bool false, .int .i64 (asked kerf l (OnB w ht))]
end Go.A.Pk
end
section
set_option maxRecDepth 100000
namespace Go.A.Pk
variable {T:Nat→Option AFunc}
def Nought(x:Int×Int):Prop:=x.1<1∨x.2<1
instance(x:Int×Int):Decidable (Nought x):=by unfold Nought;infer_instance
def never:Int:= -1099511627776
end Go.A.Pk
end
section
set_option maxRecDepth 100000
namespace Go.A.Pk
variable {T:Nat→Option AFunc}
theorem WD.gen{base:Nat}{ops:List AOper}{bf:List Nat}{rs:List Rec}{Q:Env→Heap→Prop}{is:List Nat}{e:Env}{h:Heap}(hK:∀hA,hA=h→WD T base ops bf Q is rs e hA):WD T base ops bf Q is rs e h:=hK h rfl
end Go.A.Pk
end
section
set_option maxRecDepth 100000
namespace Go.A.Pk
variable {T:Nat→Option AFunc}
theorem WE.gen{base:Nat}{rnd:Option Nat}{c:ACode}{Q:XQ}{e:Env}{ds:Dfs}{h:Heap}(hK:∀hA,hA=h→WE T base rnd c Q e ds hA):WE T base rnd c Q e ds h:=hK h rfl
end Go.A.Pk
end
section
set_option maxRecDepth 100000
namespace Go.A.Pk
variable {T:Nat→Option AFunc}
theorem wD_mapUp{base:Nat}{e:Env}{h:Heap}{ops:List AOper}{bf:List Nat}{rs rs':List Rec}{Q:Env→Heap→Prop}{i mask:Nat}{is:List Nat}{dst:Option Nat}{m k v:Operand}{r:Nat}{t:Tab}{x:Nat×Nat}{z:Int}{g:Option (Nat×Bool)}{er:Env}(ho:lget ops i=some ⟨dst, .mapUp true [.i .i64, .i .i64] m k v,g⟩)(hm:lget bf i=some mask)
 (he:keepE e (slotsA ⟨dst, .mapUp true [.i .i64, .i .i64] m k v,g⟩)=er)(hw:wantedA er g=some true)(h1:ev {h with log:=[]} er m=some (.map (some r)))(h2:ev {h with log:=[]} er k=some (boardV x))(h3:ev {h with log:=[]} er v=some (.int .i64 z))(h4:h.get r=some (.map (ents t)))(hlt:r<h.next)
 (hrs:recsAfter (h.wr base r (.map (ents (upd t x z)))) base [r] mask rs=some rs')(H:WD T base ops bf Q is rs' (dstE e dst (.tuple #[])) (h.wr base r (.map (ents (upd t x z))))):WD T base ops bf Q (i::is) rs e h:=
 wD_actH ho hm he hw rfl (a_mapUp (h:={h with log:=[]}) h1 h2 h3 h4) (eq_wrA hlt _) (lg_wr hlt _) hrs H
end Go.A.Pk
end
section
set_option maxRecDepth 100000
namespace Go.A.Pk
variable {T:Nat→Option AFunc}
def asgSa:ACode:=(.region [g 11 (.new [(.int .i64 0),(.int .i64 0)]),⟨none, .store 2 (t 11) (t 27),none⟩] [4,10,11])
def bodySa:ACode:=(.block 1 (.seq (.region [g 28 (.load none (t 4)),g 29 (.load (some 2) (t 11)),g 30 (.call (.func 104) [(t 28),(t 29)])] [4,10,11,30])
 (.block 2 (.rangeFunc (t 30) [31] (.region [g 12 (.new [(.int .u8 0),(.int .i64 0)]),⟨none, .store 2 (t 12) (t 31),none⟩] [4,10,11,12]) (.block 3 (.draw [g 32 (.load none (t 10)),g 33 (.load (some 2) (t 11)),g 34 (.load none (t 10)),g 35 (.load (some 2) (t 11)),g 36 (.lookup true [.i .i64, .i .i64] (.int .i64 0) false (t 34) (t 35)),g 37 (.load none (t 4)),g 38 (.nilchk (t 37)),g 39 (.faddr 2 (t 38)),g 40 (.load none (t 39)),g 41 (.faddr 1 (t 12)),g 42 (.load none (t 41)),g 43 (.iaddrS 1 (t 40) (t 42)),g 44 (.load none (t 43)),g 45 (.minmax true [(t 36),(t 44)]),⟨none, .mapUp true [.i .i64, .i .i64] (t 32) (t 33) (t 45),none⟩] [0,1,2,3,4,5,6,7,8,9,10,11,12,13,14] [0,0,0,0,12,0,32,96,224,0,512,2016,4064,8188,16383] []))))))
def asgSb:ACode:=(.region [g 12 (.new [(.int .u8 0),(.int .i64 0)]),⟨none, .store 2 (t 12) (t 31),none⟩] [4,10,11,12])
def bodySb:ACode:=(.block 3 (.draw [g 32 (.load none (t 10)),g 33 (.load (some 2) (t 11)),g 34 (.load none (t 10)),g 35 (.load (some 2) (t 11)),g 36 (.lookup true [.i .i64, .i .i64] (.int .i64 0) false (t 34) (t 35)),g 37 (.load none (t 4)),g 38 (.nilchk (t 37)),g 39 (.faddr 2 (t 38)),g 40 (.load none (t 39)),g 41 (.faddr 1 (t 12)),g 42 (.load none (t 41)),g 43 (.iaddrS 1 (t 40) (t 42)),g 44 (.load none (t 43)),g 45 (.minmax true [(t 36),(t 44)]),⟨none, .mapUp true [.i .i64, .i .i64] (t 32) (t 33) (t 45),none⟩] [0,1,2,3,4,5,6,7,8,9,10,11,12,13,14] [0,0,0,0,12,0,32,96,224,0,512,2016,4064,8188,16383] []))
set_option maxHeartbeats 4000000 in
theorem sleaf_round(hp:primAS T){H:Heap}(hr:Rdy H){p4 p10 p11 bb mb l2 n wc a b:Nat}{fv s1 s2:Value}{wa:Option Addr}{own:Bool}{ws:List Int}{t:Tab}{x:Nat×Nat}(hx:x.2<n)(gl:H.get l2=some (.loop [(4, .pointer (some ⟨p4,0,none⟩)),(10, .pointer (some ⟨p10,0,none⟩)),(11, .pointer (some ⟨p11,0,none⟩)),(30,fv)] [31] asgSb bodySb 0 .normal))
 (g4:H.get p4=some (.cells [.pointer (some ⟨bb,0,none⟩)] true 1))(g10:H.get p10=some (.cells [.map (some mb)] true 1))(g11:H.get p11=some (.cells [.int .i64 a, .int .i64 b] true 1))(gm:H.get mb=some (.map (ents t)))(gb:H.get bb=some (.cells [s1,s2, .slice wa n wc] own 1))(hws:SliceOf H 1 (.slice wa n wc) n (ints ws)):
 FW T (.yield l2) [nodeV x] H fun r H'=>r= .ret (.bool true)∧(∀z∈H'.log,mb≤z∧z<mb+1)∧(∀z,z<H.next→z≠mb→H'.get z=H.get z)∧H'.get mb=some (.map (ents (upd t (a,b) (mx (look t (a,b)) (ws.getD x.2 0))))):=by
 have hlen:ws.length=n:=by have:=hws.len;simp[ints]at this;omega
 rcases hws.inv with⟨_,_,h0,_⟩|⟨b0,o0,cap,hv,s,hcap⟩
 ·omega
 cases hv
 obtain⟨vs,own',t0,g5,g6⟩:=slice_elem1 s (ints_get (l:=ws) (i:=x.2) (by omega))
 clear s
 have n1:=ne_loop g4 gl
 have n2:=ne_loop g10 gl
 have n3:=ne_loop g11 gl
 have n4:=ne_map gm gl
 have n5:=ne_loop gb gl
 have n6:=ne_loop g5 gl
 have k1:=WF.get_lt hr.wf g4
 have k2:=WF.get_lt hr.wf g10
 have k3:=WF.get_lt hr.wf g11
 have k4:=WF.get_lt hr.wf gm
 have k5:=WF.get_lt hr.wf gb
 have k6:=WF.get_lt hr.wf g5
 have k7:=WF.get_lt hr.wf gl
 refine FW.yieldN hp (R:=fun H'=>(∀z,z<H.next→z≠mb→H'.get z=H.get z)∧H'.get mb=some (.map (ents (upd t (a,b) (mx (look t (a,b)) (ws.getD x.2 0)))))) gl rfl k7 ?_
 unfold asgSb nodeV
 refine wE_region ?_;refine wO_val a_new ?_;refine yS ?_;refine wO_nil ?_
 refine y1 ?_
 refine⟨rfl,by(simp(disch:=first|omega|(simp only[z1,z2];omega))only[z3,z4,z5,z6,z7,z1,z2, *];exact rfl),?_⟩
 unfold bodySb
 refine wE_block ?_;refine wE_draw ?_;refine qL ?_
 refine qN ?_
 refine qL ?_
 refine qN ?_
 refine wD_quiet rfl rfl rfl (by exact rfl) (by exact rfl) (by exact rfl) (a_lookup (x:=((a:Int),(b:Int))) (by exact rfl) (by exact rfl) (by(simp(disch:=first|omega|(simp only[z1,z2];omega))only[z3,z4,z5,z6,z7,z1,z2, *];exact rfl))) ?_
 refine qL ?_
 refine wD_quiet rfl rfl rfl (by exact rfl) (by exact rfl) (by exact rfl) (a_nilchk (by exact rfl)) ?_;refine qF ?_
 refine qL ?_
 refine qF ?_
 refine qL ?_
 refine wD_quiet rfl rfl rfl (by exact rfl) (by exact rfl) (by exact rfl) (a_iaddrS (by exact rfl) (by exact rfl) (by omega)) ?_
 refine wD_quiet rfl rfl rfl (by exact rfl) (by exact rfl) (by exact rfl) (a_load (by exact rfl) (by(simp(disch:=first|omega|(simp only[z1,z2];omega))only[z3,z4,z5,z6,z7,z1,z2, *];exact rfl)) (by assumption)) ?_
 refine wD_quiet rfl rfl rfl (by exact rfl) (by exact rfl) (by exact rfl) (a_max (by exact rfl) (by exact rfl)) ?_
 refine wD_mapUp (x:=(a,b)) rfl rfl rfl (by exact rfl) (by exact rfl) (by exact rfl) (by exact rfl) (by(simp(disch:=first|omega|(simp only[z1,z2];omega))only[z3,z4,z5,z6,z7,z1,z2, *];exact rfl)) (by(simp only[z1,z2];omega)) (by apply ra_dropC rfl;apply ra_dropC rfl;apply ra_dropC rfl;apply ra_dropC rfl;apply ra_dropC rfl;apply ra_dropC rfl;apply ra_dropC rfl;apply ra_dropC rfl;apply ra_dropC rfl;apply ra_dropC rfl;apply ra_dropC rfl;apply ra_dropC rfl;apply ra_dropC rfl;apply ra_dropC rfl;exact ra_nil) ?_
 refine wD_nil ?_;refine y1 ?_;refine kB_n ?_
 refine⟨rfl,⟨_,by(simp(disch:=first|omega|(simp only[z1,z2];omega))only[z3,z4,z5,z6,z7,z1,z2, *];exact rfl),rfl⟩,?_,?_⟩
 ·intro z hz
  rw[log_wr_q (by exact(Heap.log_wr_new (Nat.zero_le _)).trans ((Heap.log_wr_new (Nat.le_refl _)).trans hr.log)) k4]at hz
  simp at hz;omega
 ·intro h5 hn hag hl5
  refine⟨fun z hz hne=> ?_,(hag mb k4 n4).trans (by(simp(disch:=first|omega|(simp only[z1,z2];omega))only[z3,z4,z5,z6,z7,z1,z2, *];done))⟩
  by_cases hz2:z=l2
  ·rw[hz2];exact hl5.trans gl.symm
  ·exact(hag z hz hz2).trans ((z5 hne).trans ((z5 hz2).trans ((z5 (by omega)).trans (z4 hz))))
theorem mem_mergeLog{base:Nat}:∀{m l:List Nat} {z:Nat},z∈mergeLog base l m→z∈l∨(z∈m∧z<base)
 |[],_,_,h=> .inl h
 |b::m,l,z,h=>by
  simp only[mergeLog]at h
  rcases mem_mergeLog h with h|⟨h1,h2⟩
  ·by_cases hb:b<base
   ·simp only[nblt_of hb,cond_true]at h
    cases hl:lhas l b with
    |true=>rw[hl,cond_true]at h;exact .inl h
    |false=>
     rw[hl,cond_false]at h
     rcases List.mem_cons.1 h with rfl|h
     ·exact .inr ⟨List.mem_cons_self ..,hb⟩
     ·exact .inl h
   ·simp only[nblt_not hb,cond_false]at h
    exact .inl h
  ·exact .inr ⟨List.mem_cons_of_mem _ h1,h2⟩
theorem inner_rangeO{base:Nat}{rnd:Option Nat}{e:Env}{ds:Dfs}{Q:XQ}{h1:Heap}{f:Operand}{g q:Nat}{first cap:Array Value}{ps:List Nat}{asg body:ACode}{all:List (Nat×Nat)}{O:List (Nat×Nat)→AObj}(hr:roundA h1 rnd=true)(hf:ev h1 e f=some (.func (.func g) first cap))(hnc:notCode (T g)=false)
 (hB:base≤h1.next)(hlog:h1.log=[])(w1:WF h1)
 (HG:Gr T g (lcat first.toList (lcat [.func (.yield h1.next) #[] #[]] cap.toList)) {h1.push (.loop e ps asg body 0 .normal)with log:=[]} q fun v h'=>v= .tuple #[]∧PW h1.next q h1 (.loop e ps asg body 0 .normal) O all h')(hqn:q<h1.next)
 (K:∀h3,(∀z∈h3.log,q≤z∧z<base)→WF h3→h1.next≤h3.next→(∀z,z<h1.next→z≠q→h3.get z=h1.get z)→h3.get q=some (O all)→Q .normal e ds h3):WE T base rnd (.rangeFunc f ps asg body) Q e ds h1:=by
 refine wE_range hr hf hnc (CW.mono HG ?_)
 rintro r h2 ⟨hk,v,rfl,rfl,hP⟩
 refine⟨_,rfl,_,_,_,_,_,_,hP.loop,rfl,?_⟩
 refine K _ (fun z hz=> ?_) ?_ ?_ (fun z hz hne=> ?_) ?_
 ·rw[Heap.log_wr_new hB]at hz
  have hz':z∈mergeLog base h1.log h2.log:=hz
  rw[hlog]at hz'
  rcases mem_mergeLog hz' with h|⟨ha,hb⟩
  ·cases h
  ·exact⟨hk.log (LogGe.nil _) z ha,hb⟩
 ·exact((hk.wf ((w1.push _).log _)).log _).as (AS.wr _ _ _ _)
 ·have:=hk.next
  have e1:h1.next+1≤h2.next:=this
  show h1.next≤h2.next
  omega
 ·exact(z5 (by omega)).trans (hP.old z hz hne)
 ·exact(z5 (by omega)).trans hP.obj
def leafS(ws:List Int)(a b:Nat)(ys:List (Nat×Nat))(t:Tab):Tab:=ys.foldl (fun t y=>upd t (a,b) (mx (look t (a,b)) (ws.getD y.2 0))) t
theorem leafS_snoc(ws:List Int)(a b:Nat)(ys:List (Nat×Nat))(y:Nat×Nat)(t:Tab):leafS ws a b (ys++[y]) t=upd (leafS ws a b ys t) (a,b) (mx (look (leafS ws a b ys t) (a,b)) (ws.getD y.2 0)):=by simp[leafS]
set_option maxHeartbeats 8000000 in
theorem sboard_round(F:FnsV T){H:Heap}(hr:Rdy H){p4 p10 mb bb l n c wc a b:Nat}{sa wa:Option Addr}{v1 v2 v3 v9 fv:Value}{kerf:Int}{ws:List Int}{kl:List Kd}{t:Tab}(hn:n<1000)(gl:H.get l=some (.loop [(1,v1),(2,v2),(3,v3),(4, .pointer (some ⟨p4,0,none⟩)),(9,v9),(10, .pointer (some ⟨p10,0,none⟩)),(26,fv)] [27] asgSa bodySa 0 .normal))
 (g4:H.get p4=some (.cells [.pointer (some ⟨bb,0,none⟩)] true 1))(g10:H.get p10=some (.cells [.map (some mb)] true 1))(gt:H.get mb=some (.map (ents t)))(gb:H.get bb=some (.cells [.slice sa n c, .int .i64 kerf, .slice wa n wc] true 1))(hks:SliceOf H 5 (.slice sa n c) n (kcs kl))(hws:SliceOf H 1 (.slice wa n wc) n (ints ws)):
 FW T (.yield l) [boardV (a,b)] H fun r H'=>r= .ret (.bool true)∧(∀z∈H'.log,mb≤z∧z<H.next)∧(∀z,z<H.next→z≠mb→H'.get z=H.get z)∧H'.get mb=some (.map (ents (leafS ws a b (leavesL a b kl 0) t))):=by
 have n2:=ne_loop g4 gl
 have n3:=ne_loop gb gl
 have n4:=ne_loop g10 gl
 have n6:=ne_map gt gl
 have m1:=ne_cm g4 gt
 have m2:=ne_cm g10 gt
 have m3:=ne_cm gb gt
 have k2:=WF.get_lt hr.wf g4
 have k3:=WF.get_lt hr.wf gb
 have k4:=WF.get_lt hr.wf g10
 have k5:=WF.get_lt hr.wf gl
 have k7:=WF.get_lt hr.wf gt
 refine FW.yieldN F.p (R:=fun H'=>(∀z,z<H.next→z≠mb→H'.get z=H.get z)∧H'.get mb=some (.map (ents (leafS ws a b (leavesL a b kl 0) t)))) gl rfl k5 ?_
 unfold asgSa
 refine wE_region ?_;refine wO_val a_new ?_;refine yS ?_;refine wO_nil ?_
 refine y1 ?_
 refine⟨rfl,by(simp(disch:=first|omega|(simp only[z1,z2];omega))only[z3,z4,z5,z6,z7,z1,z2, *];exact rfl),?_⟩
 unfold bodySa
 refine wE_block ?_;refine y4 ?_;refine yL ?_
 refine yN ?_
 refine WO.gen ?_
 intro hA hAe
 have A1:∀z,z<H.next→z≠l→hA.get z=H.get z:=fun z hz hne=>by rw[hAe];simp(disch:=first|omega|(simp only[z1,z2];omega))only[z5,z4]
 have A2:hA.get l=some (.loop [(1,v1),(2,v2),(3,v3),(4, .pointer (some ⟨p4,0,none⟩)),(9,v9),(10, .pointer (some ⟨p10,0,none⟩)),(26,fv)] [27] asgSa bodySa 1 .normal):=by rw[hAe];(simp(disch:=first|omega|(simp only[z1,z2];omega))only[z3,z4,z5,z6,z7,z1,z2, *];exact rfl)
 have A3:hA.get H.next=some (.cells [.int .i64 a, .int .i64 b] true 1):=by rw[hAe];(simp(disch:=first|omega|(simp only[z1,z2];omega))only[z3,z4,z5,z6,z7,z1,z2, *];exact rfl)
 have A5:hA.next=H.next+1:=by rw[hAe];rfl
 have A6:hA.log=[]:=by rw[hAe];simp(disch:=first|omega|(simp only[z1,z2];omega))only[Heap.log_wr_new,Heap.log_push];exact hr.log
 have A7:WF hA:=by rw[hAe];exact((hr.wf.push _).as (AS.wr _ _ _ _)).as (AS.wr _ _ _ _)
 clear hAe
 have A4:=(A1 p4 k2 n2).trans g4
 refine yC ?_
 refine FW.al (leaves104 F.p F.f104 (.of A7) bb a b) (fun _ _ _ q=>q) ?_
 rintro _ h1 hx1 ⟨rfl,hn1,gp,gx⟩
 have eA:({hA with log:=[]}:Heap).next=H.next+1:=A5
 rw[eA]at hn1 gp gx
 rw[eA]
 have B1:∀z,z<H.next→z≠l→h1.get z=H.get z:=fun z hz hne=>(hx1.old z (by omega)).trans (A1 z hz hne)
 have B2:=(hx1.old l (by omega)).trans A2
 have B3:=(hx1.old _ (by omega)).trans A3
 have B6:h1.log=[]:=hx1.log.trans A6
 have B7:WF h1:=hx1.wf A7
 have hlen:kl.length=n:=by have:=hks.len;rw[kcs_length]at this;omega
 clear hx1 A1 A2 A3 A4 A6 A7
 refine y3 ?_;refine wE_block ?_
 refine inner_rangeO (q:=mb) (all:=leavesL a b kl 0) (O:=fun d=> .map (ents (leafS ws a b d t))) (round_ok B2) (by rfl) (by rw[F.f140];rfl) (by omega) B6 B7 ?_ (by omega) ?_
 ·refine leaves140 F.p F.f140 (.of (B7.push _)) (pb:=H.next+1) (bb:=bb) (px:=H.next+2) (l':=h1.next) (N:=h1.next+1) (lo:=mb) (a:=a) (b:=b) (n:=n) (c:=c) (sa:=sa) (l:=kl) (v1:= .int .i64 kerf) (v2:= .slice wa n wc) (Nat.le_refl _) (by show mb≤h1.next+1;omega) hn
   (PW.yld F.p (by omega) fun done x H' hx hr' hlt hP=> ?_) ((z4 (by omega)).trans gp) ((z4 (by omega)).trans ((B1 bb k3 n3).trans gb)) (fun d H' hP=> ?_) (fun d H' hP=>(hP.old _ (by omega) (by omega)).trans gx) ⟨fun z hz _=>z4 hz,(z4 (by omega)).trans ((B1 mb k7 n6).trans gt),z3 _ _,Nat.lt_succ_self _⟩
  ·refine FW.mono' (sleaf_round F.p hr' (x:=x) (n:=n) (a:=a) (b:=b) (by have:=leaves_idx x hx;omega) hP.loop ((hP.old p4 (by omega) (by omega)).trans ((B1 p4 k2 n2).trans g4)) ((hP.old p10 (by omega) (by omega)).trans ((B1 p10 k4 n4).trans g10)) ((hP.old H.next (by omega) (by omega)).trans B3) hP.obj ((hP.old bb (by omega) (by omega)).trans ((B1 bb k3 n3).trans gb)) (SliceOf.agree hws (by omega) fun b0 vs o t hb he=>(hP.old b0 (by omega) (ne_cm he gt)).trans (B1 b0 hb (ne_loop he gl)))) ?_
   rintro r H'' ⟨q1,q2,q3,q4⟩
   exact⟨q1,q2,q3,by rw[leafS_snoc];exact q4⟩
  ·have:=hP.nx
   exact SliceOf.agree hks (by omega) fun b0 vs o t hb he=>(hP.old b0 (by omega) (ne_cm he gt)).trans (B1 b0 hb (ne_loop he gl))
 intro h3 c1 c2 c3 c4 c5
 have D1:∀z,z<H.next→z≠l→z≠mb→h3.get z=H.get z:=fun z hz hne hz2=>(c4 z (by omega) hz2).trans (B1 z hz hne)
 have D2:=(c4 l (by omega) (by omega)).trans B2
 refine kB_n ?_;refine kB_n ?_
 refine⟨rfl,⟨_,D2,rfl⟩,c1,?_⟩
 ·intro h6 hn6 hag hl6
  refine⟨fun z hz hne=> ?_,(hag mb k7 n6).trans c5⟩
  by_cases hz2:z=l
  ·rw[hz2];exact hl6.trans gl.symm
  ·exact(hag z hz hz2).trans (D1 z hz hz2 hne)
end Go.A.Pk
end
section
set_option maxRecDepth 100000
namespace Go.A.Pk
variable {T:Nat→Option AFunc}
def asgSc:ACode:=(.region [g 15 (.new [(.int .i64 0),(.int .i64 0)]),⟨none, .store 2 (t 15) (t 57),none⟩] [4,10,14,15])
def bodySc:ACode:=(.block 7 (.seq (.region [g 58 (.load none (t 10)),g 59 (.load (some 2) (t 15)),g 60 (.lookup true [.i .i64, .i .i64] (.int .i64 0) false (t 58) (t 59)),g 16 (.new [(.int .i64 0)]),⟨none, .store 1 (t 16) (t 60),none⟩] [4,10,14,15,16])
 (.seq (.seq (.region [g 61 (.load none (t 4)),g 62 (.load (some 2) (t 15)),g 63 (.call (.func 105) [(t 61),(t 62)])] [4,10,14,15,16,63])
 (.block 8 (.rangeFunc (t 63) [64] (.region [g 17 (.new [(.int .u8 0),(.int .i64 0)]),⟨none, .store 2 (t 17) (t 64),none⟩] [4,10,15,16,17]) (.block 9 (.seq (.region [g 66 (.load none (t 4)),g 67 (.load (some 2) (t 15)),g 68 (.load (some 2) (t 17)),g 69 (.call (.func 106) [(t 66),(t 67),(t 68)]),g 65 (.mov (t 69)),g 70 (.extract (t 65) 0),g 71 (.extract (t 65) 1),g 18 (.new [(.int .i64 0),(.int .i64 0)]),g 19 (.new [(.int .i64 0),(.int .i64 0)]),⟨none, .store 2 (t 18) (t 70),none⟩,⟨none, .store 2 (t 19) (t 71),none⟩] [10,16,18,19])
 (.draw [g 72 (.load none (t 16)),g 73 (.load none (t 10)),g 74 (.load (some 2) (t 18)),g 75 (.lookup true [.i .i64, .i .i64] (.int .i64 0) false (t 73) (t 74)),g 76 (.load none (t 10)),g 77 (.load (some 2) (t 19)),g 78 (.lookup true [.i .i64, .i .i64] (.int .i64 0) false (t 76) (t 77)),g 79 (.bin (.num .add) (t 75) (t 78)),g 80 (.minmax true [(t 72),(t 79)]),⟨none, .store 1 (t 16) (t 80),none⟩] [0,1,2,3,4,5,6,7,8,9] [0,0,0,6,0,0,48,126,255,511] []))))))
 (.region [g 81 (.load none (t 14)),g 82 (.load (some 2) (t 15)),g 83 (.load none (t 16)),⟨none, .mapUp true [.i .i64, .i .i64] (t 81) (t 82) (t 83),none⟩] []))))
def asgSd:ACode:=(.region [g 17 (.new [(.int .u8 0),(.int .i64 0)]),⟨none, .store 2 (t 17) (t 64),none⟩] [4,10,15,16,17])
def bodySd:ACode:=(.block 9 (.seq (.region [g 66 (.load none (t 4)),g 67 (.load (some 2) (t 15)),g 68 (.load (some 2) (t 17)),g 69 (.call (.func 106) [(t 66),(t 67),(t 68)]),g 65 (.mov (t 69)),g 70 (.extract (t 65) 0),g 71 (.extract (t 65) 1),g 18 (.new [(.int .i64 0),(.int .i64 0)]),g 19 (.new [(.int .i64 0),(.int .i64 0)]),⟨none, .store 2 (t 18) (t 70),none⟩,⟨none, .store 2 (t 19) (t 71),none⟩] [10,16,18,19])
 (.draw [g 72 (.load none (t 16)),g 73 (.load none (t 10)),g 74 (.load (some 2) (t 18)),g 75 (.lookup true [.i .i64, .i .i64] (.int .i64 0) false (t 73) (t 74)),g 76 (.load none (t 10)),g 77 (.load (some 2) (t 19)),g 78 (.lookup true [.i .i64, .i .i64] (.int .i64 0) false (t 76) (t 77)),g 79 (.bin (.num .add) (t 75) (t 78)),g 80 (.minmax true [(t 72),(t 79)]),⟨none, .store 1 (t 16) (t 80),none⟩] [0,1,2,3,4,5,6,7,8,9] [0,0,0,6,0,0,48,126,255,511] [])))
set_option maxHeartbeats 8000000 in
theorem scut_round(hp:primAS T)(f106:T 106=some f106){H:Heap}(hr:Rdy H){q p4 p10 p15 bb mb l2 a b:Nat}{x14 fv s1 s3:Value}{own:Bool}{kerf m:Int}{t:Tab}{x:Nat×Nat}(hx:x.1=3∨x.1=4)(hx2:x.2<1000)(ha:a<1000)(hb:b<1000)(hk:0≤kerf∧kerf≤100)
 (hsum: -4611686018427387904≤look t (oneB x a b)+look t (twoB kerf x a b)∧look t (oneB x a b)+look t (twoB kerf x a b)≤4611686018427387904)(gl:H.get l2=some (.loop [(4, .pointer (some ⟨p4,0,none⟩)),(10, .pointer (some ⟨p10,0,none⟩)),(14,x14),(15, .pointer (some ⟨p15,0,none⟩)),(16, .pointer (some ⟨q,0,none⟩)),(63,fv)] [64] asgSd bodySd 0 .normal))
 (gq:H.get q=some (.cells [.int .i64 m] true 1))(g4:H.get p4=some (.cells [.pointer (some ⟨bb,0,none⟩)] true 1))(g10:H.get p10=some (.cells [.map (some mb)] true 1))(g15:H.get p15=some (.cells [.int .i64 a, .int .i64 b] true 1))(gb:H.get bb=some (.cells [s1, .int .i64 kerf,s3] own 1))(gm:H.get mb=some (.map (ents t)))(h10:p10≠q):
 FW T (.yield l2) [nodeV x] H fun r H'=>r= .ret (.bool true)∧(∀z∈H'.log,q≤z∧z<q+1)∧(∀z,z<H.next→z≠q→H'.get z=H.get z)∧H'.get q=some (.cells [.int .i64 (mx m (look t (oneB x a b)+look t (twoB kerf x a b)))] true 1):=by
 have n1:=ne_loop gq gl
 have n2:=ne_loop g4 gl
 have n3:=ne_loop gb gl
 have n4:=ne_loop g10 gl
 have n5:=ne_loop g15 gl
 have n6:=ne_map gm gl
 have n7:=ne_cm gq gm
 have k1:=WF.get_lt hr.wf gq
 have k2:=WF.get_lt hr.wf g4
 have k3:=WF.get_lt hr.wf gb
 have k4:=WF.get_lt hr.wf g10
 have k5:=WF.get_lt hr.wf gl
 have k6:=WF.get_lt hr.wf g15
 have k7:=WF.get_lt hr.wf gm
 refine FW.yieldN hp (R:=fun H'=>(∀z,z<H.next→z≠q→H'.get z=H.get z)∧H'.get q=some (.cells [.int .i64 (mx m (look t (oneB x a b)+look t (twoB kerf x a b)))] true 1)) gl rfl k5 ?_
 unfold asgSd
 refine wE_region ?_;refine wO_val a_new ?_;refine yS ?_;refine wO_nil ?_
 refine y1 ?_
 refine⟨rfl,by(simp(disch:=first|omega|(simp only[z1,z2];omega))only[z3,z4,z5,z6,z7,z1,z2, *];exact rfl),?_⟩
 unfold bodySd
 refine wE_block ?_;refine y4 ?_;refine yL ?_
 refine yN ?_
 refine yN ?_
 refine yC ?_
 have gB:(((H.push (.cells [.int .u8 0, .int .i64 0] true 1)).wr H.next H.next (.cells [.int .u8 x.1, .int .i64 x.2] true 1)).wr 0 l2 (.loop [(4, .pointer (some ⟨p4,0,none⟩)),(10, .pointer (some ⟨p10,0,none⟩)),(14,x14),(15, .pointer (some ⟨p15,0,none⟩)),(16, .pointer (some ⟨q,0,none⟩)),(63,fv)] [64] asgSd bodySd 1 .normal)).get bb=some (.cells [s1, .int .i64 kerf,s3] own 1):=by(simp(disch:=first|omega|(simp only[z1,z2];omega))only[z3,z4,z5,z6,z7,z1,z2, *];done)
 have hw:WF (((H.push (.cells [.int .u8 0, .int .i64 0] true 1)).wr H.next H.next (.cells [.int .u8 x.1, .int .i64 x.2] true 1)).wr 0 l2 (.loop [(4, .pointer (some ⟨p4,0,none⟩)),(10, .pointer (some ⟨p10,0,none⟩)),(14,x14),(15, .pointer (some ⟨p15,0,none⟩)),(16, .pointer (some ⟨q,0,none⟩)),(63,fv)] [64] asgSd bodySd 1 .normal)):=((hr.wf.push _).as (AS.wr _ _ _ _)).as (AS.wr _ _ _ _)
 refine FW.pu (split106 hp f106 (.of hw) gB (Nat.lt_succ_of_lt k3) hk hx hx2 ha hb) ?_
 refine yM ?_;refine yE ?_;refine yE ?_;refine wO_val a_new ?_;refine wO_val a_new ?_
 refine yS ?_
 refine yS ?_;refine y3 ?_;refine wE_draw ?_
 refine qL ?_
 refine qL ?_
 refine qN ?_
 refine wD_quiet rfl rfl rfl (by exact rfl) (by exact rfl) (by exact rfl) (a_lookup (x:=oneB x a b) (by exact rfl) (by exact rfl) (by(simp(disch:=first|omega|(simp only[z1,z2];omega))only[z3,z4,z5,z6,z7,z1,z2, *];exact rfl))) ?_
 refine qL ?_
 refine qN ?_
 refine wD_quiet rfl rfl rfl (by exact rfl) (by exact rfl) (by exact rfl) (a_lookup (x:=twoB kerf x a b) (by exact rfl) (by exact rfl) (by(simp(disch:=first|omega|(simp only[z1,z2];omega))only[z3,z4,z5,z6,z7,z1,z2, *];exact rfl))) ?_
 refine wD_quiet rfl rfl rfl (by exact rfl) (by exact rfl) (by exact rfl) (a_num (by exact rfl) (by exact rfl) (m_add (wrapA_i64 (by omega) (by omega)))) ?_
 refine wD_quiet rfl rfl rfl (by exact rfl) (by exact rfl) (by exact rfl) (a_max (by exact rfl) (by exact rfl)) ?_
 refine wD_storeA (ws:=[.int .i64 (mx m (look t (oneB x a b)+look t (twoB kerf x a b)))]) rfl rfl rfl (by exact rfl) (by exact rfl) (by exact rfl) (by(simp(disch:=first|omega|(simp only[z1,z2];omega))only[z3,z4,z5,z6,z7,z1,z2, *];exact rfl)) (by exact rfl) (by exact rfl) (by(simp only[z1,z2];omega)) (by apply ra_dropC rfl;apply ra_dropC rfl;apply ra_dropC rfl;apply ra_dropC rfl;apply ra_dropC rfl;apply ra_dropC rfl;apply ra_dropC rfl;apply ra_dropC rfl;apply ra_dropC rfl;exact ra_nil) ?_
 refine wD_nil ?_;refine y1 ?_;refine kB_n ?_
 refine⟨rfl,⟨_,by(simp(disch:=first|omega|(simp only[z1,z2];omega))only[z3,z4,z5,z6,z7,z1,z2, *];exact rfl),rfl⟩,?_,?_⟩
 ·intro z hz
  rw[log_wr_q (by simp(disch:=first|omega|(simp only[z1,z2];omega))only[Heap.log_wr_new,Heap.log_push];exact hr.log) k1]at hz
  simp at hz;omega
 ·intro h5 hn hag hl5
  refine⟨fun z hz hne=> ?_,(hag q k1 n1).trans (by(simp(disch:=first|omega|(simp only[z1,z2];omega))only[z3,z4,z5,z6,z7,z1,z2, *];done))⟩
  by_cases hz2:z=l2
  ·rw[hz2];exact hl5.trans gl.symm
  ·exact(hag z hz hz2).trans (by simp(disch:=first|omega|(simp only[z1,z2];omega))only[z5,z4])
def deepV(kerf:Int)(t:Tab)(a b:Nat):Int:=cutM kerf t a b (cutsL a b) (look t (a,b))
set_option maxHeartbeats 8000000 in
theorem snext_round(F:FnsV T){H:Heap}(hr:Rdy H){p4 p10 p14 mb mo bb l n c wc a b:Nat}{sa wa:Option Addr}{v1 v2 v9 v13 v50 v51 fv:Value}{kerf:Int}{t u:Tab}(ha:a<1000)(hb:b<1000)(hk:0≤kerf∧kerf≤100)
 (hsum:∀x∈cutsL a b, -4611686018427387904≤look t (oneB x a b)+look t (twoB kerf x a b)∧look t (oneB x a b)+look t (twoB kerf x a b)≤4611686018427387904)(gl:H.get l=some (.loop [(1,v1),(2,v2),(4, .pointer (some ⟨p4,0,none⟩)),(9,v9),(10, .pointer (some ⟨p10,0,none⟩)),(13,v13),(14, .pointer (some ⟨p14,0,none⟩)),(50,v50),(51,v51),(56,fv)] [57] asgSc bodySc 0 .normal))
 (g4:H.get p4=some (.cells [.pointer (some ⟨bb,0,none⟩)] true 1))(g10:H.get p10=some (.cells [.map (some mb)] true 1))(g14:H.get p14=some (.cells [.map (some mo)] true 1))(gt:H.get mb=some (.map (ents t)))(gu:H.get mo=some (.map (ents u)))(gb:H.get bb=some (.cells [.slice sa n c, .int .i64 kerf, .slice wa n wc] true 1))(hmm:mb≠mo):
 FW T (.yield l) [boardV (a,b)] H fun r H'=>r= .ret (.bool true)∧(∀z∈H'.log,mo≤z∧z<mo+1)∧(∀z,z<H.next→z≠mo→H'.get z=H.get z)∧H'.get mo=some (.map (ents (upd u (a,b) (deepV kerf t a b)))):=by
 have n2:=ne_loop g4 gl
 have n3:=ne_loop gb gl
 have n4:=ne_loop g10 gl
 have n5:=ne_loop g14 gl
 have n6:=ne_map gt gl
 have n7:=ne_map gu gl
 have m1:=ne_cm g4 gu
 have m2:=ne_cm g10 gu
 have m3:=ne_cm gb gu
 have m4:=ne_cm g14 gu
 have k2:=WF.get_lt hr.wf g4
 have k3:=WF.get_lt hr.wf gb
 have k4:=WF.get_lt hr.wf g10
 have k5:=WF.get_lt hr.wf gl
 have k6:=WF.get_lt hr.wf g14
 have k7:=WF.get_lt hr.wf gt
 have k8:=WF.get_lt hr.wf gu
 refine FW.yieldN F.p (R:=fun H'=>(∀z,z<H.next→z≠mo→H'.get z=H.get z)∧H'.get mo=some (.map (ents (upd u (a,b) (deepV kerf t a b))))) gl rfl k5 ?_
 unfold asgSc
 refine wE_region ?_;refine wO_val a_new ?_;refine yS ?_;refine wO_nil ?_
 refine y1 ?_
 refine⟨rfl,by(simp(disch:=first|omega|(simp only[z1,z2];omega))only[z3,z4,z5,z6,z7,z1,z2, *];exact rfl),?_⟩
 unfold bodySc
 refine wE_block ?_;refine y4 ?_;refine yL ?_
 refine yN ?_
 refine wO_val (a_lookup (x:=((a:Int),(b:Int))) (by exact rfl) (by exact rfl) (by(simp(disch:=first|omega|(simp only[z1,z2];omega))only[z3,z4,z5,z6,z7,z1,z2, *];exact rfl))) ?_
 refine wO_val a_new ?_;refine yS ?_
 refine y3 ?_;refine wE_seq ?_;refine y4 ?_
 refine yL ?_
 refine yN ?_
 refine WO.gen ?_
 intro hA hAe
 have A1:∀z,z<H.next→z≠l→hA.get z=H.get z:=fun z hz hne=>by rw[hAe];simp(disch:=first|omega|(simp only[z1,z2];omega))only[z5,z4]
 have A2:hA.get l=some (.loop [(1,v1),(2,v2),(4, .pointer (some ⟨p4,0,none⟩)),(9,v9),(10, .pointer (some ⟨p10,0,none⟩)),(13,v13),(14, .pointer (some ⟨p14,0,none⟩)),(50,v50),(51,v51),(56,fv)] [57] asgSc bodySc 1 .normal):=by rw[hAe];(simp(disch:=first|omega|(simp only[z1,z2];omega))only[z3,z4,z5,z6,z7,z1,z2, *];exact rfl)
 have A3:hA.get H.next=some (.cells [.int .i64 a, .int .i64 b] true 1):=by rw[hAe];(simp(disch:=first|omega|(simp only[z1,z2];omega))only[z3,z4,z5,z6,z7,z1,z2, *];exact rfl)
 have A4:hA.get (H.next+1)=some (.cells [.int .i64 (look t (a,b))] true 1):=by rw[hAe];(simp(disch:=first|omega|(simp only[z1,z2];omega)|(simp only[z1,z2];done)|fail)only[z8,z4,z5,z9,z7,z1,z2, *];exact rfl)
 have A5:hA.next=H.next+2:=by rw[hAe];rfl
 have A6:hA.log=[]:=by rw[hAe];simp(disch:=first|omega|(simp only[z1,z2];omega))only[Heap.log_wr_new,Heap.log_push];exact hr.log
 have A7:WF hA:=by rw[hAe];exact((((hr.wf.push _).as (AS.wr _ _ _ _)).as (AS.wr _ _ _ _)).push _).as (AS.wr _ _ _ _)
 clear hAe
 have A8:=(A1 p4 k2 n2).trans g4
 refine yC ?_
 refine FW.al (cuts105 F.p F.f105 (.of A7) _ a b) (fun _ _ _ q=>q) ?_
 rintro _ h4 hx4 ⟨rfl,hn4,gx4⟩
 have e3:({hA with log:=[]}:Heap).next=H.next+2:=A5
 rw[e3]at hn4 gx4
 rw[e3]
 have E1:∀z,z<H.next→z≠l→h4.get z=H.get z:=fun z hz hne=>(hx4.old z (by omega)).trans (A1 z hz hne)
 have E2:=(hx4.old l (by omega)).trans A2
 have E3:=(hx4.old _ (by omega)).trans A3
 have E4:=(hx4.old _ (by omega)).trans A4
 have E6:h4.log=[]:=hx4.log.trans A6
 have E7:WF h4:=hx4.wf A7
 clear hx4 A1 A2 A3 A4 A6 A7 A8
 refine y3 ?_;refine wE_block ?_
 refine inner_range (q:=H.next+1) (all:=cutsL a b) (O:=fun d=> .cells [.int .i64 (cutM kerf t a b d (look t (a,b)))] true 1) (round_ok E2) (by rfl) (by rw[F.f141];rfl) (by omega) (by omega) E6 E7 ?_ (by omega) ?_
 ·refine cuts141 F.p F.f141 (.of (E7.push _)) (bx:=H.next+2) (l:=h4.next) (N:=h4.next+1) (lo:=H.next+1) (a:=a) (b:=b) (Nat.le_refl _) (by show H.next+1≤h4.next+1;omega) ha hb
   (PW.yld F.p (by omega) fun done x H' hx hr' hlt hP=> ?_) (fun d H' hP=>(hP.old _ (by omega) (by omega)).trans gx4) ⟨fun z hz _=>z4 hz,(z4 (by omega)).trans E4,z3 _ _,Nat.lt_succ_self _⟩
  have hxc:=cuts_of hx
  refine FW.mono' (scut_round F.p F.f106 hr' (x:=x) (t:=t) (by omega) (by omega) ha hb hk (hsum x hx) hP.loop hP.obj ((hP.old p4 (by omega) (by omega)).trans ((E1 p4 k2 n2).trans g4)) ((hP.old p10 (by omega) (by omega)).trans ((E1 p10 k4 n4).trans g10)) ((hP.old H.next (by omega) (by omega)).trans E3) ((hP.old bb (by omega) (by omega)).trans ((E1 bb k3 n3).trans gb)) ((hP.old mb (by omega) (by omega)).trans ((E1 mb k7 n6).trans gt)) (show p10≠H.next+1 by omega)) ?_
  rintro r H'' ⟨q1,q2,q3,q4⟩
  exact⟨q1,q2,q3,by rw[cutM_snoc];exact q4⟩
 intro h5 c1 c2 c3 c4 c5
 have G1:∀z,z<H.next→z≠l→h5.get z=H.get z:=fun z hz hne=>(c4 z (by omega) (by omega)).trans (E1 z hz hne)
 have G2:=(c4 l (by omega) (by omega)).trans E2
 have G3:=(c4 _ (by omega) (by omega)).trans E3
 have G7:=(G1 p14 k6 n5).trans g14
 have G8:=(G1 mo k8 n7).trans gu
 clear E1 E2 E3 E4 E6 E7 c4 gx4
 refine kB_n ?_;refine kS_n ?_;refine wE_region ?_;refine yL ?_;refine yN ?_;refine yL ?_
 refine wO_val (a_mapUp (x:=(a,b)) (by exact rfl) (by exact rfl) (by exact rfl) G8) ?_
 refine wO_nil ?_;refine y1 ?_;refine kB_n ?_
 refine⟨rfl,⟨_,by(simp(disch:=first|omega|(simp only[z1,z2];omega))only[z3,z4,z5,z6,z7,z1,z2, *];exact rfl),rfl⟩,?_,?_⟩
 ·intro z hz
  rw[log_wr_q c1 k8]at hz
  simp at hz;omega
 ·intro h6 hn6 hag hl6
  refine⟨fun z hz hne=> ?_,(hag mo k8 n7).trans (Heap.get_wr_new G8)⟩
  by_cases hz2:z=l
  ·rw[hz2];exact hl6.trans gl.symm
  ·exact(hag z hz hz2).trans ((z5 hne).trans (G1 z hz hz2))
end Go.A.Pk
end
section
set_option maxRecDepth 100000
namespace Go.A.Pk
variable {T:Nat→Option AFunc}
structure YldB (T:Nat→Option AFunc) (lo N l:Nat) (V:Nat×Nat→Value) (all:List (Nat×Nat)) (P:List (Nat×Nat)→Heap→Prop):Prop where
 yields:∀done x H,x∈all→Rdy H→N≤H.next→P done H→FW T (.yield l) [V x] H fun r H'=>r= .ret (.bool true)∧(∀z∈H'.log,lo≤z)∧P (done++[x]) H'
 stable:∀done H H',P done H→N≤H'.next→(∀x,x<N→H'.get x=H.get x)→P done H'
theorem YldB.call(hp:primAS T){lo N l:Nat}{V:Nat×Nat→Value}{all:List (Nat×Nat)}{P:List (Nat×Nat)→Heap→Prop}(Y:YldB T lo N l V all P){base:Nat}{Q:XQ}{e:Env}{ds:Dfs}{h:Heap}{K:Env→Dfs→Heap→Prop}{dst:Option Nat}{done:List (Nat×Nat)}{x:Nat×Nat}(hx:x∈all)(hw:WF h)(hlo:lo≤h.next)(hN:N≤h.next)(hP:P done h)
 (hK:∀h',Lk lo h h'→P (done++[x]) h'→K (dstE e dst (.bool true)) ds h'):FW T (.yield l) [V x] {h with log:=[]} (KO K Q base dst e ds h.log):=by
 refine FW.mono' (FW.withAS hp (Y.yields done x _ hx (.of hw) hN (Y.stable _ _ _ hP hN fun _ _=>rfl)) rfl) ?_
 rintro r h2 ⟨hA,rfl,hl,hq⟩
 have hk:Lk lo {h with log:=[]} h2:=Lk.of_as hA hlo fun z hz=>hl z hz
 exact⟨hK _ hk.call (Y.stable _ _ _ hq (Nat.le_trans hN hA.next) fun _ _=>rfl)⟩
set_option maxHeartbeats 4000000 in
theorem boards136B(hp:primAS T)(hf:T 136=some f136){h:Heap}(hr:Rdy h){bw bh l N lo w ht:Nat}{P:List (Nat×Nat)→Heap→Prop}(hN:N≤h.next)(hlo:lo≤h.next)(hw16:w<1000)(hh16:ht<1000)(Y:YldB T lo N l boardV (boardsL w ht) P)
 (hbw:∀d H,P d H→H.get bw=some (.cells [.int .i64 w] true 1))(hbh:∀d H,P d H→H.get bh=some (.cells [.int .i64 ht] true 1))(h0:P [] h):
 Gr T 136 [.func (.yield l) #[] #[], .pointer (some ⟨bw,0,none⟩), .pointer (some ⟨bh,0,none⟩)] h lo fun v h'=>v= .tuple #[]∧P (boardsL w ht) h':=by
 refine Gr.of hp hf hlo (fun v h1 h2 _ hn ha q=>unit_gc Y.stable hN hn ha q) ?_
 refine y4 ?_;refine yM ?_;refine y3 ?_;refine wE_block ?_
 refine wE_loop (fun k e ds h'=>∃i:Nat,i≤w∧k=w-i∧e=[(0, .func (.yield l) #[] #[]),(1, .pointer (some ⟨bw,0,none⟩)),(2, .pointer (some ⟨bh,0,none⟩)),(4, .int .i64 (i+1:Nat))]∧ds=[]∧Lk lo h h'∧P (boardsL i ht) h')
  ⟨0,Nat.zero_le _,rfl,rfl,rfl, .refl _ _,h0⟩ ?_
 rintro k e ds h' ⟨i,hi,rfl,rfl,rfl,hk,hP⟩
 have g1:=hbw _ _ hP
 by_cases hlt:i<w
 ·refine wE_seq ?_;refine y4 ?_;refine yM ?_;refine yL ?_;refine yt ?_;refine y3 ?_
  refine yY ?_;refine wE_skip ?_;refine kS_n ?_;refine wE_seq ?_;refine wE_block ?_;refine y4 ?_;refine yM ?_;refine y3 ?_;refine wE_block ?_
  refine wE_loop (fun k e ds h''=>∃j:Nat,j≤ht∧k=ht-j∧e=[(0, .func (.yield l) #[] #[]),(1, .pointer (some ⟨bw,0,none⟩)),(2, .pointer (some ⟨bh,0,none⟩)),(4, .int .i64 (i+1:Nat)),(5, .int .i64 (j+1:Nat))]∧ds=[]∧Lk lo h h''∧P (boardsL i ht++row (i+1) j) h'')
   ⟨0,Nat.zero_le _,rfl,rfl,rfl,hk,by simpa[row]using hP⟩ ?_
  clear g1 hP hk h'
  rintro k e ds h' ⟨j,hj,rfl,rfl,rfl,hk,hP⟩
  have g2:=hbh _ _ hP
  by_cases hjt:j<ht
  ·refine wE_seq ?_;refine y4 ?_;refine yM ?_;refine yL ?_;refine yt ?_;refine y3 ?_
   refine yY ?_;refine wE_skip ?_;refine kS_n ?_;refine wE_seq ?_;refine wE_block ?_;refine y4 ?_;refine yM ?_;refine yM ?_;refine yM ?_;refine wO_val (a_build (by exact rfl)) ?_
   refine wO_call (fn:= .yield l) (args:=[boardV (i+1,j+1)]) (by rfl) ?_
   refine Y.call hp (boardsL_mem hlt hjt) (hk.wf hr.wf) (Nat.le_trans hlo hk.next) (Nat.le_trans hN hk.next) hP ?_
   intro h2 hk2 hP2
   rw[List.append_assoc,←row_succ]at hP2
   refine yA ?_;refine y3 ?_;refine yX ?_;refine wE_skip ?_;refine kB_n ?_;refine kS_n ?_;refine wE_region ?_;refine yM ?_
   refine yinc ?_;refine yM ?_;refine y3 ?_
   exact⟨ht-(j+1),by omega,j+1,by omega,rfl,rfl,rfl,hk.trans hk2,hP2⟩
  ·obtain rfl:j=ht:=by omega
   refine wE_seq ?_;refine y4 ?_;refine yM ?_;refine yL ?_;refine yf ?_;refine y3 ?_
   refine yX ?_;refine wE_exit ?_;refine kS_e ?_;refine kS_e ?_;refine kB_e ?_;refine kB_n ?_;refine kS_n ?_;refine wE_region ?_;refine yM ?_;refine yinc ?_;refine yM ?_;refine y3 ?_
   exact⟨w-(i+1),by omega,i+1,by omega,rfl,rfl,rfl,hk,hP⟩
 ·obtain rfl:i=w:=by omega
  refine wE_seq ?_;refine y4 ?_;refine yM ?_;refine yL ?_;refine yf ?_;refine y3 ?_
  refine yX ?_;refine wE_exit ?_;refine kS_e ?_;refine kS_e ?_;refine kB_e ?_
  exact endG_end (hk.log (by rw[hr.log];exact LogGe.nil _)) rfl ⟨rfl,hP⟩
end Go.A.Pk
end
section
set_option maxRecDepth 100000
namespace Go.A
variable {T:Nat→Option AFunc}
structure OwnC (lo:Nat) (h:Heap) (sz:Nat) (v:Value) (n:Nat) (cs:List Value):Prop where
 ex:∃q c,v= .slice (some ⟨q,0,none⟩) n c∧lo≤q∧q<h.next∧h.get q=some (.cells cs true sz)∧cs.length=n*sz∧(c=UNK∨c=n)
theorem OwnC.keep{lo sz n:Nat}{h h':Heap}{v:Value}{cs:List Value}(s:OwnC lo h sz v n cs)(hn:h.next≤h'.next)(ha:∀z,lo≤z→z<h.next→h'.get z=h.get z):OwnC lo h' sz v n cs:=by
 obtain⟨q,c,h1,h2,h3,h4,h5⟩:=s.ex
 exact⟨q,c,h1,h2,by omega,(ha _ h2 h3).trans h4,h5⟩
theorem OwnC.low{lo lo' sz n:Nat}{h:Heap}{v:Value}{cs:List Value}(s:OwnC lo h sz v n cs)(hl:lo'≤lo):OwnC lo' h sz v n cs:=by
 obtain⟨q,c,h1,h2,h3⟩:=s.ex
 exact⟨q,c,h1,by omega,h3⟩
theorem OwnC.slice{lo sz n:Nat}{h:Heap}{v:Value}{cs:List Value}(s:OwnC lo h sz v n cs)(hn:n<4000000):SliceOf h sz v n cs:=by
 obtain⟨q,c,rfl,h2,h3,h4,h5,h6⟩:=s.ex
 refine .mem ⟨h3,⟨_,_,_,h4,?_⟩,h5⟩ (by unfold UNK at h6;omega)
 rw[ltake_eq,ldrop_eq,List.drop_zero,List.take_of_length_le (by omega)]
theorem wO_app1c{base:Nat}{rnd:Option Nat}{Q:XQ}{e:Env}{ds:Dfs}{h:Heap}{lo sz bytes n:Nat}{dst:Option Nat}{os:List AOper}{x y:Operand}{v u:Value}{cs c1:List Value}(s:OwnC lo h sz v n cs)(hn:n<1000000)(hsz:0<sz)(hb:bytes≤100000)(hbase:base≤lo)
 (hx:ev h e x=some v)(hy:ev h e y=some u)(hs:srcCells h sz u=some (c1,1))(hl1:c1.length=sz)(h1:ones c1=true)
 (hK:∀h',OwnC h.next h' sz (.slice (some ⟨h.next,0,none⟩) (n+1) UNK) (n+1) (cs++c1)→h'.next=h.next+1→h'.log=h.log→(WF h→WF h')→(∀z,z<h.next→(∀q a c,v= .slice (some ⟨q,0,none⟩) a c→z≠q)→h'.get z=h.get z)→WO T base rnd Q os (dstE e dst (.slice (some ⟨h.next,0,none⟩) (n+1) UNK)) ds h'):WO T base rnd Q (⟨dst, .append sz bytes x y,none⟩::os) e ds h:=by
 have hbd:(2*(n+1)+768)*bytes≤281474976710656:=by
  have:(2*(n+1)+768)*bytes≤2000768*100000:=Nat.mul_le_mul (by omega) hb
  omega
 obtain⟨q,c,rfl,q1,q2,q3,q4,q5⟩:=s.ex
 have hlen:(cs++c1).length=(n+1)*sz:=by rw[List.length_append,q4,hl1,Nat.add_mul,Nat.one_mul]
 rcases q5 with rfl|rfl
 ·refine wO_val (a_app_open (n:=1) (vs:=cs) (ws:=cs++c1) hx hy hs (by omega) q3 q4 hsz h1 hbd (lcat_eq _ _)) ?_
  exact hK _ ⟨_,_,rfl,Nat.le_refl _,Nat.lt_succ_self _,z3 _ _,hlen, .inl rfl⟩ rfl (Heap.log_wr_new (o:= .dead) (by omega)) (fun w=>(w.as (AS.wr base _ q .dead)).push _) (fun z hz hne=>(z4 (by exact hz)).trans (z5 (hne q _ _ rfl)))
 ·refine wO_val (a_app_full (n:=1) (vs:=cs) (ws:=cs++c1) hx hy hs (by omega) (by omega) (by unfold UNK;omega) q3 (by omega) hbd (by rw[lcat_eq,ltake_eq,ldrop_eq,List.drop_zero,List.take_of_length_le (by omega)])) ?_
  exact hK _ ⟨_,_,rfl,Nat.le_refl _,Nat.lt_succ_self _,z3 _ _,hlen, .inl rfl⟩ rfl rfl (fun w=>w.push _) (fun z hz hne=>z4 (by exact hz))
end Go.A
namespace Go.A.Pk
variable {T:Nat→Option AFunc}
def tab0(ws:List Int)(kl:List Kd)(xs:List (Nat×Nat)):Tab:=xs.foldl (fun t x=>leafS ws x.1 x.2 (leavesL x.1 x.2 kl 0) t) []
def tabD(kerf:Int)(t:Tab)(xs:List (Nat×Nat)):Tab:=xs.foldl (fun u x=>upd u x (deepV kerf t x.1 x.2)) []
def tabS(kerf:Int)(ws:List Int)(kl:List Kd)(bs:List (Nat×Nat)):Nat→Tab
 |0=>tab0 ws kl bs
 |d+1=>tabD kerf (tabS kerf ws kl bs d) bs
theorem tab0_snoc(ws:List Int)(kl:List Kd)(xs:List (Nat×Nat))(x:Nat×Nat):tab0 ws kl (xs++[x])=leafS ws x.1 x.2 (leavesL x.1 x.2 kl 0) (tab0 ws kl xs):=by simp[tab0]
theorem tabD_snoc(kerf:Int)(t:Tab)(xs:List (Nat×Nat))(x:Nat×Nat):tabD kerf t (xs++[x])=upd (tabD kerf t xs) x (deepV kerf t x.1 x.2):=by simp[tabD]
theorem getD_bd{W:Int}{ws:List Int}(hW:0≤W)(hws:∀x∈ws,0≤x∧x≤W)(i:Nat):0≤ws.getD i 0∧ws.getD i 0≤W:=by
 rw[List.getD_eq_getElem?_getD]
 cases e:ws[i]? with
 |none=>exact⟨Int.le_refl _,hW⟩
 |some x=>exact hws x (List.mem_of_getElem? e)
theorem look_bd2{W:Int}{t:Tab}(ht:Bd W t)(hW:0≤W){a b:Nat}:0≤look t (a,b)∧look t (a,b)≤W*((a:Int)*(b:Int)):=by
 rcases look_bd ((a:Int),(b:Int)) ht with h|h
 ·rw[h];exact⟨Int.le_refl _,Int.mul_nonneg hW (Int.mul_nonneg (by omega) (by omega))⟩
 ·exact⟨h.2.2.1,h.2.2.2⟩
theorem leafS_bd{W:Int}{ws:List Int}(hW:0≤W)(hws:∀x∈ws,0≤x∧x≤W){a b:Nat}(ha:1≤a)(hb:1≤b):∀{ys:List (Nat×Nat)} {t:Tab},Bd W t→Bd W (leafS ws a b ys t)
 |[],t,h=>h
 |y::ys,t,h=>by
  show Bd W (leafS ws a b ys (upd t (a,b) (mx (look t (a,b)) (ws.getD y.2 0))))
  refine leafS_bd hW hws ha hb (upd_bd ⟨ha,hb⟩ ?_ h)
  have h1:=look_bd2 h hW (a:=a) (b:=b)
  have h2:=getD_bd hW hws y.2
  have h3:W*(1*1)≤W*((a:Int)*(b:Int)):=area_mono hW (by omega) (by omega) (by omega) (by omega)
  have h4:=(mx_ge (a:=look t (a,b)) (b:=ws.getD y.2 0)).1
  dsimp only
  exact⟨by omega,mx_le h1.2 (by omega)⟩
theorem tab0_bd{W:Int}{ws:List Int}{kl:List Kd}(hW:0≤W)(hws:∀x∈ws,0≤x∧x≤W){xs:List (Nat×Nat)}(hx:∀x∈xs,1≤x.1∧1≤x.2):Bd W (tab0 ws kl xs):=by
 have:∀(xs:List (Nat×Nat)) (t:Tab),(∀x∈xs,1≤x.1∧1≤x.2)→Bd W t→Bd W (xs.foldl (fun t x=>leafS ws x.1 x.2 (leavesL x.1 x.2 kl 0) t) t):=by
  intro xs
  induction xs with
  |nil=>intro t _ h;exact h
  |cons x xs ih=>intro t hx h;exact ih _ (fun y hy=>hx y (List.mem_cons_of_mem _ hy)) (leafS_bd hW hws (hx x (List.mem_cons_self ..)).1 (hx x (List.mem_cons_self ..)).2 h)
 exact this xs [] hx (fun e he=>by cases he)
theorem deepV_bd{W kerf:Int}{t:Tab}(hW:0≤W)(hk:0≤kerf)(ht:Bd W t){a b:Nat}:0≤deepV kerf t a b∧deepV kerf t a b≤W*((a:Int)*(b:Int)):=by
 have h1:=look_bd2 ht hW (a:=a) (b:=b)
 exact cutM_bd (fun x hx=>(cut_bd hW hk ht hx).2) h1.1 h1.2
theorem tabD_bd{W kerf:Int}{t:Tab}(hW:0≤W)(hk:0≤kerf)(ht:Bd W t){xs:List (Nat×Nat)}(hx:∀x∈xs,1≤x.1∧1≤x.2):Bd W (tabD kerf t xs):=by
 have:∀(xs:List (Nat×Nat)) (u:Tab),(∀x∈xs,1≤x.1∧1≤x.2)→Bd W u→Bd W (xs.foldl (fun u x=>upd u x (deepV kerf t x.1 x.2)) u):=by
  intro xs
  induction xs with
  |nil=>intro u _ h;exact h
  |cons x xs ih=>intro u hx h;exact ih _ (fun y hy=>hx y (List.mem_cons_of_mem _ hy)) (upd_bd (hx x (List.mem_cons_self ..)) (deepV_bd hW hk ht) h)
 exact this xs [] hx (fun e he=>by cases he)
theorem tabS_bd{W kerf:Int}{ws:List Int}{kl:List Kd}(hW:0≤W)(hk:0≤kerf)(hws:∀x∈ws,0≤x∧x≤W){xs:List (Nat×Nat)}(hx:∀x∈xs,1≤x.1∧1≤x.2):∀d,Bd W (tabS kerf ws kl xs d)
 |0=>tab0_bd hW hws hx
 |d+1=>tabD_bd hW hk (tabS_bd hW hk hws hx d) hx
def shL(kerf:Int)(ws:List Int)(kl:List Kd)(w ht m:Nat):List Int:=(List.range m).map fun d=>look (tabS kerf ws kl (boardsL w ht) d) (w,ht)
theorem shL_succ(kerf:Int)(ws:List Int)(kl:List Kd)(w ht m:Nat):shL kerf ws kl w ht (m+1)=shL kerf ws kl w ht m++[look (tabS kerf ws kl (boardsL w ht) m) (w,ht)]:=by simp[shL,List.range_succ]
structure ShI (kerf:Int) (ws:List Int) (kl:List Kd) (w ht N bb i:Nat) (h:Heap) (v:Value) (H:Heap):Prop where
 old:∀z,z<N→H.get z=h.get z
 g4:H.get N=some (.cells [.pointer (some ⟨bb,0,none⟩)] true 1)
 g9:H.get (N+1)=some (.cells [.int .i64 w, .int .i64 ht] true 1)
 tab:∃mb,H.get (N+3)=some (.cells [.map (some mb)] true 1)∧H.get mb=some (.map (ents (tabS kerf ws kl (boardsL w ht) i)))
 own:OwnC (N+4) H 1 v (i+1) (ints (shL kerf ws kl w ht (i+1)))
 log:H.log=[]
 wf:WF H
 nx:N+4≤H.next
set_option maxHeartbeats 16000000 in
theorem shallow78(F:FnsV T)(hf:T 78=some f78){h:Heap}(hr:Rdy h){bb n c wc w ht dp:Nat}{sa wa:Option Addr}{kerf W:Int}{ws:List Int}{kl:List Kd}(hw:w<1000)(hh:ht<1000)(hd:dp<1000)(hn:n<1000)(hk:0≤kerf∧kerf≤100)(hW:0≤W∧W≤1000000000)(hws0:∀x∈ws,0≤x∧x≤W)
 (gb:h.get bb=some (.cells [.slice sa n c, .int .i64 kerf, .slice wa n wc] true 1))(hks:SliceOf h 5 (.slice sa n c) n (kcs kl))(hws:SliceOf h 1 (.slice wa n wc) n (ints ws)):
 Al T 78 [.pointer (some ⟨bb,0,none⟩), .int .i64 w, .int .i64 ht, .int .i64 dp] h fun v h'=>OwnC h.next h' 1 v (dp+1) (ints (shL kerf ws kl w ht (dp+1))):=by
 refine .of F.p hf hr (fun v h1 hv q=>by obtain⟨q,c,rfl,_⟩:=q.ex;cases hv) ?_
 have kb:=WF.get_lt hr.wf gb
 have hbs:∀x∈boardsL w ht,1≤x.1∧1≤x.2:=fun x hx=>by have:=boards_of hx;omega
 refine y4 ?_;refine yB ?_;refine yM ?_;refine y3 ?_;refine y4 ?_;refine yM ?_;refine yM ?_
 refine wO_val (a_build (by exact rfl)) ?_;refine wO_val a_new ?_
 refine yS ?_;refine y3 ?_;refine y4 ?_
 refine wO_val a_mkMap ?_
 refine wO_val a_new ?_;refine yS ?_
 refine y3 ?_;refine wE_seq ?_;refine y4 ?_;refine yM ?_;refine yM ?_
 refine WO.gen ?_
 intro hA hAe
 have A1:∀z,z<h.next→hA.get z=h.get z:=fun z hz=>by rw[hAe];simp(disch:=first|omega|(simp only[z1,z2];omega))only[z5,z4]
 have A2:hA.get h.next=some (.cells [.pointer (some ⟨bb,0,none⟩)] true 1):=by rw[hAe];(simp(disch:=first|omega|(simp only[z1,z2];omega))only[z3,z4,z5,z6,z7,z1,z2, *];exact rfl)
 have A9:hA.get (h.next+1)=some (.cells [.int .i64 w, .int .i64 ht] true 1):=by rw[hAe];(simp(disch:=first|omega|(simp only[z1,z2];omega)|(simp only[z1,z2];done)|fail)only[z8,z4,z5,z9,z7,z1,z2, *];exact rfl)
 have A3:hA.get (h.next+2)=some (.map []):=by rw[hAe];(simp(disch:=first|omega|(simp only[z1,z2];omega)|(simp only[z1,z2];done)|fail)only[z8,z4,z5,z9,z7,z1,z2, *];done)
 have A4:hA.get (h.next+3)=some (.cells [.map (some (h.next+2))] true 1):=by rw[hAe];(simp(disch:=first|omega|(simp only[z1,z2];omega)|(simp only[z1,z2];done)|fail)only[z8,z4,z5,z9,z7,z1,z2, *];exact rfl)
 have A5:hA.next=h.next+4:=by rw[hAe];rfl
 have A6:hA.log=[]:=by rw[hAe];simp(disch:=first|omega|(simp only[z1,z2];omega))only[Heap.log_wr_new,Heap.log_push];exact hr.log
 have A7:WF hA:=by rw[hAe];exact(((((hr.wf.push _).push _).as (AS.wr _ _ _ _)).push _).push _).as (AS.wr _ _ _ _)
 clear hAe
 refine yC ?_
 refine FW.al (boards94 F.p F.f94 (.of A7) w ht) (fun _ _ _ q=>q) ?_
 rintro _ h1 hx1 ⟨rfl,hn1,gp,gx⟩
 have eA:({hA with log:=[]}:Heap).next=h.next+4:=A5
 rw[eA]at hn1 gp gx
 rw[eA]
 have B1:∀z,z<h.next→h1.get z=h.get z:=fun z hz=>(hx1.old z (by omega)).trans (A1 z hz)
 have B2:=(hx1.old _ (by omega)).trans A2
 have B9:=(hx1.old _ (by omega)).trans A9
 have B3:=(hx1.old _ (by omega)).trans A3
 have B4:=(hx1.old _ (by omega)).trans A4
 have B6:h1.log=[]:=hx1.log.trans A6
 have B7:WF h1:=hx1.wf A7
 clear hx1 A1 A2 A3 A4 A6 A7 A9
 refine y3 ?_;refine wE_block ?_
 refine inner_range (q:=h.next+2) (all:=boardsL w ht) (O:=fun d=> .map (ents (tab0 ws kl d))) rfl (by rfl) (by rw[F.f136];rfl) (by omega) (by omega) B6 B7 ?_ (by omega) ?_
 ·have Y:YldB T (h.next+2) (h1.next+1) h1.next boardV (boardsL w ht) fun d H=>PW h1.next (h.next+2) h1 (.loop [(1, .int .i64 w),(2, .int .i64 ht),(3, .int .i64 dp),(4, .pointer (some ⟨h.next,0,none⟩)),(9, .pointer (some ⟨h.next+1,0,none⟩)),(10, .pointer (some ⟨h.next+3,0,none⟩)),(26,fn2 136 (h.next+4) (h.next+5))] [27] asgSa bodySa 0 .normal) (fun d=> .map (ents (tab0 ws kl d))) d H:=by
   refine⟨fun done x H hx hrH hN hP=> ?_,fun d H H' hP hN hag=>PW.stable (by omega) d H H' hP hN hag⟩
   obtain⟨x1,x2⟩:=x
   refine FW.mono' (FW.withAS F.p (sboard_round F hrH (a:=x1) (b:=x2) (t:=tab0 ws kl done) hn hP.loop ((hP.old _ (by omega) (by omega)).trans B2) ((hP.old _ (by omega) (by omega)).trans B4) hP.obj ((hP.old bb (by omega) (by omega)).trans ((B1 bb kb).trans gb)) (SliceOf.agree hks (by omega) fun b0 vs o t hb he=>(hP.old b0 (by omega) (by omega)).trans (B1 b0 hb)) (SliceOf.agree hws (by omega) fun b0 vs o t hb he=>(hP.old b0 (by omega) (by omega)).trans (B1 b0 hb))) hrH.log) ?_
   rintro r H' ⟨hA',q1,q2,q3,q4⟩
   exact⟨q1,fun z hz=>(q2 z hz).1,⟨fun y hy hne=>(q3 y (by omega) hne).trans (hP.old y hy hne),by rw[tab0_snoc];exact q4,(q3 _ (by omega) (by omega)).trans hP.loop,Nat.lt_of_lt_of_le hP.nx hA'.next⟩⟩
  exact boards136B F.p F.f136 (.of (B7.push _)) (bw:=h.next+4) (bh:=h.next+5) (l:=h1.next) (N:=h1.next+1) (lo:=h.next+2) (w:=w) (ht:=ht) (Nat.le_refl _) (by show h.next+2≤h1.next+1;omega) hw hh Y (fun d H hP=>(hP.old _ (by omega) (by omega)).trans gp) (fun d H hP=>(hP.old _ (by omega) (by omega)).trans gx)
   ⟨fun z hz _=>z4 hz,(z4 (by omega)).trans B3,z3 _ _,Nat.lt_succ_self _⟩
 intro h3 c1 c2 c3 c4 c5
 have D1:∀z,z<h.next→h3.get z=h.get z:=fun z hz=>(c4 _ (by omega) (by omega)).trans (B1 z hz)
 have D2:=(c4 _ (by omega) (by omega)).trans B2
 have D9:=(c4 _ (by omega) (by omega)).trans B9
 have D4:=(c4 _ (by omega) (by omega)).trans B4
 clear B1 B2 B3 B4 B6 B7 B9 c4 gp gx
 refine kB_n ?_;refine kS_n ?_;refine y4 ?_;refine yL ?_;refine yN ?_
 refine wO_val (a_lookup (x:=((w:Int),(ht:Int))) (by exact rfl) (by exact rfl) c5) ?_
 refine wO_val (a_bslice (by exact rfl) (by exact rfl)) ?_;refine yM ?_;refine y3 ?_;refine wE_seq ?_;refine y4 ?_;refine yM ?_;refine yM ?_;refine y3 ?_;refine wE_block ?_
 refine WE.gen ?_
 intro hB hBe
 have I0:ShI kerf ws kl w ht h.next bb 0 h (.slice (some ⟨h3.next,0,none⟩) 1 1) hB:=by
  refine⟨fun z hz=> ?_,?_,?_,⟨h.next+2,?_,?_⟩,⟨_,_,rfl,by omega,?_,?_,rfl, .inr rfl⟩,?_,?_,?_⟩
  ·rw[hBe];exact(z4 (by omega)).trans (D1 z hz)
  ·rw[hBe];exact(z4 (by omega)).trans D2
  ·rw[hBe];exact(z4 (by omega)).trans D9
  ·rw[hBe];exact(z4 (by omega)).trans D4
  ·rw[hBe];exact(z4 (by omega)).trans c5
  ·rw[hBe];exact Nat.lt_succ_self _
  ·rw[hBe];exact z3 _ _
  ·rw[hBe];exact c1
  ·rw[hBe];exact c2.push _
  ·rw[hBe];show h.next+4≤h3.next+1;omega
 clear hBe D1 D2 D9 D4 c1 c2 c5
 refine wE_loop (fun m e ds h'=>∃(i:Nat) (v:Value),i≤dp∧m=dp-i∧e=[(1, .int .i64 w),(2, .int .i64 ht),(4, .pointer (some ⟨h.next,0,none⟩)),(9, .pointer (some ⟨h.next+1,0,none⟩)),(10, .pointer (some ⟨h.next+3,0,none⟩)),(13,v),(50, .int .i64 dp),(51, .int .i64 i)]∧ds=[]∧ShI kerf ws kl w ht h.next bb i h v h')
  ⟨0,_,Nat.zero_le _,rfl,rfl,rfl,I0⟩ ?_
 clear I0
 rintro m e ds H ⟨i,v,hi,rfl,rfl,rfl,I⟩
 by_cases hlt:i<dp
 ·obtain⟨mb,g10,gm⟩:=I.tab
  have km:=WF.get_lt I.wf gm
  have i4:=I.g4
  have i9:=I.g9
  have nx:=I.nx
  have m10:=ne_cm g10 gm
  have m4:=ne_cm i4 gm
  have m9:=ne_cm i9 gm
  refine y4 ?_;refine yt ?_;refine y3 ?_;refine wE_seq ?_;refine yY ?_;refine wE_skip ?_;refine kS_n ?_;refine wE_seq ?_;refine wE_block ?_;refine y4 ?_
  refine wO_val a_mkMap ?_
  refine wO_val a_new ?_;refine yS ?_
  refine y3 ?_;refine wE_seq ?_;refine y4 ?_;refine yM ?_;refine yM ?_
  refine WO.gen ?_
  intro hA hAe
  have A1:∀z,z<H.next→hA.get z=H.get z:=fun z hz=>by rw[hAe];simp(disch:=first|omega|(simp only[z1,z2];omega))only[z5,z4]
  have A3:hA.get H.next=some (.map []):=by rw[hAe];(simp(disch:=first|omega|(simp only[z1,z2];omega))only[z3,z4,z5,z6,z7,z1,z2, *];done)
  have A4:hA.get (H.next+1)=some (.cells [.map (some H.next)] true 1):=by rw[hAe];(simp(disch:=first|omega|(simp only[z1,z2];omega)|(simp only[z1,z2];done)|fail)only[z8,z4,z5,z9,z7,z1,z2, *];exact rfl)
  have A5:hA.next=H.next+2:=by rw[hAe];rfl
  have A6:hA.log=[]:=by rw[hAe];simp(disch:=first|omega|(simp only[z1,z2];omega))only[Heap.log_wr_new,Heap.log_push];exact I.log
  have A7:WF hA:=by rw[hAe];exact((I.wf.push _).push _).as (AS.wr _ _ _ _)
  clear hAe
  refine yC ?_
  refine FW.al (boards94 F.p F.f94 (.of A7) w ht) (fun _ _ _ q=>q) ?_
  rintro _ h1 hx1 ⟨rfl,hn1,gp,gx⟩
  have eA:({hA with log:=[]}:Heap).next=H.next+2:=A5
  rw[eA]at hn1 gp gx
  rw[eA]
  have B1:∀z,z<H.next→h1.get z=H.get z:=fun z hz=>(hx1.old z (by omega)).trans (A1 z hz)
  have B3:=(hx1.old _ (by omega)).trans A3
  have B4:=(hx1.old _ (by omega)).trans A4
  have B6:h1.log=[]:=hx1.log.trans A6
  have B7:WF h1:=hx1.wf A7
  clear hx1 A1 A3 A4 A6 A7
  refine y3 ?_;refine wE_block ?_
  refine inner_range (q:=H.next) (all:=boardsL w ht) (O:=fun d=> .map (ents (tabD kerf (tabS kerf ws kl (boardsL w ht) i) d))) rfl (by rfl) (by rw[F.f136];rfl) (by omega) (by omega) B6 B7 ?_ (by omega) ?_
  ·have hBd:=tabS_bd (kl:=kl) hW.1 hk.1 hws0 hbs i
   have Y:Yld T H.next (h1.next+1) h1.next boardV (boardsL w ht) fun d H2=>PW h1.next H.next h1 (.loop [(1, .int .i64 w),(2, .int .i64 ht),(4, .pointer (some ⟨h.next,0,none⟩)),(9, .pointer (some ⟨h.next+1,0,none⟩)),(10, .pointer (some ⟨h.next+3,0,none⟩)),(13,v),(14, .pointer (some ⟨H.next+1,0,none⟩)),(50, .int .i64 dp),(51, .int .i64 i),(56,fn2 136 (H.next+2) (H.next+3))] [57] asgSc bodySc 0 .normal) (fun d=> .map (ents (tabD kerf (tabS kerf ws kl (boardsL w ht) i) d))) d H2:=by
    refine⟨fun done x H2 hx hrH hN hP=> ?_,fun d H2 H' hP hN hag=>PW.stable (by omega) d H2 H' hP hN hag⟩
    have hxb:=boards_of hx
    obtain⟨x1,x2⟩:=x
    simp only at hxb
    have ga:∀z,z<H.next→H2.get z=H.get z:=fun z hz=>(hP.old z (by omega) (by omega)).trans (B1 z hz)
    refine FW.mono' (FW.withAS F.p (snext_round F hrH (a:=x1) (b:=x2) (mb:=mb) (t:=tabS kerf ws kl (boardsL w ht) i) (u:=tabD kerf (tabS kerf ws kl (boardsL w ht) i) done) (by omega) (by omega) hk (fun y hy=> ?_) hP.loop ((ga _ (by omega)).trans i4) ((ga _ (by omega)).trans g10) ((hP.old _ (by omega) (by omega)).trans B4) ((ga _ km).trans gm) hP.obj ((ga bb (by omega)).trans ((I.old bb kb).trans gb)) (by omega)) hrH.log) ?_
    ·have h1:=cut_bd hW.1 hk.1 hBd hy
     have h2:W*((x1:Int)*(x2:Int))≤1000000000*(1000*1000):=Int.le_trans (area_mono (W:=W) (a:=x1) (b:=x2) (c:=1000) (d:=1000) hW.1 (by omega) (by omega) (by omega) (by omega)) (Int.mul_le_mul_of_nonneg_right hW.2 (by omega))
     omega
    ·rintro r H' ⟨hA',q1,q2,q3,q4⟩
     exact⟨q1,fun z hz=>by have:=q2 z hz;omega,⟨fun y hy hne=>(q3 y (by omega) hne).trans (hP.old y hy hne),by rw[tabD_snoc];exact q4,(q3 _ (by omega) (by omega)).trans hP.loop,Nat.lt_of_lt_of_le hP.nx hA'.next⟩⟩
   exact boards136 F.p F.f136 (.of (B7.push _)) (bw:=H.next+2) (bh:=H.next+3) (l:=h1.next) (N:=h1.next+1) (lo:=H.next) (w:=w) (ht:=ht) (Nat.le_refl _) (by show H.next≤h1.next+1;omega) hw hh Y (fun d H2 hP=>(hP.old _ (by omega) (by omega)).trans gp) (fun d H2 hP=>(hP.old _ (by omega) (by omega)).trans gx)
    ⟨fun z hz _=>z4 hz,(z4 (by omega)).trans B3,z3 _ _,Nat.lt_succ_self _⟩
  intro h3 c1 c2 c3 c4 c5
  have D1:∀z,z<H.next→h3.get z=H.get z:=fun z hz=>(c4 _ (by omega) (by omega)).trans (B1 z hz)
  have D4:=(D1 _ (by omega)).trans g10
  have D9:=(D1 _ (by omega)).trans i9
  have D14:=(c4 _ (by omega) (by omega)).trans B4
  clear B1 B3 B4 B6 B7 c4 gp gx
  refine kB_n ?_;refine kS_n ?_;refine y4 ?_;refine yL ?_;refine yS ?_;refine y3 ?_
  refine wE_region ?_;refine yM ?_;refine yL ?_
  refine yN ?_
  refine wO_val (a_lookup (t:=tabS kerf ws kl (boardsL w ht) (i+1)) (x:=((w:Int),(ht:Int))) (by exact rfl) (by exact rfl) ((z5 (by omega)).trans c5)) ?_
  refine wO_val (a_bslice (by exact rfl) (by exact rfl)) ?_
  refine WO.gen ?_
  intro hB hBe
  have E1:∀z,z<H.next→z≠h.next+3→hB.get z=H.get z:=fun z hz hne=>by rw[hBe];exact(z4 (by show z<h3.next;omega)).trans ((z5 hne).trans (D1 z hz))
  have E3:hB.get H.next=some (.map (ents (tabS kerf ws kl (boardsL w ht) (i+1)))):=by rw[hBe];exact(z4 (by show H.next<h3.next;omega)).trans ((z5 (by omega)).trans c5)
  have E10:hB.get (h.next+3)=some (.cells [.map (some H.next)] true 1):=by rw[hBe];exact(z4 (by show h.next+3<h3.next;omega)).trans (Heap.get_wr_new D4)
  have Es:srcCells hB 1 (.slice (some ⟨h3.next,0,none⟩) 1 1)=some ([.int .i64 (look (tabS kerf ws kl (boardsL w ht) (i+1)) (w,ht))],1):=by rw[hBe];exact src_slice (z3 _ _) rfl rfl
  have E5:hB.next=h3.next+1:=by rw[hBe];rfl
  have E6:hB.log=[]:=by rw[hBe];exact(Heap.log_wr_new (o:= .cells [.map (some H.next)] true 1) (by omega)).trans c1
  have E7:WF hB:=by rw[hBe];exact(c2.as (AS.wr _ _ _ _)).push _
  clear hBe D1 D4 D9 D14 c5 c1 c2
  have own:=(I.own.keep (h':=hB) (by omega) fun z hz hz2=>E1 z hz2 (by omega))
  refine wO_app1c own (by omega) (by omega) (by omega) (by omega) (by exact rfl) (by exact rfl) Es rfl rfl ?_
  intro hC f1 f2 f3 f4 f5
  have f5':∀z,z<hB.next→z<h.next+4→hC.get z=hB.get z:=fun z hz hz4=>f5 z hz fun q a c e=>by
   obtain⟨q',c',e',hq',_⟩:=own.ex
   rw[e']at e;cases e
   omega
  have f5m:hC.get H.next=hB.get H.next:=f5 _ (by omega) fun q a c e=>by
   obtain⟨q',c',e',hq',hq2,hq3,_⟩:=own.ex
   rw[e']at e;cases e
   rintro rfl
   rw[E3]at hq3;cases hq3
  refine yM ?_;refine wO_nil ?_;refine y1 ?_;refine kB_n ?_;refine kS_n ?_;refine wE_region ?_;refine yinc ?_;refine yM ?_;refine y3 ?_
  refine⟨dp-(i+1),by omega,i+1,_,by omega,rfl,rfl,rfl,fun z hz=> ?_,?_,?_,⟨H.next,?_,?_⟩,?_,?_,?_,?_⟩
  ·exact(f5' z (by omega) (by omega)).trans ((E1 z (by omega) (by omega)).trans (I.old z hz))
  ·exact(f5' _ (by omega) (by omega)).trans ((E1 _ (by omega) (by omega)).trans i4)
  ·exact(f5' _ (by omega) (by omega)).trans ((E1 _ (by omega) (by omega)).trans i9)
  ·exact(f5' _ (by omega) (by omega)).trans E10
  ·exact f5m.trans E3
  ·rw[shL_succ]
   have:=f1.low (lo':=h.next+4) (by omega)
   simp only[ints,List.map_append]at this⊢
   exact this
  ·exact f3.trans E6
  ·exact f4 E7
  ·omega
 ·obtain rfl:i=dp:=by omega
  have lg:=I.log
  refine y4 ?_;refine yf ?_;refine y3 ?_;refine wE_seq ?_;refine yX ?_;refine wE_exit ?_;refine kS_e ?_;refine kS_e ?_;refine kB_e ?_;refine kS_n ?_
  refine y4 ?_;refine yM ?_;refine yM ?_;refine y3 ?_;refine wE_ret ?_
  exact endA_ret (vs:=[v]) lg (by rfl) (I.own.low (by omega))
end Go.A.Pk
end
section
namespace Go.A.Pk
def ShF(kerf:Int)(ws:List Int)(kl:List Kd):Nat→Int×Int→Int
 |0,p=>if 1≤p.1∧1≤p.2 then leafM ws (leavesL p.1.toNat p.2.toNat kl 0) 0 else 0
 |d+1,p=>if 1≤p.1∧1≤p.2 then foldM (fun x=>ShF kerf ws kl d (oneB x p.1.toNat p.2.toNat)+ShF kerf ws kl d (twoB kerf x p.1.toNat p.2.toNat)) (cutsL p.1.toNat p.2.toNat) (ShF kerf ws kl d p)else 0
theorem ShF_out{kerf:Int}{ws:List Int}{kl:List Kd}{p:Int×Int}(h:¬ (1≤p.1∧1≤p.2)):∀d,ShF kerf ws kl d p=0
 |0=>if_neg h
 |_+1=>if_neg h
theorem ShF_zero{kerf:Int}{ws:List Int}{kl:List Kd}{a b:Nat}(ha:1≤a)(hb:1≤b):ShF kerf ws kl 0 ((a:Int),(b:Int))=leafM ws (leavesL a b kl 0) 0:=if_pos (by dsimp only;omega)
theorem ShF_succ{kerf:Int}{ws:List Int}{kl:List Kd}{a b:Nat}(ha:1≤a)(hb:1≤b)(d:Nat):ShF kerf ws kl (d+1) ((a:Int),(b:Int))=foldM (fun x=>ShF kerf ws kl d (oneB x a b)+ShF kerf ws kl d (twoB kerf x a b)) (cutsL a b) (ShF kerf ws kl d ((a:Int),(b:Int))):=if_pos (by dsimp only;omega)
theorem leafM_ge{ws:List Int}{ys:List (Nat×Nat)}{m:Int}:m≤leafM ws ys m∧∀y∈ys,ws.getD y.2 0≤leafM ws ys m:=foldM_ge (f:=fun y:Nat×Nat=>ws.getD y.2 0)
theorem leafM_top{ws:List Int}:∀{ys:List (Nat×Nat)} {m:Int},(∀y∈ys,ws.getD y.2 0≤m)→leafM ws ys m=m
 |[],_,_=>rfl
 |y::ys,m,h=>by
  have h1:=h y (List.mem_cons_self ..)
  have e:mx m (ws.getD y.2 0)=m:=if_neg (by omega)
  show leafM ws ys (mx m (ws.getD y.2 0))=m
  rw[e]
  exact leafM_top fun z hz=>h z (List.mem_cons_of_mem _ hz)
theorem leafM_idem{ws:List Int}{ys:List (Nat×Nat)}{m:Int}:leafM ws ys (leafM ws ys m)=leafM ws ys m:=leafM_top leafM_ge.2
theorem look_leafS{ws:List Int}{a b:Nat}:∀(ys:List (Nat×Nat)) (t:Tab) (y:Int×Int),look (leafS ws a b ys t) y=if y=((a:Int),(b:Int))then leafM ws ys (look t (a,b))else look t y
 |[],t,y=>by
  by_cases h:y=((a:Int),(b:Int))
  ·rw[if_pos h,h];rfl
  ·rw[if_neg h];rfl
 |x::ys,t,y=>by
  show look (leafS ws a b ys (upd t (a,b) (mx (look t (a,b)) (ws.getD x.2 0)))) y=_
  rw[look_leafS ys,look_upd,look_upd,if_pos rfl]
  by_cases h:y=((a:Int),(b:Int))
  ·rw[if_pos h,if_pos h];rfl
  ·rw[if_neg h,if_neg h,if_neg h]
def inL(xs:List (Nat×Nat))(y:Int×Int):Prop:=∃x∈xs,y=((x.1:Int),(x.2:Int))
theorem inL_snoc{xs:List (Nat×Nat)}{x:Nat×Nat}{y:Int×Int}:inL (xs++[x]) y↔inL xs y∨y=((x.1:Int),(x.2:Int)):=by
 constructor
 ·rintro⟨z,hz,h⟩
  rcases List.mem_append.1 hz with hz|hz
  ·exact .inl ⟨z,hz,h⟩
  ·rw[List.mem_singleton.1 hz]at h;exact .inr h
 ·rintro(⟨z,hz,h⟩|h)
  ·exact⟨z,List.mem_append_left _ hz,h⟩
  ·exact⟨x,List.mem_append_right _ (List.mem_singleton.2 rfl),h⟩
theorem snoc_ind{α:Type}{P:List α→Prop}(h0:P [])(h1:∀xs x,P xs→P (xs++[x]))(xs:List α):P xs:=by
 have:∀n (xs:List α),xs.length=n→P xs:=by
  intro n
  induction n with
  |zero=>intro xs h;rw[List.length_eq_zero_iff.1 h];exact h0
  |succ n ih=>
   intro xs h
   have hne:xs≠[]:=fun e=>by rw[e]at h;cases h
   rw[←List.dropLast_concat_getLast hne]
   exact h1 _ _ (ih _ (by rw[List.length_dropLast];omega))
 exact this _ xs rfl
theorem tab0_look{ws:List Int}{kl:List Kd}(xs:List (Nat×Nat)):∀y:Int×Int,(inL xs y→look (tab0 ws kl xs) y=leafM ws (leavesL y.1.toNat y.2.toNat kl 0) 0)∧(¬inL xs y→look (tab0 ws kl xs) y=0):=by
 induction xs using snoc_ind with
 |h0=>intro y;exact⟨fun⟨x,hx,_⟩=>by(cases hx),fun _=>rfl⟩
 |h1 xs x ih=>
  intro y
  rw[tab0_snoc,look_leafS,inL_snoc]
  by_cases h:y=((x.1:Int),(x.2:Int))
  ·rw[if_pos h]
   refine⟨fun _=> ?_,fun q=>absurd (.inr h) q⟩
   rw[h]
   have:=ih ((x.1:Int),(x.2:Int))
   by_cases hi:inL xs ((x.1:Int),(x.2:Int))
   ·rw[this.1 hi];exact leafM_idem
   ·rw[this.2 hi];rfl
  ·rw[if_neg h]
   exact⟨fun q=>(ih y).1 (q.resolve_right h),fun q=>(ih y).2 fun q'=>q (.inl q')⟩
theorem tabD_look{kerf:Int}{t:Tab}(xs:List (Nat×Nat)):∀y:Int×Int,(inL xs y→look (tabD kerf t xs) y=deepV kerf t y.1.toNat y.2.toNat)∧(¬inL xs y→look (tabD kerf t xs) y=0):=by
 induction xs using snoc_ind with
 |h0=>intro y;exact⟨fun⟨x,hx,_⟩=>by(cases hx),fun _=>rfl⟩
 |h1 xs x ih=>
  intro y
  rw[tabD_snoc,look_upd,inL_snoc]
  by_cases h:y=((x.1:Int),(x.2:Int))
  ·rw[if_pos h]
   exact⟨fun _=>by rw[h];rfl,fun q=>absurd (.inr h) q⟩
  ·rw[if_neg h]
   exact⟨fun q=>(ih y).1 (q.resolve_right h),fun q=>(ih y).2 fun q'=>q (.inl q')⟩
theorem inL_boards{w ht:Nat}{y:Int×Int}:inL (boardsL w ht) y↔1≤y.1∧y.1≤w∧1≤y.2∧y.2≤ht:=by
 constructor
 ·rintro⟨x,hx,rfl⟩
  have:=boards_of hx
  dsimp only
  omega
 ·rintro⟨h1,h2,h3,h4⟩
  refine⟨(y.1.toNat-1+1,y.2.toNat-1+1),boardsL_mem (by omega) (by omega),Prod.ext ?_ ?_⟩
  ·dsimp only;omega
  ·dsimp only;omega
theorem cut_in{kerf:Int}(hk:0≤kerf){a b:Nat}{x:Nat×Nat}(hx:x∈cutsL a b):(1≤(oneB x a b).1∧(oneB x a b).1≤a∧1≤(oneB x a b).2∧(oneB x a b).2≤b∨¬ (1≤a∧1≤b))∧(twoB kerf x a b).1≤a∧(twoB kerf x a b).2≤b:=by
 rcases cuts_of hx with⟨e3,_,_⟩|⟨e4,_,_⟩
 ·simp only[oneB,twoB,e3,if_true];omega
 ·have q3:¬x.1=3:=by omega
  simp only[oneB,twoB,if_neg q3];omega
theorem tabS_look{kerf:Int}(hk:0≤kerf){ws:List Int}{kl:List Kd}{w ht:Nat}:∀(d:Nat) (y:Int×Int),look (tabS kerf ws kl (boardsL w ht) d) y=if 1≤y.1∧y.1≤w∧1≤y.2∧y.2≤ht then ShF kerf ws kl d y else 0
 |0,y=>by
  by_cases h:1≤y.1∧y.1≤w∧1≤y.2∧y.2≤ht
  ·rw[if_pos h]
   refine((tab0_look _ y).1 (inL_boards.2 h)).trans ?_
   exact(if_pos ⟨h.1,h.2.2.1⟩:ShF kerf ws kl 0 y=_).symm
  ·rw[if_neg h]
   exact(tab0_look _ y).2 (fun q=>h (inL_boards.1 q))
 |d+1,y=>by
  by_cases h:1≤y.1∧y.1≤w∧1≤y.2∧y.2≤ht
  ·rw[if_pos h]
   refine((tabD_look _ y).1 (inL_boards.2 h)).trans ?_
   obtain⟨y1,y2⟩:=y
   obtain⟨h1,h2,h3,h4⟩:=h
   dsimp only at h1 h2 h3 h4
   obtain⟨a,rfl⟩:=Int.eq_ofNat_of_zero_le (show 0≤y1 by omega)
   obtain⟨b,rfl⟩:=Int.eq_ofNat_of_zero_le (show 0≤y2 by omega)
   rw[ShF_succ (by omega) (by omega)]
   have e:=tabS_look hk (ws:=ws) (kl:=kl) (w:=w) (ht:=ht) d ((a:Int),(b:Int))
   rw[if_pos ⟨h1,h2,h3,h4⟩]at e
   show foldM (fun x=>look (tabS kerf ws kl (boardsL w ht) d) (oneB x a b)+look (tabS kerf ws kl (boardsL w ht) d) (twoB kerf x a b)) (cutsL a b) (look (tabS kerf ws kl (boardsL w ht) d) (a,b))=_
   rw[e]
   refine foldM_congr fun x hx=> ?_
   have hc:=cut_in hk hx
   rw[tabS_look hk d,tabS_look hk d]
   congr 1
   ·rw[if_pos (by omega)]
   ·split
    ·rfl
    ·exact(ShF_out (by omega) d).symm
  ·rw[if_neg h]
   exact(tabD_look _ y).2 (fun q=>h (inL_boards.1 q))
theorem ShF_mono{kerf:Int}{ws:List Int}{kl:List Kd}(d:Nat)(p:Int×Int):ShF kerf ws kl d p≤ShF kerf ws kl (d+1) p:=by
 by_cases h:1≤p.1∧1≤p.2
 ·rw[show ShF kerf ws kl (d+1) p=_ from if_pos h]
  exact foldM_ge.1
 ·rw[ShF_out h,ShF_out h];exact Int.le_refl _
theorem ShF_monos{kerf:Int}{ws:List Int}{kl:List Kd}{d e:Nat}(h:d≤e)(p:Int×Int):ShF kerf ws kl d p≤ShF kerf ws kl e p:=by
 induction h with
 |refl=>exact Int.le_refl _
 |step _ ih=>exact Int.le_trans ih (ShF_mono _ _)
theorem ShF_le{kerf:Int}(hk:0≤kerf){ws:List Int}{kl:List Kd}:∀(d:Nat) (p:Int×Int),ShF kerf ws kl d p≤V kerf ws kl p:=by
 intro d
 induction d with
 |zero=>
  intro p
  by_cases h:1≤p.1∧1≤p.2
  ·obtain⟨y1,y2⟩:=p
   obtain⟨a,rfl⟩:=Int.eq_ofNat_of_zero_le (show 0≤y1 by dsimp only at h;omega)
   obtain⟨b,rfl⟩:=Int.eq_ofNat_of_zero_le (show 0≤y2 by dsimp only at h;omega)
   dsimp only at h
   rw[ShF_zero (by omega) (by omega),V_eq hk (by omega) (by omega)]
   exact foldM_ge.1
  ·rw[ShF_out h,V_out h];exact Int.le_refl _
 |succ d ih=>
  intro p
  by_cases h:1≤p.1∧1≤p.2
  ·obtain⟨y1,y2⟩:=p
   obtain⟨a,rfl⟩:=Int.eq_ofNat_of_zero_le (show 0≤y1 by dsimp only at h;omega)
   obtain⟨b,rfl⟩:=Int.eq_ofNat_of_zero_le (show 0≤y2 by dsimp only at h;omega)
   dsimp only at h
   rw[ShF_succ (by omega) (by omega)]
   refine foldM_le (ih _) fun x hx=> ?_
   rw[V_eq hk (by omega) (by omega)]
   have h1:=ih (oneB x a b)
   have h2:=ih (twoB kerf x a b)
   have:=(foldM_ge (f:=fun x=>V kerf ws kl (oneB x a b)+V kerf ws kl (twoB kerf x a b)) (xs:=cutsL a b) (m:=leafM ws (leavesL a b kl 0) 0)).2 x hx
   omega
  ·rw[ShF_out h,V_out h];exact Int.le_refl _
theorem foldM_start{α:Type}{f:α→Int}:∀{xs:List α} {m k:Int},m≤k→foldM f xs m≤foldM f xs k
 |[],_,_,h=>h
 |x::xs,m,k,h=>by
  show foldM f xs (mx m (f x))≤foldM f xs (mx k (f x))
  refine foldM_start ?_
  unfold mx
  split<;>split<;>omega
theorem ShF_V{kerf:Int}(hk:0≤kerf){ws:List Int}{kl:List Kd}:∀(d:Nat) (p:Int×Int),sz p≤d→ShF kerf ws kl d p=V kerf ws kl p:=by
 intro d
 induction d with
 |zero=>
  intro p h
  have hn:¬ (1≤p.1∧1≤p.2):=by unfold sz at h;omega
  rw[ShF_out hn,V_out hn]
 |succ d ih=>
  intro p hp
  by_cases h:1≤p.1∧1≤p.2
  ·obtain⟨y1,y2⟩:=p
   obtain⟨a,rfl⟩:=Int.eq_ofNat_of_zero_le (show 0≤y1 by dsimp only at h;omega)
   obtain⟨b,rfl⟩:=Int.eq_ofNat_of_zero_le (show 0≤y2 by dsimp only at h;omega)
   dsimp only at h
   have hab:a+b≤d+1:=by simpa[sz]using hp
   refine Int.le_antisymm (ShF_le hk _ _) ?_
   rw[ShF_succ (by omega) (by omega),V_eq hk (by omega) (by omega)]
   have e:foldM (fun x=>ShF kerf ws kl d (oneB x a b)+ShF kerf ws kl d (twoB kerf x a b)) (cutsL a b) (ShF kerf ws kl d ((a:Int),(b:Int)))=foldM (fun x=>V kerf ws kl (oneB x a b)+V kerf ws kl (twoB kerf x a b)) (cutsL a b) (ShF kerf ws kl d ((a:Int),(b:Int))):=foldM_congr fun x hx=>by
    have:=cut_lt hk hx
    rw[ih _ (by omega),ih _ (by omega)]
   rw[e]
   refine foldM_start ?_
   have:=ShF_monos (kerf:=kerf) (ws:=ws) (kl:=kl) (Nat.zero_le d) ((a:Int),(b:Int))
   rw[ShF_zero (by omega) (by omega)]at this
   exact this
  ·rw[ShF_out h,V_out h]
theorem ShF_nonneg{kerf:Int}{ws:List Int}{kl:List Kd}(d:Nat)(p:Int×Int):0≤ShF kerf ws kl d p:=by
 refine Int.le_trans ?_ (ShF_monos (Nat.zero_le d) p)
 by_cases h:1≤p.1∧1≤p.2
 ·rw[show ShF kerf ws kl 0 p=_ from if_pos h];exact leafM_ge.1
 ·rw[ShF_out h];exact Int.le_refl _
def enoughD(f:Nat→Int)(b:Int):Nat:=(List.range 41).findIdx fun d=>decide (f d=b)
theorem enough_of{f:Nat→Int}{b:Int}{d:Nat}(hd:d≤40)(h1:f d=b)(h2:∀j,j<d→f j≠b):enoughD f b=d:=by
 unfold enoughD
 have hl:d<(List.range 41).length:=by rw[List.length_range];omega
 rw[List.findIdx_eq hl]
 refine⟨by simpa using h1,fun j hj=> ?_⟩
 simpa using h2 j hj
end Go.A.Pk
end
section
set_option maxRecDepth 100000
namespace Go.A.Pk
variable {T:Nat→Option AFunc}
structure FnsNd (T:Nat→Option AFunc):Prop extends FnsC T where
 f106:T 106=some f106
 f125:T 125=some f125
 f143:T 143=some f143
 f145:T 145=some f145
 f169:T 169=some f169
 f170:T 170=some f170
 f171:T 171=some f171
 f172:T 172=some f172
 f173:T 173=some f173
theorem in77E(hp:primAS T)(hf:T 77=some f77){h:Heap}(hr:Rdy h){n a b:Int}:Pu T 77 [.int .i64 n, .int .i64 a, .int .i64 b] h (.bool (decide (a≤n∧n≤b))):=by
 by_cases q:a≤n∧n≤b
 ·rw[decide_eq_true q];exact in77T hp hf hr q
 ·rw[decide_eq_false q];exact in77F hp hf hr q
def nodeI(x:Nat×Int):Value:= .agg #[.int .u8 (x.1:Nat), .int .i64 x.2]
def badV:Value:= .iface 182 (.agg #[])
theorem need_ok(F:FnsNd T){h:Heap}(hr:Rdy h):Pu T 145 [.bool true] h (.tuple #[]):=by
 refine .of F.toFnsC.p F.f145 hr rfl ?_
 refine y4 ?_;refine yM ?_;refine yA ?_;refine y3 ?_;refine yX ?_;refine wE_skip ?_
 exact⟨⟨.inl rfl,rfl,hr.log,[],rfl,rfl⟩⟩
theorem need_no(F:FnsNd T){h:Heap}:CW T 145 [.bool false] h fun r h'=>r= .panic badV∧h'=h:=by
 refine CW.code F.f145 (WE.ok ?_)
 refine y4 ?_;refine yM ?_;refine yA ?_;refine y3 ?_;refine yY ?_;refine wE_region ?_;refine wO_val (a_build (by exact rfl)) ?_
 refine wO_val (show aop h h.next _ (.mkIface 182 (.tmp 4))=some (.val (.iface 182 (.agg #[])) h)from rfl) ?_
 refine wO_panic (show aop h h.next _ (.pnic (.tmp 5))=some (.panic badV h)from rfl) ?_
 exact kR_p ⟨rfl,rfl⟩
theorem asks143(F:FnsNd T){h:Heap}(hr:Rdy h):Pu T 143 [] h (.agg #[.func (.func 169) #[] #[], .func (.func 170) #[] #[], .func (.func 171) #[] #[], .func (.func 172) #[] #[], .func (.func 173) #[] #[]]):=by
 refine .of F.toFnsC.p F.f143 hr rfl ?_
 refine y4 ?_;refine wO_val a_new ?_;refine y3 ?_;refine y4 ?_;refine wO_val (a_build (by exact rfl)) ?_
 refine yS ?_;refine y3 ?_;refine wE_ret ?_
 exact endP_ret ((Heap.log_wr_new (Nat.le_refl _)).trans hr.log) (res_cells (b:=h.next) rfl (by(simp(disch:=first|omega|(simp only[z1,z2];omega))only[z3,z4,z5,z6,z7,z1,z2, *];exact rfl)) rfl rfl res_nil) rfl
theorem nothing125n(F:FnsNd T){h:Heap}(hr:Rdy h)(x:Int×Int):Pu T 125 [pairV x] h (.bool (decide (x.1<1∨x.2<1))):=by
 refine .of F.toFnsC.p F.f125 hr rfl ?_
 by_cases c1:x.1<1
 ·rw[decide_eq_true (show x.1<1∨x.2<1 from .inl c1)]
  unfold pairV
  refine y4 ?_;refine yB ?_;refine yM ?_;refine y3 ?_;refine y4 ?_;refine wO_val (a_iaddrA (i:=0) (by exact rfl) (by exact rfl) (by omega)) ?_
  refine yL ?_;refine yt ?_
  refine yM ?_;refine yP ?_;refine yP ?_;refine yP ?_;refine yT ?_;refine yM ?_;refine y3 ?_;refine wE_ret ?_
  exact endP_ret hr.log rfl rfl
 ·by_cases c2:x.2<1
  ·rw[decide_eq_true (show x.1<1∨x.2<1 from .inr c2)]
   unfold pairV
   refine y4 ?_;refine yB ?_;refine yM ?_;refine y3 ?_;refine y4 ?_;refine wO_val (a_iaddrA (i:=0) (by exact rfl) (by exact rfl) (by omega)) ?_
   refine yL ?_;refine yf ?_
   refine yM ?_;refine yO ?_;refine wO_val (a_iaddrA (i:=1) (by exact rfl) (by exact rfl) (by omega)) ?_;refine yO ?_
   refine yL ?_;refine yO ?_;refine yt ?_
   refine yU ?_;refine yM ?_;refine y3 ?_;refine wE_ret ?_
   exact endP_ret hr.log rfl rfl
  ·rw[decide_eq_false (show¬ (x.1<1∨x.2<1)from fun q=>q.elim c1 c2)]
   unfold pairV
   refine y4 ?_;refine yB ?_;refine yM ?_;refine y3 ?_;refine y4 ?_;refine wO_val (a_iaddrA (i:=0) (by exact rfl) (by exact rfl) (by omega)) ?_
   refine yL ?_;refine yf ?_
   refine yM ?_;refine yO ?_;refine wO_val (a_iaddrA (i:=1) (by exact rfl) (by exact rfl) (by omega)) ?_;refine yO ?_
   refine yL ?_;refine yO ?_;refine yf ?_
   refine yU ?_;refine yM ?_;refine y3 ?_;refine wE_ret ?_
   exact endP_ret hr.log rfl rfl
theorem isWaste169(F:FnsNd T){h:Heap}(hr:Rdy h)(q:Option Addr)(p:Int×Int)(x:Nat×Int):Pu T 169 [.pointer q,pairV p,nodeI x] h (.bool (decide (x.2=0))):=by
 refine .of F.toFnsC.p F.f169 hr rfl ?_
 obtain⟨p1,p2⟩:=p
 obtain⟨x1,x2⟩:=x
 unfold pairV nodeI
 by_cases hz:x2=0
 ·rw[decide_eq_true hz]
  refine y4 ?_;refine yB ?_;refine yB ?_;refine yM ?_;refine y3 ?_;refine y4 ?_
  refine yF ?_;refine yL ?_
  refine yt ?_;refine yM ?_;refine y3 ?_;refine wE_ret ?_
  exact endP_ret hr.log rfl rfl
 ·rw[decide_eq_false hz]
  refine y4 ?_;refine yB ?_;refine yB ?_;refine yM ?_;refine y3 ?_;refine y4 ?_
  refine yF ?_;refine yL ?_
  refine yf ?_;refine yM ?_;refine y3 ?_;refine wE_ret ?_
  exact endP_ret hr.log rfl rfl
theorem isAcross172(F:FnsNd T){h:Heap}(hr:Rdy h)(q:Option Addr)(p:Int×Int)(x:Nat×Int)(h1:1≤p.1∧p.1≤16):Pu T 172 [.pointer q,pairV p,nodeI x] h (.bool (decide (1≤x.2∧x.2≤p.1-1))):=by
 refine .of F.toFnsC.p F.f172 hr rfl ?_
 have hx:Ext h ((h.push (.cells [.int .i64 p.1, .int .i64 p.2] true 1)).push (.cells [.int .u8 x.1, .int .i64 x.2] true 1)):=((Ext.refl h).push _).push _
 obtain⟨p1,p2⟩:=p
 obtain⟨x1,x2⟩:=x
 dsimp only at h1 hx⊢
 unfold pairV nodeI
 have C:=in77E F.toFnsC.p F.toFnsC.f77 (.of (hx.wf hr.wf)) (n:=x2) (a:=1) (b:=p1-1)
 refine y4 ?_;refine yB ?_;refine yB ?_;refine yM ?_;refine y3 ?_;refine y4 ?_
 refine yF ?_;refine yL ?_
 refine wO_val (a_iaddrA (i:=0) (by exact rfl) (by exact rfl) (by omega)) ?_;refine yL ?_
 refine ysub ?_
 refine yC ?_
 refine FW.pu C ?_
 refine yM ?_;refine y3 ?_;refine wE_ret ?_
 exact endP_ret hr.log rfl rfl
theorem isAlong173(F:FnsNd T){h:Heap}(hr:Rdy h)(q:Option Addr)(p:Int×Int)(x:Nat×Int)(h1:1≤p.2∧p.2≤16):Pu T 173 [.pointer q,pairV p,nodeI x] h (.bool (decide (1≤x.2∧x.2≤p.2-1))):=by
 refine .of F.toFnsC.p F.f173 hr rfl ?_
 have hx:Ext h ((h.push (.cells [.int .i64 p.1, .int .i64 p.2] true 1)).push (.cells [.int .u8 x.1, .int .i64 x.2] true 1)):=((Ext.refl h).push _).push _
 obtain⟨p1,p2⟩:=p
 obtain⟨x1,x2⟩:=x
 dsimp only at h1 hx⊢
 unfold pairV nodeI
 have C:=in77E F.toFnsC.p F.toFnsC.f77 (.of (hx.wf hr.wf)) (n:=x2) (a:=1) (b:=p2-1)
 refine y4 ?_;refine yB ?_;refine yB ?_;refine yM ?_;refine y3 ?_;refine y4 ?_
 refine yF ?_;refine yL ?_
 refine wO_val (a_iaddrA (i:=1) (by exact rfl) (by exact rfl) (by omega)) ?_;refine yL ?_
 refine ysub ?_
 refine yC ?_
 refine FW.pu C ?_
 refine yM ?_;refine y3 ?_;refine wE_ret ?_
 exact endP_ret hr.log rfl rfl
end Go.A.Pk
end
section
set_option maxRecDepth 100000
namespace Go.A.Pk
variable {T:Nat→Option AFunc}
theorem plank_no{l:List Kd}{kind:Nat}{x2:Int}{p:Int×Int}(h:¬ (0≤x2∧x2<(l.length:Int))):(plankS l (kind,x2) p).1.ok=false:=by
 unfold plankS
 rw[if_neg (by dsimp only;omega)]
 rfl
theorem plank_at{l:List Kd}{kind i:Nat}{k:Kd}{p:Int×Int}(h:l[i]? =some k):(plankS l (kind,(i:Int)) p).1.ok=decide (isP k kind p):=by
 have hi:i<l.length:=(List.getElem?_eq_some_iff.1 h).1
 unfold plankS
 rw[if_pos (by dsimp only;omega),Int.toNat_natCast,h]
set_option maxHeartbeats 16000000 in
theorem isPlank170(F:FnsNd T){h:Heap}(hr:Rdy h){bb n c:Nat}{sa:Option Addr}{wv:Value}{kerf:Int}{l:List Kd}(gb:h.get bb=some (.cells [.slice sa n c, .int .i64 kerf,wv] true 1))(hs:SliceOf h 5 (.slice sa n c) n (kcs l))(hn:n<1000)(p:Int×Int)(x:Nat×Int):
 Pu T 170 [.pointer (some ⟨bb,0,none⟩),pairV p,nodeI x] h (.bool (plankS l (1,x.2) p).1.ok):=by
 refine .of F.toFnsC.p F.f170 hr rfl ?_
 have hx:Ext h ((h.push (.cells [.int .i64 p.1, .int .i64 p.2] true 1)).push (.cells [.int .u8 x.1, .int .i64 x.2] true 1)):=((Ext.refl h).push _).push _
 have kb:=WF.get_lt hr.wf gb
 obtain rfl:n=l.length:=by have:=hs.len;rw[kcs_length]at this;omega
 obtain⟨p1,p2⟩:=p
 obtain⟨x1,x2⟩:=x
 dsimp only at hx⊢
 unfold pairV nodeI
 have C:=isKind97 F.toFnsC (.of (hx.wf hr.wf)) (a:=sa) (n:=l.length) (c:=c) kerf x2 (by omega)
 by_cases hk:0≤x2∧x2<(l.length:Int)
 ·rw[decide_eq_true hk]at C
  obtain⟨i,rfl⟩:=Int.eq_ofNat_of_zero_le hk.1
  have hi:i<l.length:=by omega
  obtain⟨k,hkl⟩:∃k,l[i]? =some k:=⟨l[i],List.getElem?_eq_getElem hi⟩
  rw[plank_at hkl]
  rcases hs.inv with⟨_,_,h0,_⟩|⟨b,o,cap',hv,s,hcap⟩
  ·omega
  ·cases hv
   obtain⟨vs,own,t,g1,g2⟩:=slice_elem s hkl
   have kb1:=WF.get_lt hr.wf g1
   have e1:lget vs (o+i*5+1)=some (.int .i64 k.w):=by rw[elem_get g2 1 (by omega)];rfl
   have e2:lget vs (o+i*5+2)=some (.int .i64 k.h):=by rw[elem_get g2 2 (by omega)];rfl
   have L1:=leaves2 p1 p2 k.w k.h
   have hz:decide (isP k 1 (p1,p2))=decide (p1=k.w∧p2=k.h):=by
    by_cases q:p1=k.w∧p2=k.h
    ·rw[decide_eq_true q,decide_eq_true];exact .inl ⟨rfl,q.1.symm,q.2.symm⟩
    ·rw[decide_eq_false q,decide_eq_false]
     rintro(⟨_,a1,a2⟩|⟨a1,_⟩)
     ·exact q ⟨a1.symm,a2.symm⟩
     ·cases a1
   rw[hz]
   generalize decide (p1=k.w∧p2=k.h)=bv at*
   clear hz g2 hkl
   refine y4 ?_;refine yB ?_;refine yB ?_;refine yM ?_;refine y3 ?_;refine wE_seq ?_;refine wE_draw ?_
   refine qM ?_;refine wD_quiet rfl rfl rfl (by exact rfl) (by exact rfl) (by exact rfl) (a_nilchk (by exact rfl)) ?_;refine qF ?_
   refine qN ?_
   refine qF ?_
   refine qL ?_
   refine qC ?_
   refine FW.puD C (by apply ra_dropC rfl;apply ra_dropC rfl;apply ra_dropC rfl;apply ra_dropC rfl;apply ra_dropC rfl;apply ra_dropC rfl;exact ra_nil) ?_
   clear C
   refine qM ?_
   refine qN ?_
   refine qM ?_;refine wD_quiet rfl rfl rfl (by exact rfl) (by exact rfl) (by exact rfl) (a_nilchk (by exact rfl)) ?_;refine qF ?_
   refine qF ?_
   refine qL ?_
   refine qF ?_
   refine qL ?_
   refine wD_quiet rfl rfl rfl (by exact rfl) (by exact rfl) (by exact rfl) (a_iaddrS (by exact rfl) (by exact rfl) (by omega)) ?_;refine qF ?_
   refine wD_quiet rfl rfl rfl (by exact rfl) (by exact rfl) (by exact rfl) (a_load (by exact rfl) (by(simp(disch:=first|omega|(simp only[z1,z2];omega))only[z3,z4,z5,z6,z7,z1,z2, *];exact rfl)) (by assumption)) ?_
   refine qM ?_;refine wD_quiet rfl rfl rfl (by exact rfl) (by exact rfl) (by exact rfl) (a_nilchk (by exact rfl)) ?_;refine qF ?_
   refine qF ?_
   refine qL ?_
   refine qF ?_
   refine qL ?_
   refine wD_quiet rfl rfl rfl (by exact rfl) (by exact rfl) (by exact rfl) (a_iaddrS (by exact rfl) (by exact rfl) (by omega)) ?_;refine qF ?_
   refine wD_quiet rfl rfl rfl (by exact rfl) (by exact rfl) (by exact rfl) (a_load (by exact rfl) (by(simp(disch:=first|omega|(simp only[z1,z2];omega))only[z3,z4,z5,z6,z7,z1,z2, *];exact rfl)) (by assumption)) ?_
   refine wD_quiet rfl rfl rfl (by exact rfl) (by exact rfl) (by exact rfl) (a_build (by exact rfl)) ?_
   refine wD_quiet rfl rfl rfl (by exact rfl) (by exact rfl) (by exact rfl) (a_agg (b:=bv) (by exact rfl) (by exact rfl) L1) ?_
   refine wD_quiet rfl rfl rfl (by exact rfl) (by exact rfl) (by exact rfl) (a_pickT (by exact rfl) (by exact rfl)) ?_;refine qM ?_;refine wD_nil ?_;refine y1 ?_;refine kS_n ?_;refine wE_ret ?_
   exact endP_ret hr.log rfl rfl
 ·rw[decide_eq_false hk]at C
  rw[plank_no hk]
  refine y4 ?_;refine yB ?_;refine yB ?_;refine yM ?_;refine y3 ?_;refine wE_seq ?_;refine wE_draw ?_
  refine qM ?_;refine wD_quiet rfl rfl rfl (by exact rfl) (by exact rfl) (by exact rfl) (a_nilchk (by exact rfl)) ?_;refine qF ?_
  refine qN ?_
  refine qF ?_
  refine qL ?_
  refine qC ?_
  refine FW.puD C (by apply ra_dropC rfl;apply ra_dropC rfl;apply ra_dropC rfl;apply ra_dropC rfl;apply ra_dropC rfl;apply ra_dropC rfl;exact ra_nil) ?_
  clear C
  refine qM ?_;refine wD_off rfl rfl rfl (by exact rfl) ?_;refine wD_off rfl rfl rfl (by exact rfl) ?_;refine wD_off rfl rfl rfl (by exact rfl) ?_;refine wD_off rfl rfl rfl (by exact rfl) ?_;refine wD_off rfl rfl rfl (by exact rfl) ?_;refine wD_off rfl rfl rfl (by exact rfl) ?_
  refine wD_off rfl rfl rfl (by exact rfl) ?_;refine wD_off rfl rfl rfl (by exact rfl) ?_;refine wD_off rfl rfl rfl (by exact rfl) ?_;refine wD_off rfl rfl rfl (by exact rfl) ?_;refine wD_off rfl rfl rfl (by exact rfl) ?_;refine wD_off rfl rfl rfl (by exact rfl) ?_;refine wD_off rfl rfl rfl (by exact rfl) ?_;refine wD_off rfl rfl rfl (by exact rfl) ?_
  refine wD_off rfl rfl rfl (by exact rfl) ?_;refine wD_off rfl rfl rfl (by exact rfl) ?_;refine wD_off rfl rfl rfl (by exact rfl) ?_;refine wD_off rfl rfl rfl (by exact rfl) ?_;refine wD_off rfl rfl rfl (by exact rfl) ?_;refine wD_off rfl rfl rfl (by exact rfl) ?_;refine wD_off rfl rfl rfl (by exact rfl) ?_;refine wD_off rfl rfl rfl (by exact rfl) ?_
  refine wD_off rfl rfl rfl (by exact rfl) ?_;refine wD_quiet rfl rfl rfl (by exact rfl) (by exact rfl) (by exact rfl) (a_pickF (by exact rfl) (by exact rfl)) ?_;refine qM ?_;refine wD_nil ?_;refine y1 ?_;refine kS_n ?_
  refine wE_ret ?_
  exact endP_ret hr.log rfl rfl
set_option maxHeartbeats 16000000 in
theorem isTurned171(F:FnsNd T){h:Heap}(hr:Rdy h){bb n c:Nat}{sa:Option Addr}{wv:Value}{kerf:Int}{l:List Kd}(gb:h.get bb=some (.cells [.slice sa n c, .int .i64 kerf,wv] true 1))(hs:SliceOf h 5 (.slice sa n c) n (kcs l))(hn:n<1000)(p:Int×Int)(x:Nat×Int):
 Pu T 171 [.pointer (some ⟨bb,0,none⟩),pairV p,nodeI x] h (.bool (plankS l (2,x.2) p).1.ok):=by
 refine .of F.toFnsC.p F.f171 hr rfl ?_
 have hx:Ext h ((h.push (.cells [.int .i64 p.1, .int .i64 p.2] true 1)).push (.cells [.int .u8 x.1, .int .i64 x.2] true 1)):=((Ext.refl h).push _).push _
 have kb:=WF.get_lt hr.wf gb
 obtain rfl:n=l.length:=by have:=hs.len;rw[kcs_length]at this;omega
 obtain⟨p1,p2⟩:=p
 obtain⟨x1,x2⟩:=x
 dsimp only at hx⊢
 unfold pairV nodeI
 have C:=isKind97 F.toFnsC (.of (hx.wf hr.wf)) (a:=sa) (n:=l.length) (c:=c) kerf x2 (by omega)
 by_cases hk:0≤x2∧x2<(l.length:Int)
 ·rw[decide_eq_true hk]at C
  obtain⟨i,rfl⟩:=Int.eq_ofNat_of_zero_le hk.1
  have hi:i<l.length:=by omega
  obtain⟨k,hkl⟩:∃k,l[i]? =some k:=⟨l[i],List.getElem?_eq_getElem hi⟩
  rw[plank_at hkl]
  rcases hs.inv with⟨_,_,h0,_⟩|⟨b,o,cap',hv,s,hcap⟩
  ·omega
  ·cases hv
   obtain⟨vs,own,t,g1,g2⟩:=slice_elem s hkl
   have kb1:=WF.get_lt hr.wf g1
   have e1:lget vs (o+i*5+1)=some (.int .i64 k.w):=by rw[elem_get g2 1 (by omega)];rfl
   have e2:lget vs (o+i*5+2)=some (.int .i64 k.h):=by rw[elem_get g2 2 (by omega)];rfl
   have e4:lget vs (o+i*5+4)=some (.bool k.turn):=by rw[elem_get g2 4 (by omega)];rfl
   have L1:=leaves2 p1 p2 k.h k.w
   have hz:decide (isP k 2 (p1,p2))=(k.turn&&decide (p1=k.h∧p2=k.w)):=by
    by_cases q:k.turn=true∧p1=k.h∧p2=k.w
    ·rw[q.1,decide_eq_true q.2,decide_eq_true]
     ·rfl
     ·exact .inr ⟨rfl,q.1,q.2.1.symm,q.2.2.symm⟩
    ·rw[decide_eq_false]
     ·cases ht:k.turn with
      |false=>rfl
      |true=>rw[decide_eq_false fun r=>q ⟨ht,r⟩];rfl
     ·rintro(⟨a1,_⟩|⟨_,a1,a2,a3⟩)
      ·cases a1
      ·exact q ⟨a1,a2.symm,a3.symm⟩
   rw[hz]
   generalize decide (p1=k.h∧p2=k.w)=bv at*
   generalize k.turn=tu at*
   clear hz g2 hkl
   refine y4 ?_;refine yB ?_;refine yB ?_;refine yM ?_;refine y3 ?_;refine wE_seq ?_;refine wE_draw ?_
   refine qM ?_;refine wD_quiet rfl rfl rfl (by exact rfl) (by exact rfl) (by exact rfl) (a_nilchk (by exact rfl)) ?_;refine qF ?_
   refine qN ?_
   refine qF ?_
   refine qL ?_
   refine qC ?_
   refine FW.puD C (by apply ra_dropC rfl;apply ra_dropC rfl;apply ra_dropC rfl;apply ra_dropC rfl;apply ra_dropC rfl;apply ra_dropC rfl;exact ra_nil) ?_
   clear C
   cases tu with
   |true=>
    refine qM ?_;refine qM ?_;refine wD_quiet rfl rfl rfl (by exact rfl) (by exact rfl) (by exact rfl) (a_nilchk (by exact rfl)) ?_
    refine qF ?_;refine qF ?_
    refine qL ?_
    refine qF ?_
    refine qL ?_
    refine wD_quiet rfl rfl rfl (by exact rfl) (by exact rfl) (by exact rfl) (a_iaddrS (by exact rfl) (by exact rfl) (by omega)) ?_;refine qF ?_
    refine wD_quiet rfl rfl rfl (by exact rfl) (by exact rfl) (by exact rfl) (a_load (by exact rfl) (by(simp(disch:=first|omega|(simp only[z1,z2];omega))only[z3,z4,z5,z6,z7,z1,z2, *];exact rfl)) (by assumption)) ?_
    refine wD_quiet rfl rfl rfl (by exact rfl) (by exact rfl) (by exact rfl) (a_pickT (by exact rfl) (by exact rfl)) ?_;refine qM ?_
    refine qN ?_
    refine qM ?_;refine wD_quiet rfl rfl rfl (by exact rfl) (by exact rfl) (by exact rfl) (a_nilchk (by exact rfl)) ?_;refine qF ?_
    refine qF ?_
    refine qL ?_
    refine qF ?_
    refine qL ?_
    refine wD_quiet rfl rfl rfl (by exact rfl) (by exact rfl) (by exact rfl) (a_iaddrS (by exact rfl) (by exact rfl) (by omega)) ?_;refine qF ?_
    refine wD_quiet rfl rfl rfl (by exact rfl) (by exact rfl) (by exact rfl) (a_load (by exact rfl) (by(simp(disch:=first|omega|(simp only[z1,z2];omega))only[z3,z4,z5,z6,z7,z1,z2, *];exact rfl)) (by assumption)) ?_
    refine qM ?_;refine wD_quiet rfl rfl rfl (by exact rfl) (by exact rfl) (by exact rfl) (a_nilchk (by exact rfl)) ?_;refine qF ?_
    refine qF ?_
    refine qL ?_
    refine qF ?_
    refine qL ?_
    refine wD_quiet rfl rfl rfl (by exact rfl) (by exact rfl) (by exact rfl) (a_iaddrS (by exact rfl) (by exact rfl) (by omega)) ?_;refine qF ?_
    refine wD_quiet rfl rfl rfl (by exact rfl) (by exact rfl) (by exact rfl) (a_load (by exact rfl) (by(simp(disch:=first|omega|(simp only[z1,z2];omega))only[z3,z4,z5,z6,z7,z1,z2, *];exact rfl)) (by assumption)) ?_
    refine wD_quiet rfl rfl rfl (by exact rfl) (by exact rfl) (by exact rfl) (a_build (by exact rfl)) ?_
    refine wD_quiet rfl rfl rfl (by exact rfl) (by exact rfl) (by exact rfl) (a_agg (b:=bv) (by exact rfl) (by exact rfl) L1) ?_
    refine wD_quiet rfl rfl rfl (by exact rfl) (by exact rfl) (by exact rfl) (a_pickT (by exact rfl) (by exact rfl)) ?_;refine qM ?_;refine wD_nil ?_;refine y1 ?_;refine kS_n ?_;refine wE_ret ?_
    exact endP_ret hr.log rfl rfl
   |false=>
    refine qM ?_;refine qM ?_;refine wD_quiet rfl rfl rfl (by exact rfl) (by exact rfl) (by exact rfl) (a_nilchk (by exact rfl)) ?_
    refine qF ?_;refine qF ?_
    refine qL ?_
    refine qF ?_
    refine qL ?_
    refine wD_quiet rfl rfl rfl (by exact rfl) (by exact rfl) (by exact rfl) (a_iaddrS (by exact rfl) (by exact rfl) (by omega)) ?_;refine qF ?_
    refine wD_quiet rfl rfl rfl (by exact rfl) (by exact rfl) (by exact rfl) (a_load (by exact rfl) (by(simp(disch:=first|omega|(simp only[z1,z2];omega))only[z3,z4,z5,z6,z7,z1,z2, *];exact rfl)) (by assumption)) ?_
    refine wD_quiet rfl rfl rfl (by exact rfl) (by exact rfl) (by exact rfl) (a_pickT (by exact rfl) (by exact rfl)) ?_;refine qM ?_;refine wD_off rfl rfl rfl (by exact rfl) ?_;refine wD_off rfl rfl rfl (by exact rfl) ?_;refine wD_off rfl rfl rfl (by exact rfl) ?_;refine wD_off rfl rfl rfl (by exact rfl) ?_
    refine wD_off rfl rfl rfl (by exact rfl) ?_;refine wD_off rfl rfl rfl (by exact rfl) ?_;refine wD_off rfl rfl rfl (by exact rfl) ?_;refine wD_off rfl rfl rfl (by exact rfl) ?_;refine wD_off rfl rfl rfl (by exact rfl) ?_;refine wD_off rfl rfl rfl (by exact rfl) ?_;refine wD_off rfl rfl rfl (by exact rfl) ?_;refine wD_off rfl rfl rfl (by exact rfl) ?_
    refine wD_off rfl rfl rfl (by exact rfl) ?_;refine wD_off rfl rfl rfl (by exact rfl) ?_;refine wD_off rfl rfl rfl (by exact rfl) ?_;refine wD_off rfl rfl rfl (by exact rfl) ?_;refine wD_off rfl rfl rfl (by exact rfl) ?_;refine wD_off rfl rfl rfl (by exact rfl) ?_;refine wD_off rfl rfl rfl (by exact rfl) ?_;refine wD_off rfl rfl rfl (by exact rfl) ?_
    refine wD_off rfl rfl rfl (by exact rfl) ?_;refine wD_off rfl rfl rfl (by exact rfl) ?_;refine wD_off rfl rfl rfl (by exact rfl) ?_;refine wD_quiet rfl rfl rfl (by exact rfl) (by exact rfl) (by exact rfl) (a_pickF (by exact rfl) (by exact rfl)) ?_;refine qM ?_;refine wD_nil ?_
    refine y1 ?_;refine kS_n ?_;refine wE_ret ?_
    exact endP_ret hr.log rfl rfl
 ·rw[decide_eq_false hk]at C
  rw[plank_no hk]
  refine y4 ?_;refine yB ?_;refine yB ?_;refine yM ?_;refine y3 ?_;refine wE_seq ?_;refine wE_draw ?_
  refine qM ?_;refine wD_quiet rfl rfl rfl (by exact rfl) (by exact rfl) (by exact rfl) (a_nilchk (by exact rfl)) ?_;refine qF ?_
  refine qN ?_
  refine qF ?_
  refine qL ?_
  refine qC ?_
  refine FW.puD C (by apply ra_dropC rfl;apply ra_dropC rfl;apply ra_dropC rfl;apply ra_dropC rfl;apply ra_dropC rfl;apply ra_dropC rfl;exact ra_nil) ?_
  clear C
  refine qM ?_;refine wD_off rfl rfl rfl (by exact rfl) ?_;refine wD_off rfl rfl rfl (by exact rfl) ?_;refine wD_off rfl rfl rfl (by exact rfl) ?_;refine wD_off rfl rfl rfl (by exact rfl) ?_;refine wD_off rfl rfl rfl (by exact rfl) ?_;refine wD_off rfl rfl rfl (by exact rfl) ?_
  refine wD_off rfl rfl rfl (by exact rfl) ?_;refine wD_off rfl rfl rfl (by exact rfl) ?_;refine wD_off rfl rfl rfl (by exact rfl) ?_;refine wD_off rfl rfl rfl (by exact rfl) ?_;refine wD_quiet rfl rfl rfl (by exact rfl) (by exact rfl) (by exact rfl) (a_pickF (by exact rfl) (by exact rfl)) ?_;refine qM ?_
  refine wD_off rfl rfl rfl (by exact rfl) ?_;refine wD_off rfl rfl rfl (by exact rfl) ?_;refine wD_off rfl rfl rfl (by exact rfl) ?_;refine wD_off rfl rfl rfl (by exact rfl) ?_;refine wD_off rfl rfl rfl (by exact rfl) ?_;refine wD_off rfl rfl rfl (by exact rfl) ?_;refine wD_off rfl rfl rfl (by exact rfl) ?_;refine wD_off rfl rfl rfl (by exact rfl) ?_
  refine wD_off rfl rfl rfl (by exact rfl) ?_;refine wD_off rfl rfl rfl (by exact rfl) ?_;refine wD_off rfl rfl rfl (by exact rfl) ?_;refine wD_off rfl rfl rfl (by exact rfl) ?_;refine wD_off rfl rfl rfl (by exact rfl) ?_;refine wD_off rfl rfl rfl (by exact rfl) ?_;refine wD_off rfl rfl rfl (by exact rfl) ?_;refine wD_off rfl rfl rfl (by exact rfl) ?_
  refine wD_off rfl rfl rfl (by exact rfl) ?_;refine wD_off rfl rfl rfl (by exact rfl) ?_;refine wD_off rfl rfl rfl (by exact rfl) ?_;refine wD_off rfl rfl rfl (by exact rfl) ?_;refine wD_off rfl rfl rfl (by exact rfl) ?_;refine wD_off rfl rfl rfl (by exact rfl) ?_;refine wD_off rfl rfl rfl (by exact rfl) ?_
  refine wD_quiet rfl rfl rfl (by exact rfl) (by exact rfl) (by exact rfl) (a_pickF (by exact rfl) (by exact rfl)) ?_;refine qM ?_;refine wD_nil ?_;refine y1 ?_;refine kS_n ?_;refine wE_ret ?_
  exact endP_ret hr.log rfl rfl
end Go.A.Pk
end
section
set_option maxRecDepth 100000
namespace Go.A.Pk
variable {T:Nat→Option AFunc} {base:Nat} {rnd:Option Nat} {Q:XQ} {e:Env} {ds:Dfs} {h:Heap}
structure Rst (S:Nat→Prop) (h:Heap) (v:Value) (ns:List (Nat×Int)):Prop where
 sl:SliceOf h 2 v ns.length (ncI ns)
 u2:U2 h v
 cap:∃qa qc,v= .slice qa ns.length qc∧(qc<UNK∨qc=UNK)
 sep:∀b o n c,v= .slice (some ⟨b,o,none⟩) n c→¬S b∧b<h.next
theorem Rst.keep{S:Nat→Prop}{h h':Heap}{v:Value}{ns:List (Nat×Int)}(r:Rst S h v ns)(hn:h.next≤h'.next)(hg:∀z,z<h.next→¬S z→h'.get z=h.get z):Rst S h' v ns:=by
 obtain⟨r1,r2,r3,r4⟩:=r
 refine⟨?_,fun b o n e=> ?_,r3,fun b o n c e=>⟨(r4 b o n c e).1,Nat.lt_of_lt_of_le (r4 b o n c e).2 hn⟩⟩
 ·rcases r1.inv with⟨c,rfl,h0,h1⟩|⟨b,o,cap,rfl,s,hc⟩
  ·rw[h0,h1];exact .nil
  ·obtain⟨q1,q2⟩:=r4 _ _ _ _ rfl
   obtain⟨vs,own,t,g1,g2⟩:=s.obj
   exact .mem ⟨Nat.lt_of_lt_of_le q2 hn,⟨vs,own,t,(hg _ q2 q1).trans g1,g2⟩,s.len⟩ hc
 ·subst e
  obtain⟨q1,q2⟩:=r4 _ _ _ _ rfl
  obtain⟨vs,own,g⟩:=r2 b o n rfl
  exact⟨vs,own,(hg _ q2 q1).trans g⟩
theorem Rst.log{S:Nat→Prop}{h:Heap}{v:Value}{ns:List (Nat×Int)}(r:Rst S h v ns)(m:List Nat):Rst S {h with log:=m} v ns:=r.keep (h':={h with log:=m}) (Nat.le_refl _) fun _ _ _=>rfl
theorem Rst.ws{S:Nat→Prop}{h h':Heap}{v:Value}{ns:List (Nat×Int)}(r:Rst S h v ns)(w:Ws S h h'):Rst S h' v ns:=r.keep w.next w.old
theorem Rst.ext{S:Nat→Prop}{h h':Heap}{v:Value}{ns:List (Nat×Int)}(r:Rst S h v ns)(w:Ext h h'):Rst S h' v ns:=r.keep w.next fun z hz _=>w.old z hz
theorem wO_slice1{S:Nat→Prop}{os:List AOper}{dst:Option Nat}{a y:Operand}{v:Value}{x:Nat×Int}{ns:List (Nat×Int)}(s:Rst S h v (x::ns))(hlen:ns.length<100000)(hx:ev h e a=some v)(hy:ev h e y=some (.int .i64 (1:Nat)))(hS:∀z,S z→z<h.next)
 (hK:∀v' h',Ext h h'→(∃b o n c,v'= .slice (some ⟨b,o,none⟩) n c)→Rst S h' v' ns→WO T base rnd Q os (dstE e dst v') ds h'):WO T base rnd Q (⟨dst, .slice (.sl 2) a (some y) none none,none⟩::os) e ds h:=by
 obtain⟨r1,r2,⟨qa,qc,hv,hcap⟩,r4⟩:=s
 rcases r1.inv with⟨_,_,hz,_⟩|⟨b,o,cap,hv',s1,hc⟩
 ·simp at hz
 rw[hv']at hv
 injection hv with h1 h2 h3
 subst h1
 subst h3
 subst hv'
 obtain⟨q1,q2⟩:=r4 _ _ _ _ rfl
 obtain⟨vs,own,t,g1,g2⟩:=s1.obj
 have hl2:=s1.len
 simp only[List.length_cons]at g2 hl2 hc hx r2 q2
 have hdrop:ltake (ns.length*2) (ldrop (o+1*2) vs)=ncI ns:=by
  have:(ncI (x::ns)).drop 2=ncI ns:=rfl
  rw[←this,←g2]
  simp only[ltake_eq,ldrop_eq,List.drop_take,List.drop_drop,Nat.one_mul]
  congr 1
  omega
 have hlen':(ncI ns).length=ns.length*2:=ncI_len ns
 by_cases hU:cap=UNK
 ·subst hU
  obtain⟨vs',own',g3⟩:=r2 b o _ rfl
  rw[g1]at g3
  cases g3
  cases ns with
  |nil=>
   refine wO_val (a_slice_end hx hy g1 (by simp)) (hK _ _ ((Ext.refl h).push _) ⟨_,_,_,_,rfl⟩ ⟨?_,fun b' o' n' e'=>by cases e';exact⟨[],false,z3 _ _⟩,⟨_,_,rfl, .inr rfl⟩,fun b' o' n' c' e'=>by cases e';exact⟨fun q=>Nat.lt_irrefl _ (hS _ q),Nat.lt_succ_self _⟩⟩)
   exact .mem ⟨Nat.lt_succ_self _,⟨[],false,2,z3 _ _,rfl⟩,rfl⟩ (Nat.zero_le _)
  |cons y2 ns=>
   have e1:(y2::ns).length+1-1=(y2::ns).length:=by omega
   have A:=a_slice_lo (base:=base) hx hy g1 (show 1<(y2::ns).length+1 by simp)
   rw[e1]at A
   exact wO_val A (hK _ _ (.refl h) ⟨_,_,_,_,rfl⟩ ⟨.mem ⟨s1.lt,⟨vs,own,2,g1,hdrop⟩,hlen'⟩ (by unfold UNK;omega),fun b' o' n' e'=>by cases e';exact⟨vs,own,g1⟩,⟨_,_,rfl, .inr rfl⟩,fun b' o' n' c' e'=>by cases e';exact⟨q1,q2⟩⟩)
 ·have hcl:cap<UNK:=hcap.elim id fun q=>absurd q hU
  have e1:ns.length+1-1=ns.length:=by omega
  by_cases hck:cap=1
  ·subst hck
   have hn0:ns.length=0:=by omega
   have hop:aop h base e (.slice (.sl 2) a (some y) none none)=some (.val (.slice (some ⟨b,o,none⟩) ns.length 0) h):=by
    simp only[aop,hx,sliceOp,bnd_some hy,bnd_none,nbeq_not hU,nble_of (show 1≤ns.length+1 by omega),nble_of hc,nbeq_self,Bool.and_self,cond_true,cond_false,asPair,e1]
   refine wO_val hop (hK _ _ (.refl h) ⟨_,_,_,_,rfl⟩ ⟨?_,fun b' o' n' e'=>(by injection e' with e1 e2 e3;unfold UNK at e3 hcl;omega),⟨_,_,rfl, .inl (by omega)⟩,fun b' o' n' c' e'=>by cases e';exact⟨q1,q2⟩⟩)
   have:ns=[]:=List.length_eq_zero_iff.1 hn0
   subst this
   exact .mem ⟨s1.lt,⟨vs,own,t,g1,by show ltake (0*2) _=[];rw[Nat.zero_mul];cases ldrop o vs<;>rfl⟩,rfl⟩ (Nat.zero_le _)
  ·have A:=a_sliceU (base:=base) (size:=2) (hi:=none) hx (bnd_some hy) bnd_none (show 1≤ns.length+1 by omega) hc (by omega) hcl
   rw[e1]at A
   exact wO_val A (hK _ _ (.refl h) ⟨_,_,_,_,rfl⟩ ⟨.mem ⟨s1.lt,⟨vs,own,t,g1,hdrop⟩,hlen'⟩ (by omega),fun b' o' n' e'=>(by injection e' with e1 e2 e3;unfold UNK at e3 hcl;omega),⟨_,_,rfl, .inl (by omega)⟩,fun b' o' n' c' e'=>by cases e';exact⟨q1,q2⟩⟩)
theorem FW.pan{f:Nat}{args:List Value}{v:Value}{K:Env→Dfs→Heap→Prop}{dst:Option Nat}(H:CW T f args {h with log:=[]} fun r h'=>r= .panic v∧h'={h with log:=[]})(hK:Q (.panic v) e ds h):FW T (.func f) args {h with log:=[]} (KO K Q base dst e ds h.log):=by
 refine .func (CW.mono H ?_)
 rintro r h2 ⟨rfl,rfl⟩
 exact⟨hK⟩
theorem EvF.of_pan{f:Nat}{args:List Value}{v:Value}(H:CW T f args {h with log:=[]} fun r h'=>r= .panic v∧h'={h with log:=[]}):EvF T (.func f) args {h with log:=[]} (.panic v,{h with log:=[]}):=by
 obtain⟨r,h',⟨h1⟩,h2⟩:=FW.func H
 obtain⟨rfl,rfl⟩:=h2
 exact⟨_, ‹_›⟩
def fnL5:List Value:=[.func (.func 169) #[] #[], .func (.func 170) #[] #[], .func (.func 171) #[] #[], .func (.func 172) #[] #[], .func (.func 173) #[] #[]]
theorem fns_at{k:Nat}(h:k≤4):lget fnL5 (0+k*1)=some (.func (.func (169+k)) #[] #[]):=by
 rcases k with _|_|_|_|_|k
 ·rfl
 ·rfl
 ·rfl
 ·rfl
 ·rfl
 ·omega
def okN(l:List Kd)(p:Int×Int)(x:Nat×Int):Bool:=
 if x.1=0 then decide (x.2=0)else if x.1=1∨x.1=2 then(plankS l x p).1.ok else decide (1≤x.2∧x.2≤sizeI x p-1)
theorem meth(F:FnsNd T){h:Heap}(hr:Rdy h){bb n c:Nat}{sa:Option Addr}{wv:Value}{kerf:Int}{l:List Kd}(gb:h.get bb=some (.cells [.slice sa n c, .int .i64 kerf,wv] true 1))(hs:SliceOf h 5 (.slice sa n c) n (kcs l))(hn:n<1000)(p:Int×Int)(h1:1≤p.1∧p.1≤16)(h2:1≤p.2∧p.2≤16)(x:Nat×Int)(hx:x.1≤4):
 Pu T (169+x.1) [.pointer (some ⟨bb,0,none⟩),pairV p,nodeI x] h (.bool (okN l p x)):=by
 obtain⟨k,at'⟩:=x
 dsimp only at hx
 rcases k with _|_|_|_|_|k
 ·exact isWaste169 F hr _ p (0,at')
 ·exact isPlank170 F hr gb hs hn p (1,at')
 ·exact isTurned171 F hr gb hs hn p (2,at')
 ·exact isAcross172 F hr _ p (3,at') h1
 ·exact isAlong173 F hr _ p (4,at') h2
 ·omega
end Go.A.Pk
end
section
set_option maxRecDepth 100000
namespace Go.A.Pk
variable {T:Nat→Option AFunc} {base:Nat} {rnd:Option Nat} {Q:XQ} {e:Env} {ds:Dfs} {h:Heap}
theorem Gp.ofK(hp:primAS T){f q:Nat}{args:List Value}{c:ACode}{rs:List (Nat×Option (Option Nat))}{S:Nat→Prop}{Q Qp:Value→Heap→Prop}(hf:T f=some (.code c rs))(hq:q<h.next)
 (H:WE T h.next none c (endT rs S (fun v h1=>Q v h1∧q∈h1.log∧Dirty h1 q) Qp) (paramsE 0 args) [] h):Gp T f args h S (fun v h1=>Q v h1∧q∈h1.log∧Dirty h1 q) Qp:=by
 obtain⟨x,e,ds,h1,⟨m,hm⟩,⟨rfl,hl,hx⟩⟩:=H.ok
 have hA:=(ASall.all hp m).exec _ _ _ _ _ _ _ _ _ _ (hm m (Nat.le_refl _)) (Nat.le_refl _)
 refine CW.code hf ⟨x,e,[],h1,⟨m,hm⟩,?_⟩
 unfold endQ
 rcases hx with⟨hx,vs,hvs,hQ,hmem,hd⟩|⟨v,rfl,hQ⟩
 ·have key:Ws S h (gcA h h1 (oneV vs))∧((∃v,Res.ret (oneV vs)= .ret v∧Q v (gcA h h1 (oneV vs))∧q∈(gcA h h1 (oneV vs)).log∧Dirty (gcA h h1 (oneV vs)) q)∨∃v,Res.ret (oneV vs)= .panic v∧Qp v (gcA h h1 (oneV vs))):=by
   rw[gc_kept hq hmem hd]
   exact⟨Ws.of_as hA hl, .inl ⟨_,rfl,hQ,hmem,hd⟩⟩
  rcases hx with rfl|rfl<;>(simp only[hvs];exact key)
 ·exact⟨Ws.of_as hA hl, .inr ⟨v,rfl,hQ⟩⟩
theorem merge_keep{base z:Nat}:∀{m l:List Nat},z∈l→z∈mergeLog base l m
 |[],l,h=>h
 |b::m,l,h=>by
  simp only[mergeLog]
  refine merge_keep (m:=m) ?_
  rw[cond_eq_ite,cond_eq_ite]
  split
  ·split
   ·exact h
   ·exact List.mem_cons_of_mem _ h
  ·exact h
theorem FW.gpk{f:Nat}{args:List Value}{S:Nat→Prop}{Q' Qp:Value→Heap→Prop}{K:Env→Dfs→Heap→Prop}{dst:Option Nat}(H:Gp T f args {h with log:=[]} S Q' Qp)(hlog:∀v (h':Heap) l,Q' v h'→Q' v {h' with log:=l})(hlogp:∀v (h':Heap) l,Qp v h'→Qp v {h' with log:=l})
 (hK:∀v h',Ws S h h'→(∀z∈h.log,z∈h'.log)→Q' v h'→K (dstE e dst v) ds h')(hP:∀v h',Ws S h h'→Qp v h'→Q (.panic v) e ds h'):FW T (.func f) args {h with log:=[]} (KO K Q base dst e ds h.log):=by
 refine .func (CW.mono H ?_)
 rintro r h2 ⟨hx,⟨v,rfl,hq⟩|⟨v,rfl,hq⟩⟩
 ·exact⟨hK v _ hx.call (fun z hz=>merge_keep hz) (hlog v h2 _ hq)⟩
 ·exact⟨hP v _ hx.call (hlogp v h2 _ hq)⟩
theorem mem_wr_new{q base:Nat}{o:AObj}(hq:q<base):q∈(h.wr base q o).log:=by
 simp only[Heap.wr,nblt_of hq,cond_true]
 cases hl:lhas h.log q with
 |true=>simp only[cond_true];exact lhas_mem.1 hl
 |false=>simp only[cond_false];exact List.mem_cons_self ..
theorem mem_wr{q y base:Nat}{o:AObj}(hq:q∈h.log):q∈(h.wr base y o).log:=by
 simp only[Heap.wr,cond_eq_ite]
 split
 ·split
  ·exact hq
  ·exact List.mem_cons_of_mem _ hq
 ·exact hq
def Sv(lo z:Nat):Prop:=z=lo+6∨z=lo+2∨z=lo+4
def visV(lo:Nat):Value:= .func (.func 144) #[] #[.pointer (some ⟨lo+6,0,none⟩), .pointer (some ⟨lo+5,0,none⟩), .pointer (some ⟨lo,0,none⟩), .pointer (some ⟨lo+2,0,none⟩), .pointer (some ⟨lo+7,0,none⟩)]
structure Vst (lo bb:Nat) (h0 h:Heap) (ns:List (Nat×Int)) (wo wst de:Int) (us:List Int):Prop where
 nx:lo+8≤h.next
 old:∀z,z<lo→h.get z=h0.get z
 rest:∃v,h.get (lo+6)=some (.cells [v] true 1)∧Rst (Sv lo) h v ns
 all:h.get (lo+5)=some (.cells fnL5 true 1)
 bx:h.get lo=some (.cells [.pointer (some ⟨bb,0,none⟩)] true 1)
 out:h.get (lo+2)=some (.cells [.int .i64 wo, .int .i64 wst, .int .i64 de, .slice (some ⟨lo+4,0,none⟩) us.length us.length] true 1)
 vis:h.get (lo+7)=some (.cells [visV lo] true 1)
 usd:h.get (lo+4)=some (.cells (ints us) true 1)
variable {lo bb:Nat} {h0:Heap} {ns:List (Nat×Int)} {wo wst de:Int} {us:List Int}
theorem Vst.ext{h h':Heap}(s:Vst lo bb h0 h ns wo wst de us)(x:Ext h h'):Vst lo bb h0 h' ns wo wst de us:=by
 obtain⟨q1,q2,⟨v,q3,r⟩,q4,q5,q6,q7,q8⟩:=s
 have k:∀z,z<lo+8→h'.get z=h.get z:=fun z hz=>x.old z (by omega)
 exact⟨Nat.le_trans q1 x.next,fun z hz=>(k z (by omega)).trans (q2 z hz),⟨v,(k _ (by omega)).trans q3,r.ext x⟩,(k _ (by omega)).trans q4,(k _ (by omega)).trans q5,(k _ (by omega)).trans q6,(k _ (by omega)).trans q7,(k _ (by omega)).trans q8⟩
theorem Vst.log(s:Vst lo bb h0 h ns wo wst de us)(m:List Nat):Vst lo bb h0 {h with log:=m} ns wo wst de us:=by
 obtain⟨q1,q2,⟨v,q3,r⟩,q4,q5,q6,q7,q8⟩:=s
 exact⟨q1,q2,⟨v,q3,r.log m⟩,q4,q5,q6,q7,q8⟩
theorem Vst.setOut(s:Vst lo bb h0 h ns wo wst de us)(base:Nat)(wo' wst' de':Int):Vst lo bb h0 (h.wr base (lo+2) (.cells [.int .i64 wo', .int .i64 wst', .int .i64 de', .slice (some ⟨lo+4,0,none⟩) us.length us.length] true 1)) ns wo' wst' de' us:=by
 obtain⟨q1,q2,⟨v,q3,r⟩,q4,q5,q6,q7,q8⟩:=s
 exact⟨q1,fun z hz=>(z5 (by omega)).trans (q2 z hz),⟨v,(z5 (by omega)).trans q3,r.keep (Nat.le_refl _) fun z hz hn=>z5 (fun e=>hn (by unfold Sv;omega))⟩,(z5 (by omega)).trans q4,(z5 (by omega)).trans q5,Heap.get_wr_new q6,(z5 (by omega)).trans q7,(z5 (by omega)).trans q8⟩
theorem Vst.setUsed(s:Vst lo bb h0 h ns wo wst de us)(base:Nat){us':List Int}(hl:us'.length=us.length):Vst lo bb h0 (h.wr base (lo+4) (.cells (ints us') true 1)) ns wo wst de us':=by
 obtain⟨q1,q2,⟨v,q3,r⟩,q4,q5,q6,q7,q8⟩:=s
 exact⟨q1,fun z hz=>(z5 (by omega)).trans (q2 z hz),⟨v,(z5 (by omega)).trans q3,r.keep (Nat.le_refl _) fun z hz hn=>z5 (fun e=>hn (by unfold Sv;omega))⟩,(z5 (by omega)).trans q4,(z5 (by omega)).trans q5,by rw[hl];exact(z5 (by omega)).trans q6,(z5 (by omega)).trans q7,Heap.get_wr_new q8⟩
theorem Vst.setRest(s:Vst lo bb h0 h ns wo wst de us)(base:Nat){v:Value}{ns':List (Nat×Int)}(r':Rst (Sv lo) h v ns'):Vst lo bb h0 (h.wr base (lo+6) (.cells [v] true 1)) ns' wo wst de us:=by
 obtain⟨q1,q2,⟨_,q3,_⟩,q4,q5,q6,q7,q8⟩:=s
 exact⟨q1,fun z hz=>(z5 (by omega)).trans (q2 z hz),⟨v,Heap.get_wr_new q3,r'.keep (Nat.le_refl _) fun z hz hn=>z5 (fun e=>hn (by unfold Sv;omega))⟩,(z5 (by omega)).trans q4,(z5 (by omega)).trans q5,(z5 (by omega)).trans q6,(z5 (by omega)).trans q7,(z5 (by omega)).trans q8⟩
structure Stg (lo bb n0:Nat) (h0 h:Heap) (p:Int×Int) (x:Nat×Int) (ns:List (Nat×Int)) (wo wst de:Int) (us:List Int):Prop where
 wf:WF h
 st:Vst lo bb h0 h ns wo wst de us
 lg1:∀z∈h.log,Sv lo z
 lg2:lo+6∈h.log
 dty:Dirty h (lo+6)
 gx:h.get n0=some (.cells [.int .i64 p.1, .int .i64 p.2] true 1)
 gn:h.get (n0+1)=some (.cells [.int .u8 (x.1:Nat), .int .i64 x.2] true 1)
 nx:n0+1<h.next
 lo8:lo+8≤n0
variable {n0:Nat} {p:Int×Int} {x:Nat×Int}
theorem Dirty_wr{q y base:Nat}{o:AObj}(d:Dirty h q)(hq:q≠y):Dirty (h.wr base y o) q:=by
 obtain⟨vs,own,t,g,hs⟩:=d
 exact⟨vs,own,t,(z5 hq).trans g,hs⟩
theorem Stg.setOut(s:Stg lo bb n0 h0 h p x ns wo wst de us)(wo' wst' de':Int):Stg lo bb n0 h0 (h.wr n0 (lo+2) (.cells [.int .i64 wo', .int .i64 wst', .int .i64 de', .slice (some ⟨lo+4,0,none⟩) us.length us.length] true 1)) p x ns wo' wst' de' us:=by
 obtain⟨q1,q2,q3,q4,q5,q6,q7,q8,q9⟩:=s
 exact⟨q1.as (AS.wr _ _ _ _),q2.setOut _ _ _ _,wr_log q3 (.inr (.inl rfl)),mem_wr q4,Dirty_wr q5 (by omega),(z5 (by omega)).trans q6,(z5 (by omega)).trans q7,q8,q9⟩
theorem Stg.setUsed(s:Stg lo bb n0 h0 h p x ns wo wst de us){us':List Int}(hl:us'.length=us.length):Stg lo bb n0 h0 (h.wr n0 (lo+4) (.cells (ints us') true 1)) p x ns wo wst de us':=by
 obtain⟨q1,q2,q3,q4,q5,q6,q7,q8,q9⟩:=s
 exact⟨q1.as (AS.wr _ _ _ _),q2.setUsed _ hl,wr_log q3 (.inr (.inr rfl)),mem_wr q4,Dirty_wr q5 (by omega),(z5 (by omega)).trans q6,(z5 (by omega)).trans q7,q8,q9⟩
theorem Stg.start{ns':List (Nat×Int)}{b o n c:Nat}(s:Vst lo bb h0 h ns' wo wst de us)(w:WF h)(r:Rst (Sv lo) h (.slice (some ⟨b,o,none⟩) n c) ns)(hl:h.log=[])(gx:h.get n0=some (.cells [.int .i64 p.1, .int .i64 p.2] true 1))(gn:h.get (n0+1)=some (.cells [.int .u8 (x.1:Nat), .int .i64 x.2] true 1))(nx:n0+1<h.next)(l8:lo+8≤n0):
 Stg lo bb n0 h0 (h.wr n0 (lo+6) (.cells [.slice (some ⟨b,o,none⟩) n c] true 1)) p x ns wo wst de us:=by
 obtain⟨v,g,_⟩:=s.rest
 exact⟨w.as (AS.wr _ _ _ _),s.setRest _ r,wr_log (by rw[hl];simp) (.inl rfl),mem_wr_new (by omega),⟨_,_,_,Heap.get_wr_new g,rfl⟩,(z5 (by omega)).trans gx,(z5 (by omega)).trans gn,nx,l8⟩
theorem Stg.ext{h':Heap}(s:Stg lo bb n0 h0 h p x ns wo wst de us)(e:Ext h h'):Stg lo bb n0 h0 h' p x ns wo wst de us:=by
 obtain⟨q1,q2,q3,q4,⟨vs,own,t,g,hs⟩,q6,q7,q8,q9⟩:=s
 have:=e.next
 exact⟨e.wf q1,q2.ext e,by rw[e.log];exact q3,by rw[e.log];exact q4,⟨vs,own,t,(e.old _ (by omega)).trans g,hs⟩,(e.old _ (by omega)).trans q6,(e.old _ q8).trans q7,by omega,q9⟩
theorem Stg.call{h':Heap}{ns':List (Nat×Int)}{wo' wst' de':Int}{us':List Int}(s:Stg lo bb n0 h0 h p x ns wo wst de us)(w:Ws (Sv lo) h h')(hl:∀z∈h.log,z∈h'.log)(v:Vst lo bb h0 h' ns' wo' wst' de' us')(d:Dirty h' (lo+6)):Stg lo bb n0 h0 h' p x ns' wo' wst' de' us':=by
 obtain⟨q1,q2,q3,q4,_,q6,q7,q8,q9⟩:=s
 have:=w.next
 exact⟨w.wf q1,v,fun z hz=>(w.log z hz).elim (q3 z) id,hl _ q4,d,(w.old _ (by omega) (by unfold Sv;omega)).trans q6,(w.old _ q8 (by unfold Sv;omega)).trans q7,by omega,q9⟩
end Go.A.Pk
end
section
namespace Go.A.Pk
def pos(t:Tab):Tab:=t.map fun e=>(e.1,if e.2<0 then 0 else e.2)
structure Bw (W:Int) (t:Tab):Prop where
 up:Bd W (pos t)
 low:∀e∈t,never≤e.2
end Go.A.Pk
end
section
set_option maxRecDepth 100000
namespace Go.A.Pk
variable {T:Nat→Option AFunc}
theorem pos_upd(x:Nat×Nat)(v:Int):∀t:Tab,pos (upd t x v)=upd (pos t) x (if v<0 then 0 else v)
 |[]=>rfl
 |e::t=>by
  have hk:isKey (x.1,x.2) (e.1,if e.2<0 then 0 else e.2)=isKey (x.1,x.2) e:=rfl
  simp only[upd,pos,List.map_cons,hk]
  split
  ·rfl
  ·simp only[List.map_cons]
   exact congrArg _ (pos_upd x v t)
theorem mem_upd{x:Nat×Nat}{v:Int}:∀{t:Tab} {e:(Nat×Nat)×Int},e∈upd t x v→e=(x,v)∨e∈t
 |[],e,h=>by simp only[upd,List.mem_singleton]at h;exact .inl h
 |e0::t,e,h=>by
  simp only[upd]at h
  split at h
  ·rcases List.mem_cons.1 h with h|h
   ·exact .inl h
   ·exact .inr (List.mem_cons_of_mem _ h)
  ·rcases List.mem_cons.1 h with h|h
   ·exact .inr (h▸List.mem_cons_self ..)
   ·exact(mem_upd h).imp id (List.mem_cons_of_mem _)
theorem Bw.upd{W:Int}{t:Tab}{x:Nat×Nat}{v:Int}(h:Bw W t)(hW:0≤W)(hx:1≤x.1∧1≤x.2)(hv:never≤v∧v≤W*((x.1:Int)*(x.2:Int))):Bw W (Pk.upd t x v)where
 up:=by
  rw[pos_upd]
  have h0:0≤W*((x.1:Int)*(x.2:Int)):=Int.mul_nonneg hW (Int.mul_nonneg (by omega) (by omega))
  exact upd_bd hx (by split<;>omega) h.up
 low:=fun e he=>by
  rcases mem_upd he with rfl|he
  ·exact hv.1
  ·exact h.low e he
end Go.A.Pk
end
section
set_option maxRecDepth 100000
namespace Go.A.Pk
variable {T:Nat→Option AFunc}
theorem ints_len(l:List Int):(ints l).length=l.length:=by simp[ints]
theorem st_int{xs:List Int}{i:Nat}{z:Int}(hi:i<xs.length):(Nat.beq (llen (cellsOf (.int .i64 z))) 1&&Nat.ble (0+i*1+1) (llen (ints xs))&&ones (cellsOf (.int .i64 z)))=true:=by
 simp[cellsOf,ones,llen_eq,ints_len];omega
theorem puts_int{xs:List Int}{i:Nat}{z:Int}:lputs (ints xs) (0+i*1) (cellsOf (.int .i64 z))=ints (xs.set i z):=by
 simp[cellsOf,lputs,lset_eq,ints,List.map_set]
end Go.A.Pk
end
section
set_option maxRecDepth 100000
namespace Go.A.Pk
variable {T:Nat→Option AFunc}
structure FnsVs (T:Nat→Option AFunc):Prop extends FnsNd T where
 f144:T 144=some f144
theorem node_get{vs:List Value}{q:Nat}{a b:Value}(hk:ltake 2 (ldrop q vs)=[a,b]):lget vs q=some a∧lget vs (q+1)=some b:=by
 rw[ltake_eq,ldrop_eq]at hk
 rw[lget_eq,lget_eq]
 have h0:(List.take 2 (List.drop q vs))[0]? =some a:=by rw[hk];rfl
 have h1:(List.take 2 (List.drop q vs))[1]? =some b:=by rw[hk];rfl
 rw[List.getElem?_take_of_lt (by omega),List.getElem?_drop]at h0 h1
 exact⟨h0,h1⟩
def vArgs(lo:Nat)(p:Int×Int)(dep:Int):List Value:=[pairV p, .int .i64 dep, .pointer (some ⟨lo+6,0,none⟩), .pointer (some ⟨lo+5,0,none⟩), .pointer (some ⟨lo,0,none⟩), .pointer (some ⟨lo+2,0,none⟩), .pointer (some ⟨lo+7,0,none⟩)]
structure Vb (wo wst:Int) (us:List Int) (ns:List (Nat×Int)):Prop where
 wo:0≤wo∧wo+1000000*ns.length≤1000000000000
 wst:wst≤1000000∧ -1000000000≤wst-256*ns.length
 us:∀u∈us,0≤u∧u+ns.length≤1000000
def VQ(lo bb:Nat)(h0:Heap)(r:Sm×Nat)(ns:List (Nat×Int))(wo wst de dep:Int)(us:List Int)(v:Value)(h:Heap):Prop:=
 v= .tuple #[]∧r.1.ok=true∧Vst lo bb h0 h (ns.drop r.2) (wo+r.1.worth) (wst-r.1.cells) (mx de (dep+r.1.depth)) (List.zipWith (· + ·) us r.1.used)
def VP(lo:Nat)(r:Sm×Nat)(v:Value)(h:Heap):Prop:=v=badV∧r.1.ok=false∧∃vs,vs.length=4∧h.get (lo+2)=some (.cells vs true 1)
theorem Vst.four{lo bb:Nat}{h0 h:Heap}{ns:List (Nat×Int)}{wo wst de:Int}{us:List Int}(s:Vst lo bb h0 h ns wo wst de us):∃vs:List Value,vs.length=4∧h.get (lo+2)=some (.cells vs true 1):=⟨_,rfl,s.out⟩
def cd:AFunc→ACode
 | .code c _=>c
 |_=> .skip
def tl1:ACode→ACode
 | .seq _ b=>b
 |c=>c
def vis0:ACode:=tl1 (tl1 (tl1 (tl1 (cd f144))))
def vis1:ACode:=tl1 vis0
def vis2:ACode:=tl1 vis1
def vEnv(lo n0:Nat)(dep:Int):Env:=[(1, .int .i64 dep),(4, .pointer (some ⟨lo,0,none⟩)),(5, .pointer (some ⟨lo+2,0,none⟩)),(6, .pointer (some ⟨lo+7,0,none⟩)),(7, .pointer (some ⟨n0,0,none⟩)),(9, .pointer (some ⟨n0+1,0,none⟩))]
theorem old_slice{h0 h:Heap}{sz n lo:Nat}{v:Value}{cs:List Value}(s:SliceOf h0 sz v n cs)(hlo:h0.next=lo)(hn:lo≤h.next)(hg:∀z,z<lo→h.get z=h0.get z):SliceOf h sz v n cs:=
 SliceOf.agree s (by omega) fun b _ _ _ hb _=>hg b (by omega)
set_option maxHeartbeats 16000000 in
theorem visit_draw(F:FnsVs T){kerf:Int}{l:List Kd}(hc:chk kerf l=0){lo bb c wc n0:Nat}{sa wa:Option Addr}{h0 h:Heap}(hlo:h0.next=lo)(hben:h0.get bb=some (.cells [.slice sa l.length c, .int .i64 kerf, .slice wa l.length wc] true 1))(hbb:bb<lo)
 (hks:SliceOf h0 5 (.slice sa l.length c) l.length (kcs l)){p:Int×Int}{x:Nat×Int}{ns:List (Nat×Int)}{dep wo wst de:Int}{us:List Int}(h1:1≤p.1∧p.1≤16)(h2:1≤p.2∧p.2≤16)(k4:x.1≤4)(S:Stg lo bb n0 h0 h p x ns wo wst de us){Q:XQ}
 (hT:okN l p x=true→WE T n0 none vis1 Q (vEnv lo n0 dep) [] h)(hF:okN l p x=false→Q (.panic badV) [] [] h):
 WE T n0 none vis0 Q [(1, .int .i64 dep),(3, .pointer (some ⟨lo+5,0,none⟩)),(4, .pointer (some ⟨lo,0,none⟩)),(5, .pointer (some ⟨lo+2,0,none⟩)),(6, .pointer (some ⟨lo+7,0,none⟩)),(7, .pointer (some ⟨n0,0,none⟩)),(9, .pointer (some ⟨n0+1,0,none⟩))] [] h:=by
 obtain⟨S1,S2,S3,S4,S5,S6,S7,S8,S9⟩:=S
 obtain⟨q1,q2,⟨v,q3,r⟩,q4,q5,q6,q7,q8⟩:=S2
 have n12:=(chk_iff.1 hc).1
 have C:=meth F.toFnsNd (h:={h with log:=[]}) (.of S1) (kerf:=kerf) (l:=l) (c:=c) (n:=l.length) (sa:=sa) (wv:= .slice wa l.length wc) ((q2 bb hbb).trans hben) ((old_slice hks hlo (by omega) q2).log []) (by omega) p h1 h2 x k4
 have hf:=fns_at k4
 obtain⟨p1,p2⟩:=p
 obtain⟨k,at'⟩:=x
 dsimp only at S6 S7 k4 C hf
 unfold pairV nodeI at C
 clear q2 q3 r q6 q7 q8 v hben hks h1 h2 S3 S4 S5
 unfold vis0
 refine wE_seq ?_
 by_cases hok:okN l (p1,p2) (k,at')=true
 ·rw[hok]at C
  refine wE_draw ?_
  refine qF ?_;refine qL ?_;refine wD_quiet rfl rfl rfl (by exact rfl) (by exact rfl) (by exact rfl) (a_iaddrA (by exact rfl) (by exact rfl) (by omega)) ?_
  refine wD_quiet rfl rfl rfl (by exact rfl) (by exact rfl) (by exact rfl) (a_load (by exact rfl) (by assumption) (by assumption)) ?_;refine qL ?_
  refine qN ?_;refine qN ?_
  refine qC ?_
  refine FW.puD C (by apply ra_dropC rfl;apply ra_dropC rfl;apply ra_dropC rfl;apply ra_dropC rfl;apply ra_dropC rfl;apply ra_dropC rfl;apply ra_dropC rfl;exact ra_nil) ?_
  clear C
  skip
  refine qC ?_
  refine FW.puD (need_ok F.toFnsNd (.of S1)) (by exact ra_nil) ?_
  refine wD_nil ?_
  refine y1 ?_
  refine kS_n ?_
  exact hT hok
 ·have hok2:okN l (p1,p2) (k,at')=false:=by cases h:okN l (p1,p2) (k,at')with|true=>exact absurd h hok|false=>rfl
  rw[hok2]at C
  refine wE_drawP (init:=[0,1,2,3,4,5,6,7]) (i:=8) (mask:=255) rfl rfl (by decide) ?_
  refine qF ?_;refine qL ?_;refine wD_quiet rfl rfl rfl (by exact rfl) (by exact rfl) (by exact rfl) (a_iaddrA (by exact rfl) (by exact rfl) (by omega)) ?_
  refine wD_quiet rfl rfl rfl (by exact rfl) (by exact rfl) (by exact rfl) (a_load (by exact rfl) (by assumption) (by assumption)) ?_;refine qL ?_
  refine qN ?_;refine qN ?_
  refine qC ?_
  refine FW.puD C (by apply ra_dropC rfl;apply ra_dropC rfl;apply ra_dropC rfl;apply ra_dropC rfl;apply ra_dropC rfl;apply ra_dropC rfl;apply ra_dropC rfl;exact ra_nil) ?_
  clear C
  refine wD_nil ?_
  exact⟨⟨_,_,_,_,rfl,rfl,rfl,a_call rfl rfl rfl rfl,badV,_,EvF.of_pan (need_no F.toFnsNd),fun base=>kS_p (hF hok2)⟩⟩
end Go.A.Pk
end
section
set_option maxRecDepth 100000
namespace Go.A.Pk
variable {T:Nat→Option AFunc}
set_option maxHeartbeats 16000000 in
theorem visit_depth{lo bb n0:Nat}{h0 h:Heap}{p:Int×Int}{x:Nat×Int}{ns:List (Nat×Int)}{dep wo wst de:Int}{us:List Int}(S:Stg lo bb n0 h0 h p x ns wo wst de us){Q:XQ}
 (H:∀h',Stg lo bb n0 h0 h' p x ns wo wst (mx de dep) us→WE T n0 none vis2 Q (vEnv lo n0 dep) [] h'):WE T n0 none vis1 Q (vEnv lo n0 dep) [] h:=by
 have S':=S.setOut wo wst (mx de dep)
 have q6:=S.st.out
 have q9:=S.lo8
 have q8:=S.nx
 clear S
 unfold vis1 vEnv
 refine y4 ?_
 refine yF ?_
 refine wO_val (a_load (by exact rfl) q6 (by exact rfl)) ?_
 refine yM ?_
 refine wO_val (a_max (by exact rfl) (by exact rfl)) ?_
 refine yF ?_
 refine wO_val (a_store (by exact rfl) (by exact rfl) q6 (by exact rfl) (by exact rfl)) ?_
 refine y3 ?_
 exact H _ S'
set_option maxHeartbeats 16000000 in
theorem visit_plank{kerf:Int}{l:List Kd}(hc:chk kerf l=0){lo bb c wc n0:Nat}{sa wa:Option Addr}{h0 h:Heap}(hlo:h0.next=lo)(hben:h0.get bb=some (.cells [.slice sa l.length c, .int .i64 kerf, .slice wa l.length wc] true 1))(hbb:bb<lo)
 (hws:SliceOf h0 1 (.slice wa l.length wc) l.length (ints (wsP l))){p:Int×Int}{x:Nat×Int}{ns:List (Nat×Int)}{dep wo wst de:Int}{us:List Int}(h1:1≤p.1∧p.1≤16)(h2:1≤p.2∧p.2≤16){i:Nat}{k:Kd}(hx1:x.1=1∨x.1=2)(hx2:x.2=i)(hkl:l[i]? =some k)(hul:us.length=l.length)
 (hwo:0≤wo∧wo≤1000000000000)(hwst: -1000000000≤wst∧wst≤1000000000)(hus:∀u∈us,0≤u∧u≤1000000)(S:Stg lo bb n0 h0 h p x ns wo wst de us){Q:XQ}
 (H:∀h',Stg lo bb n0 h0 h' p x ns (wo+k.worth) (wst-p.1*p.2) de (us.set i (us.getD i 0+1))→Q .normal [] [] h'):WE T n0 none vis2 Q (vEnv lo n0 dep) [] h:=by
 have hi:i<l.length:=(List.getElem?_eq_some_iff.1 hkl).1
 have hkr:=(chk_iff.1 hc).2.2.1 k (List.mem_of_getElem? hkl)
 have hkw:0≤k.worth∧k.worth≤1000000:=hkr.2.2.2
 have hiu:i<us.length:=by omega
 have hu1:0≤us.getD i 0∧us.getD i 0≤1000000:=by
  rw[List.getD_eq_getElem?_getD,List.getElem?_eq_getElem hiu]
  exact hus _ (List.getElem_mem hiu)
 have SF:=((S.setOut (wo+k.worth) wst de).setOut (wo+k.worth) (wst-p.1*p.2) de).setUsed (us':=us.set i (us.getD i 0+1)) (by simp)
 have HF:=H _ SF
 clear SF H
 obtain⟨S1,S2,S3,S4,S5,S6,S7,S8,S9⟩:=S
 obtain⟨q1,q2,⟨v,q3,r⟩,q4,q5,q6,q7,q8⟩:=S2
 rw[hul]at HF q6
 have gb:h.get bb=some (.cells [.slice sa l.length c, .int .i64 kerf, .slice wa l.length wc] true 1):=(q2 bb hbb).trans hben
 have sw:=old_slice hws hlo (by omega) q2
 obtain⟨p1,p2⟩:=p
 obtain⟨kd,at'⟩:=x
 dsimp only at S6 S7 h1 h2 hx1 hx2 HF
 subst hx2
 have hw1:(ints (wsP l))[i]? =some (.int .i64 k.worth):=by simp[ints,wsP,hkl]
 have hu2:lget (ints us) (0+i*1)=some (.int .i64 (us.getD i 0)):=by
  rw[lget_eq,Nat.zero_add,Nat.mul_one]
  simp[ints,List.getD_eq_getElem?_getD,List.getElem?_eq_getElem hiu]
 have hmul:numOp .mul (.int .i64 p1) (.int .i64 p2)=some (.int .i64 (p1*p2)):=by
  have a1:=Int.mul_nonneg (show 0≤p1 by omega) (show 0≤p2 by omega)
  have a2:=Int.mul_le_mul h1.2 h2.2 (by omega) (by omega)
  simp[numOp,arith,wrapA_i64 (show -9223372036854775808≤p1*p2 by omega) (show p1*p2<9223372036854775808 by omega)]
 have hpp:0≤p1*p2∧p1*p2≤256:=by
  have a1:=Int.mul_nonneg (show 0≤p1 by omega) (show 0≤p2 by omega)
  have a2:=Int.mul_le_mul h1.2 h2.2 (by omega) (by omega)
  omega
 generalize p1*p2=pp at*
 generalize us.getD i 0=ui at*
 generalize k.worth=kw at*
 rcases sw.inv with⟨_,_,hz,_⟩|⟨b,o,cap,hv,sl,_⟩
 ·omega
 cases hv
 obtain⟨vs,own,t,g1,g2⟩:=slice_elem1 sl hw1
 have kb:b<h.next:=sl.lt
 have kbl:b<lo∨True:= .inr trivial
 clear q2 q3 r q4 q7 v hws hben sw sl hw1 hkl hkr hc S3 S4 S5 hus h1 h2
 unfold vis2 vEnv
 rcases hx1 with rfl|rfl
 ·refine y4 ?_;refine yF ?_;refine yL ?_;refine y3 ?_;refine wE_block ?_;refine wE_seq ?_;refine y4 ?_
  refine yt ?_;refine yM ?_;refine y3 ?_;refine yY ?_;refine wE_skip ?_;refine kS_n ?_;refine yY ?_;refine wE_seq ?_;refine wE_draw ?_
  refine qF ?_;refine qL ?_;refine qL ?_
  refine wD_quiet rfl rfl rfl (by exact rfl) (by exact rfl) (by exact rfl) (a_nilchk (by exact rfl)) ?_;refine qF ?_;refine qL ?_
  refine qF ?_;refine qL ?_;refine wD_quiet rfl rfl rfl (by exact rfl) (by exact rfl) (by exact rfl) (a_iaddrS (by exact rfl) (by exact rfl) (by omega)) ?_
  refine wD_quiet rfl rfl rfl (by exact rfl) (by exact rfl) (by exact rfl) (a_load (by exact rfl) (by assumption) (by assumption)) ?_;refine wD_quiet rfl rfl rfl (by exact rfl) (by exact rfl) (by exact rfl) (a_num (by exact rfl) (by exact rfl) (by exact m_add (wrapA_i64 (by omega) (by omega)))) ?_;refine qF ?_
  refine wD_storeA (ws:=[.int .i64 (wo+kw), .int .i64 wst, .int .i64 de, .slice (some ⟨lo+4,0,none⟩) l.length l.length]) rfl rfl rfl (by exact rfl) (by exact rfl) (by exact rfl) (by assumption) (by exact rfl) (by exact rfl) (by omega) (by apply ra_dropC rfl;apply ra_dropC rfl;apply ra_dropC rfl;apply ra_dropC rfl;apply ra_dropC rfl;apply ra_dropC rfl;apply ra_dropC rfl;apply ra_dropC rfl;apply ra_dropC rfl;apply ra_dropC rfl;apply ra_dropC rfl;apply ra_dropC rfl;exact ra_nil) ?_
  refine wD_nil ?_;refine y1 ?_;refine kS_n ?_;refine y4 ?_;refine yF ?_
  refine yL ?_;refine wO_val (a_iaddrA (i:=0) (by exact rfl) (by exact rfl) (by omega)) ?_
  refine yL ?_;refine wO_val (a_iaddrA (i:=1) (by exact rfl) (by exact rfl) (by omega)) ?_
  refine yL ?_;refine wO_val (a_num (by exact rfl) (by exact rfl) (by with_reducible assumption)) ?_
  refine ysub ?_;refine yF ?_
  refine yS ?_;refine y3 ?_;refine wE_region ?_;refine yF ?_
  refine yL ?_;refine yF ?_
  refine yL ?_;refine wO_val (a_iaddrS (by exact rfl) (by exact rfl) (by omega)) ?_
  refine wO_val (a_load (by exact rfl) (by(simp(disch:=first|omega|(simp only[z1,z2];omega))only[z3,z4,z5,z6,z7,z1,z2, *];exact rfl)) (by assumption)) ?_;refine yadd ?_
  refine wO_val (a_iaddrS (by exact rfl) (by exact rfl) (by omega)) ?_
  refine wO_val (a_store (ws:=ints (us.set i (ui+1))) (by exact rfl) (by exact rfl) (by(simp(disch:=first|omega|(simp only[z1,z2];omega))only[z3,z4,z5,z6,z7,z1,z2, *];exact rfl)) (st_int (by omega)) puts_int) ?_
  refine wO_nil ?_
  refine y1 ?_
  exact kB_n HF
 ·refine y4 ?_;refine yF ?_;refine yL ?_;refine y3 ?_;refine wE_block ?_;refine wE_seq ?_;refine y4 ?_
  refine yf ?_;refine yM ?_;refine y3 ?_;refine yX ?_;refine wE_region ?_;refine yt ?_
  refine yM ?_;refine y3 ?_;refine yY ?_;refine wE_seq ?_;refine wE_draw ?_;refine qF ?_
  refine qL ?_;refine qL ?_;refine wD_quiet rfl rfl rfl (by exact rfl) (by exact rfl) (by exact rfl) (a_nilchk (by exact rfl)) ?_
  refine qF ?_;refine qL ?_;refine qF ?_
  refine qL ?_;refine wD_quiet rfl rfl rfl (by exact rfl) (by exact rfl) (by exact rfl) (a_iaddrS (by exact rfl) (by exact rfl) (by omega)) ?_;refine wD_quiet rfl rfl rfl (by exact rfl) (by exact rfl) (by exact rfl) (a_load (by exact rfl) (by assumption) (by assumption)) ?_
  refine wD_quiet rfl rfl rfl (by exact rfl) (by exact rfl) (by exact rfl) (a_num (by exact rfl) (by exact rfl) (by exact m_add (wrapA_i64 (by omega) (by omega)))) ?_;refine qF ?_
  refine wD_storeA (ws:=[.int .i64 (wo+kw), .int .i64 wst, .int .i64 de, .slice (some ⟨lo+4,0,none⟩) l.length l.length]) rfl rfl rfl (by exact rfl) (by exact rfl) (by exact rfl) (by assumption) (by exact rfl) (by exact rfl) (by omega) (by apply ra_dropC rfl;apply ra_dropC rfl;apply ra_dropC rfl;apply ra_dropC rfl;apply ra_dropC rfl;apply ra_dropC rfl;apply ra_dropC rfl;apply ra_dropC rfl;apply ra_dropC rfl;apply ra_dropC rfl;apply ra_dropC rfl;apply ra_dropC rfl;exact ra_nil) ?_
  refine wD_nil ?_;refine y1 ?_;refine kS_n ?_;refine y4 ?_;refine yF ?_
  refine yL ?_;refine wO_val (a_iaddrA (i:=0) (by exact rfl) (by exact rfl) (by omega)) ?_
  refine yL ?_;refine wO_val (a_iaddrA (i:=1) (by exact rfl) (by exact rfl) (by omega)) ?_
  refine yL ?_;refine wO_val (a_num (by exact rfl) (by exact rfl) (by with_reducible assumption)) ?_
  refine ysub ?_;refine yF ?_
  refine yS ?_;refine y3 ?_;refine wE_region ?_;refine yF ?_
  refine yL ?_;refine yF ?_
  refine yL ?_;refine wO_val (a_iaddrS (by exact rfl) (by exact rfl) (by omega)) ?_
  refine wO_val (a_load (by exact rfl) (by(simp(disch:=first|omega|(simp only[z1,z2];omega))only[z3,z4,z5,z6,z7,z1,z2, *];exact rfl)) (by assumption)) ?_;refine yadd ?_
  refine wO_val (a_iaddrS (by exact rfl) (by exact rfl) (by omega)) ?_
  refine wO_val (a_store (ws:=ints (us.set i (ui+1))) (by exact rfl) (by exact rfl) (by(simp(disch:=first|omega|(simp only[z1,z2];omega))only[z3,z4,z5,z6,z7,z1,z2, *];exact rfl)) (st_int (by omega)) puts_int) ?_
  refine wO_nil ?_
  refine y1 ?_
  exact kB_n HF
end Go.A.Pk
end
