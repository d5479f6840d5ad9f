/- Walks of functions, plain laws, the table. -/
import Derived.Test.YteafdpbjocdbbaaGreatDoorPU0
import Derived.Test.YteafdpbjocdbbaaGreatDoorPD
import Derived.Test.YteafdpbjocdbbaaGreatDoorPF
import Derived.OpenShut
import Derived.Test.YteafdpbjocdbbaaGreatDoorPH
import Derived.Test.YteafdpbjocdbbaaGreatDoorPT
set_option linter.all false
section
set_option maxRecDepth 100000
namespace Go.A.Pk
variable {T:Nat→Option AFunc}
theorem a_idxA{base:Nat}{h:Heap}{e:Env}{len size i:Nat}{k:IntKind}{x y:Operand}{cs:Array Value}{v:Value}(hx:ev h e x=some (.agg cs))(hy:ev h e y=some (.int k (i:Nat)))(hi:i<len)(hv:lget cs.toList (i*size)=some v):aop h base e (.idxA len size none x y)=some (.val v h):=by
 have e0:(.int k (i:Nat):Value)= .int k (Int.ofNat i):=rfl
 rw[e0]at hy
 simp only[aop,hx,hy,nblt_of hi,cond_true,hv,bindV]
theorem cuts_mem3{a b j:Nat}(hj:j<a-1):(3,j+1)∈cutsL a b:=List.mem_append_left _ (row_mem hj)
theorem cuts_mem4{a b j:Nat}(hj:j<b-1):(4,j+1)∈cutsL a b:=List.mem_append_right _ (row_mem hj)
set_option maxHeartbeats 8000000 in
theorem cuts141(hp:primAS T)(hf:T 141=some f141){h:Heap}(hr:Rdy h){bx l N lo a b:Nat}{P:List (Nat×Nat)→Heap→Prop}(hN:N≤h.next)(hlo:lo≤h.next)(ha:a<1000)(hb:b<1000)(Y:Yld T lo N l nodeV (cutsL a b) P)
 (hbx:∀d H,P d H→H.get bx=some (.cells [.int .i64 a, .int .i64 b] true 1))(h0:P [] h):
 Gr T 141 [.func (.yield l) #[] #[], .pointer (some ⟨bx,0,none⟩)] h lo fun v h'=>v= .tuple #[]∧P (cutsL a b) h':=by
 refine Gr.of hp hf hlo (fun v h1 h2 _ hn ha q=>unit_gc Y.stable hN hn ha q) ?_
 refine y4 ?_;refine wO_val (a_build (by exact rfl)) ?_;refine yM ?_;refine y3 ?_;refine wE_block ?_
 refine wE_loop (fun k e ds h'=>∃i:Nat,i≤2∧k=2-i∧e=[(0, .func (.yield l) #[] #[]),(1, .pointer (some ⟨bx,0,none⟩)),(6, .agg (List.toArray [.int .u8 3, .int .u8 4])),(7, .int .i64 i)]∧ds=[]∧Lk lo h h'∧P (if i=0 then []else if i=1 then row 3 (a-1)else cutsL a b) h')
  ⟨0,Nat.zero_le _,rfl,rfl,rfl, .refl _ _,h0⟩ ?_
 rintro k e ds h' ⟨i,hi,rfl,rfl,rfl,hk,hP⟩
 obtain rfl|rfl|rfl:i=0∨i=1∨i=2:=by omega
 ·replace hP:P ([]) h':=hP
  refine y4 ?_;refine yt ?_;refine y3 ?_;refine wE_seq ?_;refine yY ?_;refine wE_skip ?_;refine kS_n ?_;refine wE_seq ?_;refine wE_block ?_;refine y4 ?_;refine yM ?_
  refine wO_val (a_idxA (i:=0) (v:= .int .u8 3) (by exact rfl) (by exact rfl) (by omega) rfl) ?_
  refine yM ?_;refine yM ?_;refine y3 ?_;refine y4 ?_;refine yM ?_;refine y3 ?_;refine wE_block ?_
  refine wE_loop (fun k e ds h''=>∃j:Nat,j≤a-1∧k=a-1-j∧e=[(0, .func (.yield l) #[] #[]),(1, .pointer (some ⟨bx,0,none⟩)),(3, .int .i64 (0:Nat)),(4, .int .u8 3),(5, .int .i64 (j+1:Nat)),(6, .agg (List.toArray [.int .u8 3, .int .u8 4])),(7, .int .i64 (0:Nat))]∧ds=[]∧Lk lo h h''∧P (row 3 j) h'')
   ⟨0,Nat.zero_le _,rfl,rfl,rfl,hk,by simpa[row]using hP⟩ ?_
  clear hP hk h'
  rintro k e ds h' ⟨j,hj,rfl,rfl,rfl,hk,hP⟩
  have g2:=hbx _ _ hP
  by_cases hjt:j<a-1
  ·refine wE_seq ?_;refine y4 ?_;refine yM ?_;refine yM ?_;refine wO_val (a_iaddrA (i:=0) (by exact rfl) (by exact rfl) (by omega)) ?_;refine yL ?_;refine yt ?_;refine y3 ?_;refine yY ?_;refine wE_skip ?_;refine kS_n ?_;refine wE_seq ?_;refine wE_block ?_;refine y4 ?_;refine yM ?_;refine yM ?_;refine yM ?_
   refine wO_val (a_build (by exact rfl)) ?_
   refine wO_call (fn:= .yield l) (args:=[nodeV (3,j+1)]) (by rfl) ?_
   refine Y.call hp (cuts_mem3 hjt) (hk.wf hr.wf) (Nat.le_trans hlo hk.next) (Nat.le_trans hN hk.next) hP ?_
   intro h2 hk2 _ hP2
   rw[←row_succ]at hP2
   refine yA ?_;refine y3 ?_;refine yX ?_;refine wE_skip ?_;refine kB_n ?_;refine kS_n ?_;refine wE_region ?_;refine yM ?_
   refine yinc ?_;refine yM ?_;refine y3 ?_
   exact⟨a-1-(j+1),by omega,j+1,by omega,rfl,rfl,rfl,hk.trans hk2,hP2⟩
  ·obtain rfl:j=a-1:=by omega
   refine wE_seq ?_;refine y4 ?_;refine yM ?_;refine yM ?_;refine wO_val (a_iaddrA (i:=0) (by exact rfl) (by exact rfl) (by omega)) ?_;refine yL ?_;refine yf ?_;refine y3 ?_;refine yX ?_;refine wE_exit ?_;refine kS_e ?_;refine kS_e ?_;refine kB_e ?_;refine kB_n ?_;refine kS_n ?_;refine wE_region ?_;refine yinc ?_;refine yM ?_
   refine y3 ?_
   exact⟨2-1,by omega,1,by omega,rfl,rfl,rfl,hk,hP⟩
 ·replace hP:P (row 3 (a-1)) h':=hP
  refine y4 ?_;refine yt ?_;refine y3 ?_;refine wE_seq ?_;refine yY ?_;refine wE_skip ?_;refine kS_n ?_;refine wE_seq ?_;refine wE_block ?_;refine y4 ?_;refine yM ?_
  refine wO_val (a_idxA (i:=1) (v:= .int .u8 4) (by exact rfl) (by exact rfl) (by omega) rfl) ?_
  refine yM ?_;refine yM ?_;refine y3 ?_;refine y4 ?_;refine yM ?_;refine y3 ?_;refine wE_block ?_
  refine wE_loop (fun k e ds h''=>∃j:Nat,j≤b-1∧k=b-1-j∧e=[(0, .func (.yield l) #[] #[]),(1, .pointer (some ⟨bx,0,none⟩)),(3, .int .i64 (1:Nat)),(4, .int .u8 4),(5, .int .i64 (j+1:Nat)),(6, .agg (List.toArray [.int .u8 3, .int .u8 4])),(7, .int .i64 (1:Nat))]∧ds=[]∧Lk lo h h''∧P (row 3 (a-1)++row 4 j) h'')
   ⟨0,Nat.zero_le _,rfl,rfl,rfl,hk,by simpa[row]using hP⟩ ?_
  clear hP hk h'
  rintro k e ds h' ⟨j,hj,rfl,rfl,rfl,hk,hP⟩
  have g2:=hbx _ _ hP
  by_cases hjt:j<b-1
  ·refine wE_seq ?_;refine y4 ?_;refine yM ?_;refine yM ?_;refine wO_val (a_iaddrA (i:=1) (by exact rfl) (by exact rfl) (by omega)) ?_;refine yL ?_;refine yt ?_;refine y3 ?_;refine yY ?_;refine wE_skip ?_;refine kS_n ?_;refine wE_seq ?_;refine wE_block ?_;refine y4 ?_;refine yM ?_;refine yM ?_;refine yM ?_
   refine wO_val (a_build (by exact rfl)) ?_
   refine wO_call (fn:= .yield l) (args:=[nodeV (4,j+1)]) (by rfl) ?_
   refine Y.call hp (cuts_mem4 hjt) (hk.wf hr.wf) (Nat.le_trans hlo hk.next) (Nat.le_trans hN hk.next) hP ?_
   intro h2 hk2 _ hP2
   rw[List.append_assoc,←row_succ]at hP2
   refine yA ?_;refine y3 ?_;refine yX ?_;refine wE_skip ?_;refine kB_n ?_;refine kS_n ?_;refine wE_region ?_;refine yM ?_
   refine yinc ?_;refine yM ?_;refine y3 ?_
   exact⟨b-1-(j+1),by omega,j+1,by omega,rfl,rfl,rfl,hk.trans hk2,hP2⟩
  ·obtain rfl:j=b-1:=by omega
   refine wE_seq ?_;refine y4 ?_;refine yM ?_;refine yM ?_;refine wO_val (a_iaddrA (i:=1) (by exact rfl) (by exact rfl) (by omega)) ?_;refine yL ?_;refine yf ?_;refine y3 ?_;refine yX ?_;refine wE_exit ?_;refine kS_e ?_;refine kS_e ?_;refine kB_e ?_;refine kB_n ?_;refine kS_n ?_;refine wE_region ?_;refine yinc ?_;refine yM ?_
   refine y3 ?_
   exact⟨2-2,by omega,2,by omega,rfl,rfl,rfl,hk,hP⟩
 ·replace hP:P (cutsL a b) h':=hP
  refine y4 ?_;refine yf ?_;refine y3 ?_;refine wE_seq ?_;refine yX ?_;refine wE_exit ?_;refine kS_e ?_;refine kS_e ?_;refine kB_e ?_
  exact endG_end (hk.log (by rw[hr.log];exact LogGe.nil _)) rfl ⟨rfl,hP⟩
def leafAt(k:Kd)(i a b:Nat):List (Nat×Nat):=(if(a:Int)=k.w∧(b:Int)=k.h then [(1,i)]else [])++(if k.turn=true∧(a:Int)=k.h∧(b:Int)=k.w then [(2,i)]else [])
def leavesL(a b:Nat):List Kd→Nat→List (Nat×Nat)
 |[],_=>[]
 |k::l,i=>leafAt k i a b++leavesL a b l (i+1)
theorem leavesL_append(a b:Nat):∀(l m:List Kd) (i:Nat),leavesL a b (l++m) i=leavesL a b l i++leavesL a b m (i+l.length)
 |[],m,i=>by simp[leavesL]
 |k::l,m,i=>by
  simp only[List.cons_append,leavesL,List.append_assoc,List.length_cons]
  rw[leavesL_append a b l m (i+1),show i+1+l.length=i+(l.length+1)by omega]
theorem leaves_succ{a b:Nat}{l:List Kd}{i:Nat}{k:Kd}(h:l[i]? =some k):leavesL a b (l.take (i+1)) 0=leavesL a b (l.take i) 0++leafAt k i a b:=by
 have hi:i<l.length:=(List.getElem?_eq_some_iff.1 h).1
 rw[List.take_add_one,h,leavesL_append]
 simp only[Option.toList,leavesL,List.append_nil,List.length_take,Nat.min_eq_left (Nat.le_of_lt hi),Nat.zero_add]
theorem leaves_mem{a b:Nat}{l:List Kd}{i:Nat}{k:Kd}(h:l[i]? =some k):∀x∈leafAt k i a b,x∈leavesL a b l 0:=by
 intro x hx
 have h1:leavesL a b l 0=leavesL a b (l.take (i+1)) 0++leavesL a b (l.drop (i+1)) (0+(l.take (i+1)).length):=by
  rw[←leavesL_append,List.take_append_drop]
 rw[h1,leaves_succ h]
 simp[hx]
theorem leaves2(x y z u:Int):leavesEq [.i .i64, .i .i64] [.int .i64 x, .int .i64 y] [.int .i64 z, .int .i64 u]=some (decide (x=z∧y=u)):=by
 by_cases h1:x=z
 ·by_cases h2:y=u
  ·subst h1;subst h2
   simp[leavesEq,leafEq]
  ·have e1:(x==z)=true:=by simpa using h1
   have e2:(y==u)=false:=by simpa using h2
   simp only[leavesEq,leafEq, ↓reduceIte,e1,e2,h2,and_false,decide_false]
 ·by_cases h2:y=u
  ·have e1:(x==z)=false:=by simpa using h1
   have e2:(y==u)=true:=by simpa using h2
   simp only[leavesEq,leafEq, ↓reduceIte,e1,e2,h1,false_and,decide_false]
  ·have e1:(x==z)=false:=by simpa using h1
   have e2:(y==u)=false:=by simpa using h2
   simp only[leavesEq,leafEq, ↓reduceIte,e1,e2,h1,false_and,decide_false]
end Go.A.Pk
end
section
set_option maxRecDepth 100000
namespace Go.A.Pk
variable {T:Nat→Option AFunc}
theorem WF.get_lt{h:Heap}(w:WF h){x:Nat}{o:AObj}(hx:h.get x=some o):x<h.next:=by
 refine w.lt x (Classical.byContradiction fun hn=> ?_)
 have:=getO_none hn
 rw[show getO h.objs x=h.get x from rfl,hx]at this
 cases this
set_option maxHeartbeats 8000000 in
theorem leaves140(hp:primAS T)(hf:T 140=some f140){h:Heap}(hr:Rdy h){pb bb px l' N lo a b n c:Nat}{sa:Option Addr}{l:List Kd}{v1 v2:Value}{P:List (Nat×Nat)→Heap→Prop}(hN:N≤h.next)(hlo:lo≤h.next)(hn:n<1000)(Y:Yld T lo N l' nodeV (leavesL a b l 0) P)
 (hpb:h.get pb=some (.cells [.pointer (some ⟨bb,0,none⟩)] true 1))(hbb:h.get bb=some (.cells [.slice sa n c,v1,v2] true 1))
 (hks:∀d H,P d H→SliceOf H 5 (.slice sa n c) n (kcs l))(hpx:∀d H,P d H→H.get px=some (.cells [.int .i64 a, .int .i64 b] true 1))(h0:P [] h):
 Gr T 140 [.func (.yield l') #[] #[], .pointer (some ⟨pb,0,none⟩), .pointer (some ⟨px,0,none⟩)] h lo fun v h'=>v= .tuple #[]∧P (leavesL a b l 0) h':=by
 refine Gr.of hp hf hlo (fun v h1 h2 _ hn ha q=>unit_gc Y.stable hN hn ha q) ?_
 have hlen:l.length=n:=by have:=(hks _ _ h0).len;rw[kcs_length]at this;omega
 refine y4 ?_;refine yL ?_;refine wO_val (a_nilchk (by exact rfl)) ?_;refine yF ?_;refine yF ?_;refine yL ?_;refine yD ?_;refine yM ?_
 refine y3 ?_;refine wE_block ?_
 refine wE_loop (fun k e ds h'=>∃i:Nat,i≤n∧k=n-i∧e=[(0, .func (.yield l') #[] #[]),(2, .pointer (some ⟨px,0,none⟩)),(10, .slice sa n c),(11, .int .i64 n),(12, .int .i64 i)]∧ds=[]∧Lk lo h h'∧P (leavesL a b (l.take i) 0) h')
  ⟨0,Nat.zero_le _,rfl,rfl,rfl, .refl _ _,by simpa[leavesL]using h0⟩ ?_
 clear hpb hbb
 rintro k e ds h' ⟨i,hi,rfl,rfl,rfl,hk,hP⟩
 by_cases hlt:i<n
 ·obtain⟨x,hxl⟩:∃x,l[i]? =some x:=⟨l[i]'(by omega),List.getElem?_eq_getElem (by omega)⟩
  have hsl:=hks _ _ hP
  rcases hsl.inv with⟨_,_,hz,_⟩|⟨b0,o0,cap,hv,s,hcap⟩
  ·omega
  ·cases hv
   obtain⟨vs,own,t0,g5,g6⟩:=slice_elem s hxl
   have hpx':=hpx _ _ hP
   refine y4 ?_;refine yt ?_;refine y3 ?_;refine wE_seq ?_;refine yY ?_;refine wE_skip ?_;refine kS_n ?_;refine wE_seq ?_;refine wE_block ?_;refine y4 ?_;refine yM ?_
   refine wO_val (a_iaddrS (by exact rfl) (by exact rfl) hlt) ?_
   refine wO_val (a_loadN (by exact rfl) g5 g6 (by exact rfl)) ?_
   have hpxl:px<h'.next:=WF.get_lt (hk.wf hr.wf) hpx'
   refine wO_val a_new ?_;refine yM ?_;refine yS ?_;refine y3 ?_;refine wE_seq ?_;refine y4 ?_
   refine yN ?_;refine yF ?_
   refine yL ?_;refine yF ?_
   refine yL ?_;refine wO_val (a_build (by exact rfl)) ?_
   have hN':N≤h'.next:=Nat.le_trans hN hk.next
   have hlo':lo≤h'.next:=Nat.le_trans hlo hk.next
   have hkq:Lk lo h' ((h'.push (.cells [.int .i64 0, .int .i64 0, .int .i64 0, .int .i64 0, .bool false] true 1)).wr h.next h'.next (.cells (kc x) true 1)):=((Lk.refl lo h').push hlo' _).wr hlo'
   have gk:(((h'.push (.cells [.int .i64 0, .int .i64 0, .int .i64 0, .int .i64 0, .bool false] true 1)).wr h.next h'.next (.cells (kc x) true 1))).get h'.next=some (.cells (kc x) true 1):=by(simp(disch:=first|omega|(simp only[z1,z2];omega))only[z3,z4,z5,z6,z7,z1,z2, *];done)
   have gp:(((h'.push (.cells [.int .i64 0, .int .i64 0, .int .i64 0, .int .i64 0, .bool false] true 1)).wr h.next h'.next (.cells (kc x) true 1))).get px=some (.cells [.int .i64 a, .int .i64 b] true 1):=by(simp(disch:=first|omega|(simp only[z1,z2];omega))only[z3,z4,z5,z6,z7,z1,z2, *];done)
   have hPq:P (leavesL a b (l.take i) 0) ((h'.push (.cells [.int .i64 0, .int .i64 0, .int .i64 0, .int .i64 0, .bool false] true 1)).wr h.next h'.next (.cells (kc x) true 1)):=Y.stable _ _ _ hP (Nat.le_succ_of_le hN') fun z hz=>(z5 (by omega)).trans (z4 (by omega))
   have hqn:h'.next<(((h'.push (.cells [.int .i64 0, .int .i64 0, .int .i64 0, .int .i64 0, .bool false] true 1)).wr h.next h'.next (.cells (kc x) true 1))).next:=Nat.lt_succ_self _
   have hmem:=leaves_mem (a:=a) (b:=b) hxl
   have hsucc:=leaves_succ (a:=a) (b:=b) hxl
   change WO T _ _ _ _ _ _ ((h'.push (.cells [.int .i64 0, .int .i64 0, .int .i64 0, .int .i64 0, .bool false] true 1)).wr h.next h'.next (.cells (kc x) true 1))
   generalize hH:Heap.wr (Heap.push h' _) _ _ _=H at*
   clear hH g5 g6 s hpx' hsl hP hpxl
   have hkH:=hk.trans hkq
   by_cases c1:(a:Int)=x.w∧(b:Int)=x.h
   ·have L1:leavesEq [.i .i64, .i .i64] [.int .i64 a, .int .i64 b] [.int .i64 x.w, .int .i64 x.h]=some true:=by rw[leaves2,decide_eq_true c1]
    refine wO_val (a_agg (b:=true) (by exact rfl) (by exact rfl) L1) ?_
    refine yM ?_;refine yO ?_;refine yM ?_;refine yO ?_;refine yM ?_;refine yO ?_;refine wO_val (a_build (by exact rfl)) ?_;refine yO ?_
    refine wO_call (fn:= .yield l') (args:=[nodeV (1,i)]) (by rfl) ?_
    refine Y.call hp (hmem _ (by simp[leafAt,c1])) (hkH.wf hr.wf) (Nat.le_trans hlo hkH.next) (Nat.le_trans hN hkH.next) hPq ?_
    intro h2 hk2 hm2 hP2
    have gk2:=(hm2 h'.next hN' hqn).trans gk
    have gp2:=hpx _ _ hP2
    have hk3:=hkH.trans hk2
    by_cases c2:x.turn=true
    ·have ga:(h2).get h'.next=some (.cells [.int .i64 x.id, .int .i64 x.w, .int .i64 x.h, .int .i64 x.worth, .bool true] true 1):=by rw[gk2,kc,c2]
     clear gk gk2
     refine yO ?_;refine yA ?_;refine yT ?_;refine y3 ?_;refine yX ?_;refine wE_skip ?_;refine kS_n ?_;refine y4 ?_
     refine yF ?_;refine yL ?_;refine yM ?_;refine yO ?_;refine yN ?_;refine yO ?_;refine yF ?_;refine yO ?_
     refine yL ?_;refine yO ?_;refine yF ?_;refine yO ?_;refine yL ?_;refine yO ?_;refine wO_val (a_build (by exact rfl)) ?_;refine yO ?_
     by_cases c3:(a:Int)=x.h∧(b:Int)=x.w
     ·have L2:leavesEq [.i .i64, .i .i64] [.int .i64 a, .int .i64 b] [.int .i64 x.h, .int .i64 x.w]=some true:=by rw[leaves2,decide_eq_true c3]
      refine wO_val (a_agg (b:=true) (by exact rfl) (by exact rfl) L2) ?_
      refine yT ?_;refine yM ?_;refine yO ?_;refine yM ?_;refine yO ?_;refine yM ?_;refine yO ?_;refine wO_val (a_build (by exact rfl)) ?_;refine yO ?_
      refine wO_call (fn:= .yield l') (args:=[nodeV (2,i)]) (by rfl) ?_
      refine Y.call hp (hmem _ (by simp[leafAt,c2,c3])) (hk3.wf hr.wf) (Nat.le_trans hlo hk3.next) (Nat.le_trans hN hk3.next) hP2 ?_
      intro h4 hk4 _ hP4
      refine yO ?_;refine yA ?_;refine yT ?_;refine y3 ?_;refine yX ?_;refine wE_skip ?_;refine kB_n ?_;refine kS_n ?_;refine wE_region ?_
      refine yinc ?_;refine yM ?_;refine y3 ?_
      refine⟨n-(i+1),by omega,i+1,by omega,rfl,rfl,rfl,hk3.trans hk4,?_⟩
      have hl:leafAt x i a b=[(1,i)]++[(2,i)]:=by unfold leafAt;rw[if_pos c1,if_pos ⟨c2,c3⟩]
      rw[hsucc,hl,←List.append_assoc];exact hP4
     ·have L2:leavesEq [.i .i64, .i .i64] [.int .i64 a, .int .i64 b] [.int .i64 x.h, .int .i64 x.w]=some false:=by rw[leaves2,decide_eq_false c3]
      refine wO_val (a_agg (b:=false) (by exact rfl) (by exact rfl) L2) ?_
      refine yT ?_;refine yM ?_;refine yP ?_;refine yP ?_;refine yP ?_;refine yP ?_;refine yP ?_;refine yU ?_
      refine y3 ?_;refine yX ?_;refine wE_skip ?_;refine kB_n ?_;refine kS_n ?_;refine wE_region ?_;refine yinc ?_;refine yM ?_;refine y3 ?_
      refine⟨n-(i+1),by omega,i+1,by omega,rfl,rfl,rfl,hk3,?_⟩
      have hl:leafAt x i a b=[(1,i)]++[]:=by unfold leafAt;rw[if_pos c1,if_neg (fun q=>c3 q.2)]
      rw[hsucc,hl,List.append_nil];exact hP2
    ·have c2:x.turn=false:=by simpa using c2
     have ga:(h2).get h'.next=some (.cells [.int .i64 x.id, .int .i64 x.w, .int .i64 x.h, .int .i64 x.worth, .bool false] true 1):=by rw[gk2,kc,c2]
     clear gk gk2
     refine yO ?_;refine yA ?_;refine yT ?_;refine y3 ?_;refine yX ?_;refine wE_skip ?_;refine kS_n ?_;refine y4 ?_
     refine yF ?_;refine yL ?_;refine yM ?_;refine yP ?_;refine yP ?_;refine yP ?_;refine yP ?_;refine yP ?_
     refine yP ?_;refine yP ?_;refine yU ?_;refine yM ?_;refine yP ?_;refine yP ?_;refine yP ?_;refine yP ?_
     refine yP ?_;refine yU ?_;refine y3 ?_;refine yX ?_;refine wE_skip ?_;refine kB_n ?_;refine kS_n ?_;refine wE_region ?_
     refine yinc ?_;refine yM ?_;refine y3 ?_
     refine⟨n-(i+1),by omega,i+1,by omega,rfl,rfl,rfl,hk3,?_⟩
     have hl:leafAt x i a b=[(1,i)]++[]:=by unfold leafAt;rw[if_pos c1,if_neg (fun q=>by rw[c2]at q;cases q.1)]
     rw[hsucc,hl,List.append_nil];exact hP2
   ·have L1:leavesEq [.i .i64, .i .i64] [.int .i64 a, .int .i64 b] [.int .i64 x.w, .int .i64 x.h]=some false:=by rw[leaves2,decide_eq_false c1]
    refine wO_val (a_agg (b:=false) (by exact rfl) (by exact rfl) L1) ?_
    by_cases c2:x.turn=true
    ·have ga:(H).get h'.next=some (.cells [.int .i64 x.id, .int .i64 x.w, .int .i64 x.h, .int .i64 x.worth, .bool true] true 1):=by rw[gk,kc,c2]
     clear gk
     refine yM ?_;refine yP ?_;refine yP ?_;refine yP ?_;refine yP ?_;refine yP ?_;refine yU ?_;refine y3 ?_;refine yX ?_;refine wE_skip ?_;refine kS_n ?_;refine y4 ?_;refine yF ?_;refine yL ?_;refine yM ?_
     refine yO ?_;refine yN ?_;refine yO ?_;refine yF ?_;refine yO ?_;refine yL ?_;refine yO ?_;refine yF ?_
     refine yO ?_;refine yL ?_;refine yO ?_;refine wO_val (a_build (by exact rfl)) ?_;refine yO ?_
     by_cases c3:(a:Int)=x.h∧(b:Int)=x.w
     ·have L2:leavesEq [.i .i64, .i .i64] [.int .i64 a, .int .i64 b] [.int .i64 x.h, .int .i64 x.w]=some true:=by rw[leaves2,decide_eq_true c3]
      refine wO_val (a_agg (b:=true) (by exact rfl) (by exact rfl) L2) ?_
      refine yT ?_;refine yM ?_;refine yO ?_;refine yM ?_;refine yO ?_;refine yM ?_;refine yO ?_;refine wO_val (a_build (by exact rfl)) ?_;refine yO ?_
      refine wO_call (fn:= .yield l') (args:=[nodeV (2,i)]) (by rfl) ?_
      refine Y.call hp (hmem _ (by simp[leafAt,c2,c3])) (hkH.wf hr.wf) (Nat.le_trans hlo hkH.next) (Nat.le_trans hN hkH.next) hPq ?_
      intro h4 hk4 _ hP4
      refine yO ?_;refine yA ?_;refine yT ?_;refine y3 ?_;refine yX ?_;refine wE_skip ?_;refine kB_n ?_;refine kS_n ?_;refine wE_region ?_
      refine yinc ?_;refine yM ?_;refine y3 ?_
      refine⟨n-(i+1),by omega,i+1,by omega,rfl,rfl,rfl,hkH.trans hk4,?_⟩
      have hl:leafAt x i a b=[]++[(2,i)]:=by unfold leafAt;rw[if_neg c1,if_pos ⟨c2,c3⟩]
      rw[hsucc,hl,List.nil_append];exact hP4
     ·have L2:leavesEq [.i .i64, .i .i64] [.int .i64 a, .int .i64 b] [.int .i64 x.h, .int .i64 x.w]=some false:=by rw[leaves2,decide_eq_false c3]
      refine wO_val (a_agg (b:=false) (by exact rfl) (by exact rfl) L2) ?_
      refine yT ?_;refine yM ?_;refine yP ?_;refine yP ?_;refine yP ?_;refine yP ?_;refine yP ?_;refine yU ?_
      refine y3 ?_;refine yX ?_;refine wE_skip ?_;refine kB_n ?_;refine kS_n ?_;refine wE_region ?_;refine yinc ?_;refine yM ?_;refine y3 ?_
      refine⟨n-(i+1),by omega,i+1,by omega,rfl,rfl,rfl,hkH,?_⟩
      have hl:leafAt x i a b=[]++[]:=by unfold leafAt;rw[if_neg c1,if_neg (fun q=>c3 q.2)]
      rw[hsucc,hl,List.append_nil,List.append_nil];exact hPq
    ·have c2:x.turn=false:=by simpa using c2
     have ga:(H).get h'.next=some (.cells [.int .i64 x.id, .int .i64 x.w, .int .i64 x.h, .int .i64 x.worth, .bool false] true 1):=by rw[gk,kc,c2]
     clear gk
     refine yM ?_;refine yP ?_;refine yP ?_;refine yP ?_;refine yP ?_;refine yP ?_;refine yU ?_;refine y3 ?_;refine yX ?_;refine wE_skip ?_;refine kS_n ?_;refine y4 ?_;refine yF ?_;refine yL ?_;refine yM ?_
     refine yP ?_;refine yP ?_;refine yP ?_;refine yP ?_;refine yP ?_;refine yP ?_;refine yP ?_;refine yU ?_
     refine yM ?_;refine yP ?_;refine yP ?_;refine yP ?_;refine yP ?_;refine yP ?_;refine yU ?_;refine y3 ?_;refine yX ?_;refine wE_skip ?_;refine kB_n ?_;refine kS_n ?_;refine wE_region ?_;refine yinc ?_;refine yM ?_;refine y3 ?_
     refine⟨n-(i+1),by omega,i+1,by omega,rfl,rfl,rfl,hkH,?_⟩
     have hl:leafAt x i a b=[]++[]:=by unfold leafAt;rw[if_neg c1,if_neg (fun q=>by rw[c2]at q;cases q.1)]
     rw[hsucc,hl,List.append_nil,List.append_nil];exact hPq
 ·obtain rfl:i=n:=by omega
  have hfull:l.take i=l:=List.take_of_length_le (by omega)
  rw[hfull]at hP
  refine y4 ?_;refine yf ?_;refine y3 ?_;refine wE_seq ?_;refine yX ?_;refine wE_exit ?_;refine kS_e ?_;refine kS_e ?_;refine kB_e ?_
  exact endG_end (hk.log (by rw[hr.log];exact LogGe.nil _)) rfl ⟨rfl,hP⟩
end Go.A.Pk
end
section
set_option maxRecDepth 100000
namespace Go.A.Pk
variable {T:Nat→Option AFunc}
def fn2(f p q:Nat):Value:= .func (.func f) #[] #[.pointer (some ⟨p,0,none⟩), .pointer (some ⟨q,0,none⟩)]
def fn1(f p:Nat):Value:= .func (.func f) #[] #[.pointer (some ⟨p,0,none⟩)]
theorem boards94(hp:primAS T)(hf:T 94=some f94){h:Heap}(hr:Rdy h)(w ht:Int):Al T 94 [.int .i64 w, .int .i64 ht] h fun v h'=>v=fn2 136 h.next (h.next+1)∧h'.next=h.next+2∧h'.get h.next=some (.cells [.int .i64 w] true 1)∧h'.get (h.next+1)=some (.cells [.int .i64 ht] true 1):=by
 refine .of hp hf hr (fun v h1 hv q=>by rw[q.1]at hv;cases hv) ?_
 refine y4 ?_;refine yB ?_;refine yB ?_;refine yM ?_;refine y3 ?_;refine y4 ?_
 refine wO_val (a_mkFunc (by exact rfl) (by exact rfl)) ?_;refine yM ?_;refine y3 ?_;refine wE_ret ?_
 exact endA_ret hr.log (by rfl) ⟨rfl,rfl,by(simp(disch:=first|omega|(simp only[z1,z2];omega))only[z3,z4,z5,z6,z7,z1,z2, *];exact rfl),by(simp(disch:=first|omega|(simp only[z1,z2];omega)|(simp only[z1,z2];done)|fail)only[z8,z4,z5,z9,z7,z1,z2, *];exact rfl)⟩
theorem leaves104(hp:primAS T)(hf:T 104=some f104){h:Heap}(hr:Rdy h)(bb:Nat)(a b:Int):Al T 104 [.pointer (some ⟨bb,0,none⟩), .agg #[.int .i64 a, .int .i64 b]] h fun v h'=>v=fn2 140 h.next (h.next+1)∧h'.next=h.next+2∧h'.get h.next=some (.cells [.pointer (some ⟨bb,0,none⟩)] true 1)∧h'.get (h.next+1)=some (.cells [.int .i64 a, .int .i64 b] true 1):=by
 refine .of hp hf hr (fun v h1 hv q=>by rw[q.1]at hv;cases hv) ?_
 refine y4 ?_;refine yB ?_;refine yB ?_;refine yM ?_;refine y3 ?_;refine y4 ?_
 refine wO_val (a_mkFunc (by exact rfl) (by exact rfl)) ?_;refine yM ?_;refine y3 ?_;refine wE_ret ?_
 exact endA_ret hr.log (by rfl) ⟨rfl,rfl,by(simp(disch:=first|omega|(simp only[z1,z2];omega))only[z3,z4,z5,z6,z7,z1,z2, *];exact rfl),by(simp(disch:=first|omega|(simp only[z1,z2];omega)|(simp only[z1,z2];done)|fail)only[z8,z4,z5,z9,z7,z1,z2, *];exact rfl)⟩
theorem cuts105(hp:primAS T)(hf:T 105=some f105){h:Heap}(hr:Rdy h)(bb:Value)(a b:Int):Al T 105 [bb, .agg #[.int .i64 a, .int .i64 b]] h fun v h'=>v=fn1 141 h.next∧h'.next=h.next+1∧h'.get h.next=some (.cells [.int .i64 a, .int .i64 b] true 1):=by
 refine .of hp hf hr (fun v h1 hv q=>by rw[q.1]at hv;cases hv) ?_
 refine y4 ?_;refine yB ?_;refine yM ?_;refine y3 ?_;refine y4 ?_;refine wO_val (a_mkFunc (by exact rfl) (by exact rfl)) ?_
 refine yM ?_;refine y3 ?_;refine wE_ret ?_
 exact endA_ret hr.log (by rfl) ⟨rfl,rfl,by(simp(disch:=first|omega|(simp only[z1,z2];omega))only[z3,z4,z5,z6,z7,z1,z2, *];exact rfl)⟩
def oneB(x:Nat×Nat)(a b:Nat):Int×Int:=if x.1=3 then(x.2,b)else(a,x.2)
def twoB(kerf:Int)(x:Nat×Nat)(a b:Nat):Int×Int:=if x.1=3 then((a:Int)-x.2-kerf,b)else(a,(b:Int)-x.2-kerf)
def pairV(x:Int×Int):Value:= .agg #[.int .i64 x.1, .int .i64 x.2]
set_option maxHeartbeats 4000000 in
theorem split106(hp:primAS T)(hf:T 106=some f106){h:Heap}(hr:Rdy h){bb:Nat}{s ws:Value}{own:Bool}{kerf:Int}(hb:h.get bb=some (.cells [s, .int .i64 kerf,ws] own 1))(hlt:bb<h.next)(hk:0≤kerf∧kerf≤100){x:Nat×Nat}{a b:Nat}(hx:x.1=3∨x.1=4)(hx2:x.2<1000)(ha:a<1000)(hbb:b<1000):
 Pu T 106 [.pointer (some ⟨bb,0,none⟩),boardV (a,b),nodeV x] h (.tuple #[pairV (oneB x a b),pairV (twoB kerf x a b)]):=by
 refine .of hp hf hr rfl ?_
 obtain⟨x1,x2⟩:=x
 unfold boardV nodeV
 simp only at hx hx2
 rcases hx with rfl|rfl
 ·refine y4 ?_;refine yB ?_;refine yB ?_;refine wO_val a_new ?_;refine wO_val a_new ?_;refine y3 ?_;refine wE_seq ?_;refine y4 ?_
  refine yF ?_;refine yL ?_
  refine yt ?_;refine y3 ?_;refine yY ?_;refine wE_seq ?_;refine wE_draw ?_;refine qF ?_
  refine qL ?_
  refine wD_quiet rfl rfl rfl (by exact rfl) (by exact rfl) (by exact rfl) (a_iaddrA (i:=1) (by exact rfl) (by exact rfl) (by omega)) ?_
  refine qL ?_
  refine wD_quiet rfl rfl rfl (by exact rfl) (by exact rfl) (by exact rfl) (a_build (by exact rfl)) ?_;refine wD_quiet rfl rfl rfl (by exact rfl) (by exact rfl) (by exact rfl) (a_iaddrA (i:=0) (by exact rfl) (by exact rfl) (by omega)) ?_
  refine qL ?_
  refine qF ?_
  refine qL ?_
  refine wD_quiet rfl rfl rfl (by exact rfl) (by exact rfl) (by exact rfl) (a_num (by exact rfl) (by exact rfl) (by exact m_sub (wrapA_i64 (by omega) (by omega)))) ?_;refine qM ?_;refine wD_quiet rfl rfl rfl (by exact rfl) (by exact rfl) (by exact rfl) (a_nilchk (by exact rfl)) ?_
  refine qF ?_;refine qF ?_
  refine qL ?_
  refine wD_quiet rfl rfl rfl (by exact rfl) (by exact rfl) (by exact rfl) (a_num (by exact rfl) (by exact rfl) (by exact m_sub (wrapA_i64 (by omega) (by omega)))) ?_;refine wD_quiet rfl rfl rfl (by exact rfl) (by exact rfl) (by exact rfl) (a_iaddrA (i:=1) (by exact rfl) (by exact rfl) (by omega)) ?_
  refine qL ?_
  refine wD_quiet rfl rfl rfl (by exact rfl) (by exact rfl) (by exact rfl) (a_build (by exact rfl)) ?_
  refine wD_store rfl rfl rfl (by exact rfl) (by exact rfl) (by exact rfl) (by(simp(disch:=first|omega|(simp only[z1,z2];omega)|(simp only[z1,z2];done)|fail)only[z8,z4,z5,z9,z7,z1,z2, *];exact rfl)) (by exact rfl) (by exact rfl) (by(simp only[z1,z2];omega)) (by(simp only[z1,z2];omega)) (by apply ra_keepC rfl (rq_quiet rfl (a_build (by exact rfl)) (by exact sv_agg (by refine sl_cons (s1_int _ _) ?_;refine sl_cons (s1_int _ _) ?_;exact sl_nil))) rfl;apply ra_keepC rfl (rq_quiet rfl (a_load (by exact rfl) (by(simp(disch:=first|omega|(simp only[z1,z2];omega))only[z3,z4,z5,z6,z7,z1,z2, *];exact rfl)) (by exact rfl)) (by exact sv_int _ _)) rfl;apply ra_keepC rfl (rq_quiet rfl (a_iaddrA (i:=1) (by exact rfl) (by exact rfl) (by omega)) (by exact sv_ptr _)) rfl;apply ra_keepC rfl (rq_quiet rfl (a_num (by exact rfl) (by exact rfl) (by exact m_sub (wrapA_i64 (by omega) (by omega)))) (by exact sv_int _ _)) rfl;apply ra_keepC rfl (rq_quiet rfl (a_load (by exact rfl) (by(simp(disch:=first|omega|(simp only[z1,z2];omega))only[z3,z4,z5,z6,z7,z1,z2, *];exact rfl)) (by exact rfl)) (by exact sv_int _ _)) rfl;apply ra_keepC rfl (rq_quiet rfl (a_faddr (by exact rfl)) (by exact sv_ptr _)) rfl;apply ra_keepC rfl (rq_quiet rfl (a_faddr (by exact rfl)) (by exact sv_ptr _)) rfl;apply ra_keepC rfl (rq_quiet rfl (a_nilchk (by exact rfl)) (by exact sv_ptr _)) rfl;apply ra_keepC rfl (rq_quiet rfl (a_mov (by exact rfl)) (by exact sv_ptr _)) rfl;apply ra_keepC rfl (rq_quiet rfl (a_num (by exact rfl) (by exact rfl) (by exact m_sub (wrapA_i64 (by omega) (by omega)))) (by exact sv_int _ _)) rfl;apply ra_keepC rfl (rq_quiet rfl (a_load (by exact rfl) (by(simp(disch:=first|omega|(simp only[z1,z2];omega)|(simp only[z1,z2];done)|fail)only[z8,z4,z5,z9,z7,z1,z2, *];exact rfl)) (by exact rfl)) (by exact sv_int _ _)) rfl;apply ra_keepC rfl (rq_quiet rfl (a_faddr (by exact rfl)) (by exact sv_ptr _)) rfl;apply ra_keepC rfl (rq_quiet rfl (a_load (by exact rfl) (by(simp(disch:=first|omega|(simp only[z1,z2];omega))only[z3,z4,z5,z6,z7,z1,z2, *];exact rfl)) (by exact rfl)) (by exact sv_int _ _)) rfl;apply ra_keepC rfl (rq_quiet rfl (a_iaddrA (i:=0) (by exact rfl) (by exact rfl) (by omega)) (by exact sv_ptr _)) rfl;apply ra_dropC rfl;apply ra_dropC rfl;apply ra_dropC rfl;apply ra_dropC rfl;apply ra_dropC rfl;exact ra_nil) ?_
  refine wD_store rfl rfl rfl (by exact rfl) (by exact rfl) (by exact rfl) (by(simp(disch:=first|omega|(simp only[z1,z2];omega)|(simp only[z1,z2];done)|fail)only[z8,z4,z5,z9,z7,z1,z2, *];exact rfl)) (by exact rfl) (by exact rfl) (by(simp only[z1,z2];omega)) (by(simp only[z1,z2];omega)) (by apply ra_dropC rfl;apply ra_dropC rfl;apply ra_dropC rfl;apply ra_dropC rfl;apply ra_dropC rfl;apply ra_dropC rfl;apply ra_dropC rfl;apply ra_dropC rfl;apply ra_dropC rfl;apply ra_dropC rfl;apply ra_dropC rfl;apply ra_dropC rfl;apply ra_dropC rfl;apply ra_dropC rfl;exact ra_nil) ?_
  refine wD_nil ?_;refine y1 ?_;refine kS_n ?_;refine wE_ret ?_;refine kS_r ?_
  refine endP_ret ((Heap.log_wr_new (by(simp only[z1,z2];omega))).trans ((Heap.log_wr_new (by(simp only[z1,z2];omega))).trans hr.log)) (vs:=[pairV (oneB (3,x2) a b),pairV (twoB kerf (3,x2) a b)]) ?_ rfl
  refine res_cells (b:=h.next+2) rfl (by(simp(disch:=first|omega|(simp only[z1,z2];omega)|(simp only[z1,z2];done)|fail)only[z8,z4,z5,z9,z7,z1,z2, *];exact rfl)) rfl rfl (res_cells (b:=h.next+3) rfl (by(simp(disch:=first|omega|(simp only[z1,z2];omega)|(simp only[z1,z2];done)|fail)only[z8,z4,z5,z9,z7,z1,z2, *];exact rfl)) rfl rfl res_nil)
 ·refine y4 ?_;refine yB ?_;refine yB ?_;refine wO_val a_new ?_;refine wO_val a_new ?_;refine y3 ?_;refine wE_seq ?_;refine y4 ?_
  refine yF ?_;refine yL ?_
  refine yf ?_;refine y3 ?_;refine yX ?_;refine wE_skip ?_;refine kS_n ?_;refine wE_seq ?_;refine wE_draw ?_
  refine wD_quiet rfl rfl rfl (by exact rfl) (by exact rfl) (by exact rfl) (a_iaddrA (i:=0) (by exact rfl) (by exact rfl) (by omega)) ?_
  refine qL ?_
  refine qF ?_
  refine qL ?_
  refine wD_quiet rfl rfl rfl (by exact rfl) (by exact rfl) (by exact rfl) (a_build (by exact rfl)) ?_;refine wD_quiet rfl rfl rfl (by exact rfl) (by exact rfl) (by exact rfl) (a_iaddrA (i:=0) (by exact rfl) (by exact rfl) (by omega)) ?_
  refine qL ?_
  refine wD_quiet rfl rfl rfl (by exact rfl) (by exact rfl) (by exact rfl) (a_iaddrA (i:=1) (by exact rfl) (by exact rfl) (by omega)) ?_
  refine qL ?_
  refine qF ?_
  refine qL ?_
  refine wD_quiet rfl rfl rfl (by exact rfl) (by exact rfl) (by exact rfl) (a_num (by exact rfl) (by exact rfl) (by exact m_sub (wrapA_i64 (by omega) (by omega)))) ?_;refine qM ?_;refine wD_quiet rfl rfl rfl (by exact rfl) (by exact rfl) (by exact rfl) (a_nilchk (by exact rfl)) ?_
  refine qF ?_;refine qF ?_
  refine qL ?_
  refine wD_quiet rfl rfl rfl (by exact rfl) (by exact rfl) (by exact rfl) (a_num (by exact rfl) (by exact rfl) (by exact m_sub (wrapA_i64 (by omega) (by omega)))) ?_;refine wD_quiet rfl rfl rfl (by exact rfl) (by exact rfl) (by exact rfl) (a_build (by exact rfl)) ?_
  refine wD_store rfl rfl rfl (by exact rfl) (by exact rfl) (by exact rfl) (by(simp(disch:=first|omega|(simp only[z1,z2];omega)|(simp only[z1,z2];done)|fail)only[z8,z4,z5,z9,z7,z1,z2, *];exact rfl)) (by exact rfl) (by exact rfl) (by(simp only[z1,z2];omega)) (by(simp only[z1,z2];omega)) (by apply ra_keepC rfl (rq_quiet rfl (a_build (by exact rfl)) (by exact sv_agg (by refine sl_cons (s1_int _ _) ?_;refine sl_cons (s1_int _ _) ?_;exact sl_nil))) rfl;apply ra_keepC rfl (rq_quiet rfl (a_num (by exact rfl) (by exact rfl) (by exact m_sub (wrapA_i64 (by omega) (by omega)))) (by exact sv_int _ _)) rfl;apply ra_keepC rfl (rq_quiet rfl (a_load (by exact rfl) (by(simp(disch:=first|omega|(simp only[z1,z2];omega))only[z3,z4,z5,z6,z7,z1,z2, *];exact rfl)) (by exact rfl)) (by exact sv_int _ _)) rfl;apply ra_keepC rfl (rq_quiet rfl (a_faddr (by exact rfl)) (by exact sv_ptr _)) rfl;apply ra_keepC rfl (rq_quiet rfl (a_faddr (by exact rfl)) (by exact sv_ptr _)) rfl;apply ra_keepC rfl (rq_quiet rfl (a_nilchk (by exact rfl)) (by exact sv_ptr _)) rfl;apply ra_keepC rfl (rq_quiet rfl (a_mov (by exact rfl)) (by exact sv_ptr _)) rfl;apply ra_keepC rfl (rq_quiet rfl (a_num (by exact rfl) (by exact rfl) (by exact m_sub (wrapA_i64 (by omega) (by omega)))) (by exact sv_int _ _)) rfl;apply ra_keepC rfl (rq_quiet rfl (a_load (by exact rfl) (by(simp(disch:=first|omega|(simp only[z1,z2];omega)|(simp only[z1,z2];done)|fail)only[z8,z4,z5,z9,z7,z1,z2, *];exact rfl)) (by exact rfl)) (by exact sv_int _ _)) rfl;apply ra_keepC rfl (rq_quiet rfl (a_faddr (by exact rfl)) (by exact sv_ptr _)) rfl;apply ra_keepC rfl (rq_quiet rfl (a_load (by exact rfl) (by(simp(disch:=first|omega|(simp only[z1,z2];omega))only[z3,z4,z5,z6,z7,z1,z2, *];exact rfl)) (by exact rfl)) (by exact sv_int _ _)) rfl;apply ra_keepC rfl (rq_quiet rfl (a_iaddrA (i:=1) (by exact rfl) (by exact rfl) (by omega)) (by exact sv_ptr _)) rfl;apply ra_keepC rfl (rq_quiet rfl (a_load (by exact rfl) (by(simp(disch:=first|omega|(simp only[z1,z2];omega))only[z3,z4,z5,z6,z7,z1,z2, *];exact rfl)) (by exact rfl)) (by exact sv_int _ _)) rfl;apply ra_keepC rfl (rq_quiet rfl (a_iaddrA (i:=0) (by exact rfl) (by exact rfl) (by omega)) (by exact sv_ptr _)) rfl;apply ra_dropC rfl;apply ra_dropC rfl;apply ra_dropC rfl;apply ra_dropC rfl;apply ra_dropC rfl;exact ra_nil) ?_
  refine wD_store rfl rfl rfl (by exact rfl) (by exact rfl) (by exact rfl) (by(simp(disch:=first|omega|(simp only[z1,z2];omega)|(simp only[z1,z2];done)|fail)only[z8,z4,z5,z9,z7,z1,z2, *];exact rfl)) (by exact rfl) (by exact rfl) (by(simp only[z1,z2];omega)) (by(simp only[z1,z2];omega)) (by apply ra_dropC rfl;apply ra_dropC rfl;apply ra_dropC rfl;apply ra_dropC rfl;apply ra_dropC rfl;apply ra_dropC rfl;apply ra_dropC rfl;apply ra_dropC rfl;apply ra_dropC rfl;apply ra_dropC rfl;apply ra_dropC rfl;apply ra_dropC rfl;apply ra_dropC rfl;apply ra_dropC rfl;exact ra_nil) ?_
  refine wD_nil ?_;refine y1 ?_;refine kS_n ?_;refine wE_ret ?_
  refine endP_ret ((Heap.log_wr_new (by(simp only[z1,z2];omega))).trans ((Heap.log_wr_new (by(simp only[z1,z2];omega))).trans hr.log)) (vs:=[pairV (oneB (4,x2) a b),pairV (twoB kerf (4,x2) a b)]) ?_ rfl
  refine res_cells (b:=h.next+2) rfl (by(simp(disch:=first|omega|(simp only[z1,z2];omega)|(simp only[z1,z2];done)|fail)only[z8,z4,z5,z9,z7,z1,z2, *];exact rfl)) rfl rfl (res_cells (b:=h.next+3) rfl (by(simp(disch:=first|omega|(simp only[z1,z2];omega)|(simp only[z1,z2];done)|fail)only[z8,z4,z5,z9,z7,z1,z2, *];exact rfl)) rfl rfl res_nil)
end Go.A.Pk
end
section
set_option maxRecDepth 100000
namespace Go.A.Pk
variable {T:Nat→Option AFunc}
def asgO:ACode:=(.region [g 8 (.new [(.int .i64 0),(.int .i64 0)]),⟨none, .store 2 (t 8) (t 18),none⟩] [3,7,8])
def bodyO:ACode:=(.block 1 (.seq (.region [g 9 (.new [(.int .i64 0)]),⟨none, .store 1 (t 9) (.const (.int .i64 0)),none⟩] [3,7,8,9])
 (.seq (.seq (.region [g 19 (.load none (t 3)),g 20 (.load (some 2) (t 8)),g 21 (.call (.func 104) [(t 19),(t 20)])] [3,7,8,9,21])
 (.block 2 (.rangeFunc (t 21) [22] (.region [g 10 (.new [(.int .u8 0),(.int .i64 0)]),⟨none, .store 2 (t 10) (t 22),none⟩] [3,9,10]) (.block 3 (.draw [g 23 (.load none (t 9)),g 24 (.load none (t 3)),g 25 (.nilchk (t 24)),g 26 (.faddr 2 (t 25)),g 27 (.load none (t 26)),g 28 (.faddr 1 (t 10)),g 29 (.load none (t 28)),g 30 (.iaddrS 1 (t 27) (t 29)),g 31 (.load none (t 30)),g 32 (.minmax true [(t 23),(t 31)]),⟨none, .store 1 (t 9) (t 32),none⟩] [0,1,2,3,4,5,6,7,8,9,10] [0,0,2,6,14,0,32,126,254,511,1023] [])))))
 (.seq (.seq (.region [g 33 (.load none (t 3)),g 34 (.load (some 2) (t 8)),g 35 (.call (.func 105) [(t 33),(t 34)])] [3,7,8,9,35])
 (.block 4 (.rangeFunc (t 35) [36] (.region [g 11 (.new [(.int .u8 0),(.int .i64 0)]),⟨none, .store 2 (t 11) (t 36),none⟩] [3,7,8,9,11]) (.block 5 (.seq (.region [g 38 (.load none (t 3)),g 39 (.load (some 2) (t 8)),g 40 (.load (some 2) (t 11)),g 41 (.call (.func 106) [(t 38),(t 39),(t 40)]),g 37 (.mov (t 41)),g 42 (.extract (t 37) 0),g 43 (.extract (t 37) 1),g 12 (.new [(.int .i64 0),(.int .i64 0)]),g 13 (.new [(.int .i64 0),(.int .i64 0)]),⟨none, .store 2 (t 12) (t 42),none⟩,⟨none, .store 2 (t 13) (t 43),none⟩] [7,9,12,13])
 (.draw [g 44 (.load none (t 9)),g 45 (.load none (t 7)),g 46 (.load (some 2) (t 12)),g 47 (.lookup true [.i .i64, .i .i64] (.int .i64 0) false (t 45) (t 46)),g 48 (.load none (t 7)),g 49 (.load (some 2) (t 13)),g 50 (.lookup true [.i .i64, .i .i64] (.int .i64 0) false (t 48) (t 49)),g 51 (.bin (.num .add) (t 47) (t 50)),g 52 (.minmax true [(t 44),(t 51)]),⟨none, .store 1 (t 9) (t 52),none⟩] [0,1,2,3,4,5,6,7,8,9] [0,0,0,6,0,0,48,126,255,511] []))))))
 (.region [g 53 (.load none (t 7)),g 54 (.load (some 2) (t 8)),g 55 (.load none (t 9)),⟨none, .mapUp true [.i .i64, .i .i64] (t 53) (t 54) (t 55),none⟩] [])))))
def asgL:ACode:=(.region [g 10 (.new [(.int .u8 0),(.int .i64 0)]),⟨none, .store 2 (t 10) (t 22),none⟩] [3,9,10])
def bodyL:ACode:=(.block 3 (.draw [g 23 (.load none (t 9)),g 24 (.load none (t 3)),g 25 (.nilchk (t 24)),g 26 (.faddr 2 (t 25)),g 27 (.load none (t 26)),g 28 (.faddr 1 (t 10)),g 29 (.load none (t 28)),g 30 (.iaddrS 1 (t 27) (t 29)),g 31 (.load none (t 30)),g 32 (.minmax true [(t 23),(t 31)]),⟨none, .store 1 (t 9) (t 32),none⟩] [0,1,2,3,4,5,6,7,8,9,10] [0,0,2,6,14,0,32,126,254,511,1023] []))
def asgC:ACode:=(.region [g 11 (.new [(.int .u8 0),(.int .i64 0)]),⟨none, .store 2 (t 11) (t 36),none⟩] [3,7,8,9,11])
def bodyC:ACode:=(.block 5 (.seq (.region [g 38 (.load none (t 3)),g 39 (.load (some 2) (t 8)),g 40 (.load (some 2) (t 11)),g 41 (.call (.func 106) [(t 38),(t 39),(t 40)]),g 37 (.mov (t 41)),g 42 (.extract (t 37) 0),g 43 (.extract (t 37) 1),g 12 (.new [(.int .i64 0),(.int .i64 0)]),g 13 (.new [(.int .i64 0),(.int .i64 0)]),⟨none, .store 2 (t 12) (t 42),none⟩,⟨none, .store 2 (t 13) (t 43),none⟩] [7,9,12,13])
 (.draw [g 44 (.load none (t 9)),g 45 (.load none (t 7)),g 46 (.load (some 2) (t 12)),g 47 (.lookup true [.i .i64, .i .i64] (.int .i64 0) false (t 45) (t 46)),g 48 (.load none (t 7)),g 49 (.load (some 2) (t 13)),g 50 (.lookup true [.i .i64, .i .i64] (.int .i64 0) false (t 48) (t 49)),g 51 (.bin (.num .add) (t 47) (t 50)),g 52 (.minmax true [(t 44),(t 51)]),⟨none, .store 1 (t 9) (t 52),none⟩] [0,1,2,3,4,5,6,7,8,9] [0,0,0,6,0,0,48,126,255,511] [])))
abbrev Tab:=List ((Nat×Nat)×Int)
def ents(t:Tab):List (Value×Value):=t.map fun e=>(boardV e.1, .int .i64 e.2)
def isKey(x:Int×Int)(e:(Nat×Nat)×Int):Bool:=decide (x.1=e.1.1∧x.2=e.1.2)
def look:Tab→Int×Int→Int
 |[],_=>0
 |e::t,x=>if isKey x e then e.2 else look t x
def upd:Tab→Nat×Nat→Int→Tab
 |[],x,v=>[(x,v)]
 |e::t,x,v=>if isKey (x.1,x.2) e then(x,v)::t else e::upd t x v
def mx(a b:Int):Int:=if b>a then b else a
def L2:List Leaf:=[.i .i64, .i .i64]
theorem keyEq_board(x:Int×Int)(e:(Nat×Nat)×Int):keyEq true L2 (pairV x) (boardV e.1)=some (isKey x e):=by
 show leavesEq L2 [.int .i64 x.1, .int .i64 x.2] [.int .i64 e.1.1, .int .i64 e.1.2]=_
 rw[L2,leaves2];rfl
theorem find_look(x:Int×Int):∀(t:Tab) (i:Nat),(findA true L2 (pairV x) i (ents t)=some none∧look t x=0)∨∃j,findA true L2 (pairV x) i (ents t)=some (some (j, .int .i64 (look t x)))
 |[],i=> .inl ⟨rfl,rfl⟩
 |e::t,i=>by
  simp only[ents,List.map_cons,findA,keyEq_board,look]
  cases isKey x e with
  |true=>exact .inr ⟨i,rfl⟩
  |false=>exact find_look x t (i+1)
theorem find_upd(x:Nat×Nat)(v:Int):∀(t:Tab) (i:Nat),(findA true L2 (boardV x) i (ents t)=some none∧upd t x v=t++[(x,v)])∨∃j u,findA true L2 (boardV x) i (ents t)=some (some (i+j,u))∧ents (upd t x v)=lset (ents t) j (boardV x, .int .i64 v)
 |[],i=> .inl ⟨rfl,rfl⟩
 |e::t,i=>by
  have hk:keyEq true L2 (boardV x) (boardV e.1)=some (isKey (x.1,x.2) e):=keyEq_board (x.1,x.2) e
  simp only[ents,List.map_cons,findA,hk,upd]
  cases isKey (x.1,x.2) e with
  |true=>exact .inr ⟨0,_,rfl,rfl⟩
  |false=>
   rcases find_upd x v t (i+1)with⟨h1,h2⟩|⟨j,u,h1,h2⟩
   ·exact .inl ⟨h1,by simp[h2]⟩
   ·refine .inr ⟨j+1,u,?_,?_⟩
    ·rw[show i+(j+1)=i+1+j by omega];exact h1
    ·simp only[ents]at h2
     simp[lset,h2]
theorem keyOk_pair(x:Int×Int):keyOk true L2 (pairV x)=true:=by
 simp[keyOk,pairV,isAggV,cellsOf,L2,leavesEq,leafEq]
theorem keyOk_board(x:Nat×Nat):keyOk true L2 (boardV x)=true:=keyOk_pair (x.1,x.2)
theorem a_lookup{base:Nat}{h:Heap}{e:Env}{m k:Operand}{r:Nat}{t:Tab}{x:Int×Int}(hm:ev h e m=some (.map (some r)))(hk:ev h e k=some (pairV x))(hr:h.get r=some (.map (ents t))):aop h base e (.lookup true [.i .i64, .i .i64] (.int .i64 0) false m k)=some (.val (.int .i64 (look t x)) h):=by
 have e2:([.i .i64, .i .i64]:List Leaf)=L2:=rfl
 rcases find_look x t 0 with⟨h1,h2⟩|⟨j,h1⟩
 ·simp only[aop,hm,hk,hr,e2,keyOk_pair,h1,h2,cond_true,cond_false]
 ·simp only[aop,hm,hk,hr,e2,keyOk_pair,h1,cond_true,cond_false]
theorem a_mapUp{base:Nat}{h:Heap}{e:Env}{m k v:Operand}{r:Nat}{t:Tab}{x:Nat×Nat}{z:Int}(hm:ev h e m=some (.map (some r)))(hk:ev h e k=some (boardV x))(hv:ev h e v=some (.int .i64 z))(hr:h.get r=some (.map (ents t))):aop h base e (.mapUp true [.i .i64, .i .i64] m k v)=some (.val (.tuple #[]) (h.wr base r (.map (ents (upd t x z))))):=by
 have e2:([.i .i64, .i .i64]:List Leaf)=L2:=rfl
 rcases find_upd x z t 0 with⟨h1,h2⟩|⟨j,u,h1,h2⟩
 ·have h3:lcat (ents t) [(boardV x, .int .i64 z)]=ents (upd t x z):=by rw[h2,lcat_eq];simp[ents]
  simp only[aop,hm,hk,hv,hr,e2,keyOk_board,h1,cond_true,h3]
 ·rw[Nat.zero_add]at h1
  simp only[aop,hm,hk,hv,hr,e2,keyOk_board,h1,cond_true,←h2]
theorem a_max{base:Nat}{h:Heap}{e:Env}{x y:Operand}{a b:Int}(hx:ev h e x=some (.int .i64 a))(hy:ev h e y=some (.int .i64 b)):aop h base e (.minmax true [x,y])=some (.val (.int .i64 (mx a b)) h):=by
 simp only[aop,evs,hx,hy,mmA,if_true,bindV,mx]
theorem ne_loop{H:Heap}{a l:Nat}{vs:List Value}{o:Bool}{s:Nat}{e:Env}{ps:List Nat}{ag b:ACode}{st:Nat}{p:AExit}(ha:H.get a=some (.cells vs o s))(hl:H.get l=some (.loop e ps ag b st p)):a≠l:=by
 rintro rfl;rw[ha]at hl;cases hl
theorem ne_map{H:Heap}{a l:Nat}{vs:List (Value×Value)}{e:Env}{ps:List Nat}{ag b:ACode}{st:Nat}{p:AExit}(ha:H.get a=some (.map vs))(hl:H.get l=some (.loop e ps ag b st p)):a≠l:=by
 rintro rfl;rw[ha]at hl;cases hl
theorem ne_cm{H:Heap}{a l:Nat}{vs:List Value}{o:Bool}{s:Nat}{ms:List (Value×Value)}(ha:H.get a=some (.cells vs o s))(hl:H.get l=some (.map ms)):a≠l:=by
 rintro rfl;rw[ha]at hl;cases hl
theorem wD_storeA{base:Nat}{e:Env}{h:Heap}{ops:List AOper}{bf:List Nat}{rs rs':List Rec}{Q:Env→Heap→Prop}{i mask:Nat}{is:List Nat}{dst:Option Nat}{x y:Operand}{n b o sz:Nat}{vs ws:List Value}{v:Value}{g:Option (Nat×Bool)}{er:Env}(ho:lget ops i=some ⟨dst, .store n x y,g⟩)(hm:lget bf i=some mask)
 (he:keepE e (slotsA ⟨dst, .store n x y,g⟩)=er)(hw:wantedA er g=some true)(hx:ev {h with log:=[]} er x=some (.pointer (some ⟨b,o,none⟩)))(hy:ev {h with log:=[]} er y=some v)(hb:h.get b=some (.cells vs true sz))
 (hc:(Nat.beq (llen (cellsOf v)) n&&Nat.ble (o+n) (llen vs)&&ones (cellsOf v))=true)(hws:lputs vs o (cellsOf v)=ws)(hlt:b<h.next)(hrs:recsAfter (h.wr base b (.cells ws true sz)) base [b] mask rs=some rs')
 (H:WD T base ops bf Q is rs' (dstE e dst (.tuple #[])) (h.wr base b (.cells ws true sz))):WD T base ops bf Q (i::is) rs e h:=
 wD_actH ho hm he hw rfl (a_store (h:={h with log:=[]}) hx hy hb hc hws) (eq_wrA hlt _) (lg_wr hlt _) hrs H
theorem log_wr_q{h:Heap}{base q:Nat}{o:AObj}(hl:h.log=[])(hq:q<base):(h.wr base q o).log=[q]:=by
 simp only[Heap.wr,nblt_of hq,hl,lhas,cond_true,cond_false]
def ints(l:List Int):List Value:=l.map fun x=> .int .i64 x
theorem ints_get{l:List Int}{i:Nat}(hi:i<l.length):(ints l)[i]? =some (.int .i64 (l.getD i 0)):=by
 simp[ints,List.getD,List.getElem?_eq_getElem hi]
set_option maxHeartbeats 4000000 in
theorem leaf_round(hp:primAS T){H:Heap}(hr:Rdy H){q p3 bb l2 n wc:Nat}{x7 x8 fv s1 s2:Value}{wa:Option Addr}{own:Bool}{ws:List Int}{m:Int}{x:Nat×Nat}(hx:x.2<n)(gl:H.get l2=some (.loop [(3, .pointer (some ⟨p3,0,none⟩)),(7,x7),(8,x8),(9, .pointer (some ⟨q,0,none⟩)),(21,fv)] [22] asgL bodyL 0 .normal))
 (gq:H.get q=some (.cells [.int .i64 m] true 1))(g3:H.get p3=some (.cells [.pointer (some ⟨bb,0,none⟩)] true 1))(gb:H.get bb=some (.cells [s1,s2, .slice wa n wc] own 1))(hws:SliceOf H 1 (.slice wa n wc) n (ints ws)):
 FW T (.yield l2) [nodeV x] H fun r H'=>r= .ret (.bool true)∧(∀z∈H'.log,q≤z∧z<q+1)∧(∀z,z<H.next→z≠q→H'.get z=H.get z)∧H'.get q=some (.cells [.int .i64 (mx m (ws.getD x.2 0))] true 1):=by
 have hlen:ws.length=n:=by have:=hws.len;simp[ints]at this;omega
 rcases hws.inv with⟨_,_,h0,_⟩|⟨b0,o0,cap,hv,s,hcap⟩
 ·omega
 cases hv
 obtain⟨vs,own',t0,g5,g6⟩:=slice_elem1 s (ints_get (l:=ws) (i:=x.2) (by omega))
 clear s
 have n1:=ne_loop gq gl
 have n2:=ne_loop g3 gl
 have n3:=ne_loop gb gl
 have n4:=ne_loop g5 gl
 have k1:=WF.get_lt hr.wf gq
 have k2:=WF.get_lt hr.wf g3
 have k3:=WF.get_lt hr.wf gb
 have k4:=WF.get_lt hr.wf g5
 have k5:=WF.get_lt hr.wf gl
 refine FW.yieldN hp (R:=fun H'=>(∀z,z<H.next→z≠q→H'.get z=H.get z)∧H'.get q=some (.cells [.int .i64 (mx m (ws.getD x.2 0))] true 1)) gl rfl k5 ?_
 unfold asgL nodeV
 refine wE_region ?_;refine wO_val a_new ?_;refine yS ?_;refine wO_nil ?_
 refine y1 ?_
 refine⟨rfl,by(simp(disch:=first|omega|(simp only[z1,z2];omega))only[z3,z4,z5,z6,z7,z1,z2, *];exact rfl),?_⟩
 unfold bodyL
 refine wE_block ?_;refine wE_draw ?_;refine qL ?_
 refine qL ?_
 refine wD_quiet rfl rfl rfl (by exact rfl) (by exact rfl) (by exact rfl) (a_nilchk (by exact rfl)) ?_;refine qF ?_
 refine qL ?_
 refine qF ?_
 refine qL ?_
 refine wD_quiet rfl rfl rfl (by exact rfl) (by exact rfl) (by exact rfl) (a_iaddrS (by exact rfl) (by exact rfl) hx) ?_
 skip
 refine wD_quiet rfl rfl rfl (by exact rfl) (by exact rfl) (by exact rfl) (a_load (by exact rfl) (by(simp(disch:=first|omega|(simp only[z1,z2];omega))only[z3,z4,z5,z6,z7,z1,z2, *];exact rfl)) g6) ?_
 refine wD_quiet rfl rfl rfl (by exact rfl) (by exact rfl) (by exact rfl) (a_max (by exact rfl) (by exact rfl)) ?_
 refine wD_storeA (ws:=[.int .i64 (mx m (ws.getD x.2 0))]) rfl rfl rfl (by exact rfl) (by exact rfl) (by exact rfl) (by(simp(disch:=first|omega|(simp only[z1,z2];omega))only[z3,z4,z5,z6,z7,z1,z2, *];exact rfl)) (by exact rfl) (by exact rfl) (by(simp only[z1,z2];omega)) (by apply ra_dropC rfl;apply ra_dropC rfl;apply ra_dropC rfl;apply ra_dropC rfl;apply ra_dropC rfl;apply ra_dropC rfl;apply ra_dropC rfl;apply ra_dropC rfl;apply ra_dropC rfl;apply ra_dropC rfl;exact ra_nil) ?_
 refine wD_nil ?_;refine y1 ?_;refine kB_n ?_
 refine⟨rfl,⟨_,by(simp(disch:=first|omega|(simp only[z1,z2];omega))only[z3,z4,z5,z6,z7,z1,z2, *];exact rfl),rfl⟩,?_,?_⟩
 ·intro z hz
  rw[log_wr_q (by exact(Heap.log_wr_new (Nat.zero_le _)).trans ((Heap.log_wr_new (Nat.le_refl _)).trans hr.log)) k1]at hz
  simp at hz;omega
 ·intro h5 hn hag hl5
  refine⟨fun z hz hne=> ?_,(hag q k1 n1).trans (by(simp(disch:=first|omega|(simp only[z1,z2];omega))only[z3,z4,z5,z6,z7,z1,z2, *];done))⟩
  by_cases hz2:z=l2
  ·rw[hz2];exact hl5.trans gl.symm
  ·exact(hag z hz hz2).trans ((z5 hne).trans ((z5 hz2).trans ((z5 (by omega)).trans (z4 hz))))
set_option maxHeartbeats 8000000 in
theorem cut_round(hp:primAS T)(f106:T 106=some f106){H:Heap}(hr:Rdy H){q p3 p7 p8 bb mb l2 a b:Nat}{fv s1 s3:Value}{own:Bool}{kerf m:Int}{t:Tab}{x:Nat×Nat}(hx:x.1=3∨x.1=4)(hx2:x.2<1000)(ha:a<1000)(hb:b<1000)(hk:0≤kerf∧kerf≤100)
 (hsum: -4611686018427387904≤look t (oneB x a b)+look t (twoB kerf x a b)∧look t (oneB x a b)+look t (twoB kerf x a b)≤4611686018427387904)(gl:H.get l2=some (.loop [(3, .pointer (some ⟨p3,0,none⟩)),(7, .pointer (some ⟨p7,0,none⟩)),(8, .pointer (some ⟨p8,0,none⟩)),(9, .pointer (some ⟨q,0,none⟩)),(35,fv)] [36] asgC bodyC 0 .normal))
 (gq:H.get q=some (.cells [.int .i64 m] true 1))(g3:H.get p3=some (.cells [.pointer (some ⟨bb,0,none⟩)] true 1))(g7:H.get p7=some (.cells [.map (some mb)] true 1))(g8:H.get p8=some (.cells [.int .i64 a, .int .i64 b] true 1))(gb:H.get bb=some (.cells [s1, .int .i64 kerf,s3] own 1))(gm:H.get mb=some (.map (ents t)))(h7:p7≠q):
 FW T (.yield l2) [nodeV x] H fun r H'=>r= .ret (.bool true)∧(∀z∈H'.log,q≤z∧z<q+1)∧(∀z,z<H.next→z≠q→H'.get z=H.get z)∧H'.get q=some (.cells [.int .i64 (mx m (look t (oneB x a b)+look t (twoB kerf x a b)))] true 1):=by
 have n1:=ne_loop gq gl
 have n2:=ne_loop g3 gl
 have n3:=ne_loop gb gl
 have n4:=ne_loop g7 gl
 have n5:=ne_loop g8 gl
 have n6:=ne_map gm gl
 have n7:=ne_cm gq gm
 have k1:=WF.get_lt hr.wf gq
 have k2:=WF.get_lt hr.wf g3
 have k3:=WF.get_lt hr.wf gb
 have k4:=WF.get_lt hr.wf g7
 have k5:=WF.get_lt hr.wf gl
 have k6:=WF.get_lt hr.wf g8
 have k7:=WF.get_lt hr.wf gm
 refine FW.yieldN hp (R:=fun H'=>(∀z,z<H.next→z≠q→H'.get z=H.get z)∧H'.get q=some (.cells [.int .i64 (mx m (look t (oneB x a b)+look t (twoB kerf x a b)))] true 1)) gl rfl k5 ?_
 unfold asgC
 refine wE_region ?_;refine wO_val a_new ?_;refine yS ?_;refine wO_nil ?_
 refine y1 ?_
 refine⟨rfl,by(simp(disch:=first|omega|(simp only[z1,z2];omega))only[z3,z4,z5,z6,z7,z1,z2, *];exact rfl),?_⟩
 unfold bodyC
 refine wE_block ?_;refine y4 ?_;refine yL ?_
 refine yN ?_
 refine yN ?_
 refine yC ?_
 have gB:(((H.push (.cells [.int .u8 0, .int .i64 0] true 1)).wr H.next H.next (.cells [.int .u8 x.1, .int .i64 x.2] true 1)).wr 0 l2 (.loop [(3, .pointer (some ⟨p3,0,none⟩)),(7, .pointer (some ⟨p7,0,none⟩)),(8, .pointer (some ⟨p8,0,none⟩)),(9, .pointer (some ⟨q,0,none⟩)),(35,fv)] [36] asgC bodyC 1 .normal)).get bb=some (.cells [s1, .int .i64 kerf,s3] own 1):=by(simp(disch:=first|omega|(simp only[z1,z2];omega))only[z3,z4,z5,z6,z7,z1,z2, *];done)
 have hw:WF (((H.push (.cells [.int .u8 0, .int .i64 0] true 1)).wr H.next H.next (.cells [.int .u8 x.1, .int .i64 x.2] true 1)).wr 0 l2 (.loop [(3, .pointer (some ⟨p3,0,none⟩)),(7, .pointer (some ⟨p7,0,none⟩)),(8, .pointer (some ⟨p8,0,none⟩)),(9, .pointer (some ⟨q,0,none⟩)),(35,fv)] [36] asgC bodyC 1 .normal)):=((hr.wf.push _).as (AS.wr _ _ _ _)).as (AS.wr _ _ _ _)
 refine FW.pu (split106 hp f106 (.of hw) gB (Nat.lt_succ_of_lt k3) hk hx hx2 ha hb) ?_
 refine yM ?_;refine yE ?_;refine yE ?_;refine wO_val a_new ?_;refine wO_val a_new ?_
 refine yS ?_
 refine yS ?_;refine y3 ?_;refine wE_draw ?_
 refine qL ?_
 refine qL ?_
 refine qN ?_
 refine wD_quiet rfl rfl rfl (by exact rfl) (by exact rfl) (by exact rfl) (a_lookup (x:=oneB x a b) (by exact rfl) (by exact rfl) (by(simp(disch:=first|omega|(simp only[z1,z2];omega))only[z3,z4,z5,z6,z7,z1,z2, *];exact rfl))) ?_
 refine qL ?_
 refine qN ?_
 refine wD_quiet rfl rfl rfl (by exact rfl) (by exact rfl) (by exact rfl) (a_lookup (x:=twoB kerf x a b) (by exact rfl) (by exact rfl) (by(simp(disch:=first|omega|(simp only[z1,z2];omega))only[z3,z4,z5,z6,z7,z1,z2, *];exact rfl))) ?_
 refine wD_quiet rfl rfl rfl (by exact rfl) (by exact rfl) (by exact rfl) (a_num (by exact rfl) (by exact rfl) (m_add (wrapA_i64 (by omega) (by omega)))) ?_
 refine wD_quiet rfl rfl rfl (by exact rfl) (by exact rfl) (by exact rfl) (a_max (by exact rfl) (by exact rfl)) ?_
 refine wD_storeA (ws:=[.int .i64 (mx m (look t (oneB x a b)+look t (twoB kerf x a b)))]) rfl rfl rfl (by exact rfl) (by exact rfl) (by exact rfl) (by(simp(disch:=first|omega|(simp only[z1,z2];omega))only[z3,z4,z5,z6,z7,z1,z2, *];exact rfl)) (by exact rfl) (by exact rfl) (by(simp only[z1,z2];omega)) (by apply ra_dropC rfl;apply ra_dropC rfl;apply ra_dropC rfl;apply ra_dropC rfl;apply ra_dropC rfl;apply ra_dropC rfl;apply ra_dropC rfl;apply ra_dropC rfl;apply ra_dropC rfl;exact ra_nil) ?_
 refine wD_nil ?_;refine y1 ?_;refine kB_n ?_
 refine⟨rfl,⟨_,by(simp(disch:=first|omega|(simp only[z1,z2];omega))only[z3,z4,z5,z6,z7,z1,z2, *];exact rfl),rfl⟩,?_,?_⟩
 ·intro z hz
  rw[log_wr_q (by simp(disch:=first|omega|(simp only[z1,z2];omega))only[Heap.log_wr_new,Heap.log_push];exact hr.log) k1]at hz
  simp at hz;omega
 ·intro h5 hn hag hl5
  refine⟨fun z hz hne=> ?_,(hag q k1 n1).trans (by(simp(disch:=first|omega|(simp only[z1,z2];omega))only[z3,z4,z5,z6,z7,z1,z2, *];done))⟩
  by_cases hz2:z=l2
  ·rw[hz2];exact hl5.trans gl.symm
  ·exact(hag z hz hz2).trans (by simp(disch:=first|omega|(simp only[z1,z2];omega))only[z5,z4])
end Go.A.Pk
end
section
set_option maxRecDepth 100000
namespace Go.A.Pk
variable {T:Nat→Option AFunc}
theorem mergeLog_ge{base:Nat}:∀{m l:List Nat},LogGe base m→mergeLog base l m=l
 |[],_,_=>rfl
 |b::m,l,h=>by
  have hb:=h b (List.mem_cons_self ..)
  simp only[mergeLog,nblt_not (show¬b<base by omega),cond_false]
  exact mergeLog_ge fun x hx=>h x (List.mem_cons_of_mem _ hx)
theorem SliceOf.agree{h h':Heap}{sz n:Nat}{v:Value}{cs:List Value}(s:SliceOf h sz v n cs)(hn:h.next≤h'.next)(ha:∀b vs o t,b<h.next→h.get b=some (.cells vs o t)→h'.get b=h.get b):SliceOf h' sz v n cs:=by
 cases s with
 |nil=>exact .nil
 |mem s hc=>
  obtain⟨vs,own,t,h1,h2⟩:=s.obj
  exact .mem ⟨Nat.lt_of_lt_of_le s.lt hn,⟨vs,own,t,(ha _ _ _ _ s.lt h1).trans h1,h2⟩,s.len⟩ hc
theorem PW.yld(hp:primAS T){l2 q:Nat}{H0:Heap}{L:AObj}{O:List (Nat×Nat)→AObj}{V:Nat×Nat→Value}{all:List (Nat×Nat)}(hq:q<l2)
 (hround:∀done x H',x∈all→Rdy H'→l2<H'.next→PW l2 q H0 L O done H'→FW T (.yield l2) [V x] H' fun r H''=>r= .ret (.bool true)∧(∀z∈H''.log,q≤z∧z<q+1)∧(∀z,z<H'.next→z≠q→H''.get z=H'.get z)∧H''.get q=some (O (done++[x]))):
 Yld T q (l2+1) l2 V all (PW l2 q H0 L O)where
 yields:=fun done x H hx hr hN hP=>FW.mono' (FW.withAS hp (hround done x H hx hr hN hP) hr.log) fun r H' ⟨hA,h1,h2,h3,h4⟩=>⟨h1,fun z hz=>by have:=h2 z hz;omega,⟨fun y hy hne=>(h3 y (by omega) hne).trans (hP.old y hy hne),h4,(h3 l2 (by omega) (by omega)).trans hP.loop,Nat.lt_of_lt_of_le hP.nx hA.next⟩⟩
 stable:=fun done H H' p hn h=>PW.stable hq done H H' p hn h
theorem inner_range{base:Nat}{rnd:Option Nat}{e:Env}{ds:Dfs}{Q:XQ}{h1:Heap}{f:Operand}{g q:Nat}{first cap:Array Value}{ps:List Nat}{asg body:ACode}{all:List (Nat×Nat)}{O:List (Nat×Nat)→AObj}(hr:roundA h1 rnd=true)(hf:ev h1 e f=some (.func (.func g) first cap))(hnc:notCode (T g)=false)
 (hB:base≤h1.next)(hq:base≤q)(hlog:h1.log=[])(w1:WF h1)
 (HG:Gr T g (lcat first.toList (lcat [.func (.yield h1.next) #[] #[]] cap.toList)) {h1.push (.loop e ps asg body 0 .normal)with log:=[]} q fun v h'=>v= .tuple #[]∧PW h1.next q h1 (.loop e ps asg body 0 .normal) O all h')(hqn:q<h1.next)
 (K:∀h3,h3.log=[]→WF h3→h1.next≤h3.next→(∀z,z<h1.next→z≠q→h3.get z=h1.get z)→h3.get q=some (O all)→Q .normal e ds h3):WE T base rnd (.rangeFunc f ps asg body) Q e ds h1:=by
 refine wE_range hr hf hnc (CW.mono HG ?_)
 rintro r h2 ⟨hk,v,rfl,rfl,hP⟩
 refine⟨_,rfl,_,_,_,_,_,_,hP.loop,rfl,?_⟩
 have hl2:LogGe base h2.log:=fun z hz=>Nat.le_trans hq (hk.log (LogGe.nil _) z hz)
 refine K _ ?_ ?_ ?_ (fun z hz hne=> ?_) ?_
 ·rw[Heap.log_wr_new hB]
  show mergeLog base h1.log h2.log=[]
  rw[mergeLog_ge hl2,hlog]
 ·exact((hk.wf ((w1.push _).log _)).log _).as (AS.wr _ _ _ _)
 ·have:=hk.next
  have e1:h1.next+1≤h2.next:=this
  show h1.next≤h2.next
  omega
 ·exact(z5 (by omega)).trans (hP.old z hz hne)
 ·exact(z5 (by omega)).trans hP.obj
def leafM(ws:List Int)(xs:List (Nat×Nat))(m:Int):Int:=xs.foldl (fun m x=>mx m (ws.getD x.2 0)) m
def cutM(kerf:Int)(t:Tab)(a b:Nat)(xs:List (Nat×Nat))(m:Int):Int:=xs.foldl (fun m x=>mx m (look t (oneB x a b)+look t (twoB kerf x a b))) m
def val(kerf:Int)(ws:List Int)(kl:List Kd)(t:Tab)(a b:Nat):Int:=cutM kerf t a b (cutsL a b) (leafM ws (leavesL a b kl 0) 0)
theorem leafM_snoc(ws:List Int)(xs:List (Nat×Nat))(x:Nat×Nat)(m:Int):leafM ws (xs++[x]) m=mx (leafM ws xs m) (ws.getD x.2 0):=by simp[leafM]
theorem cutM_snoc(kerf:Int)(t:Tab)(a b:Nat)(xs:List (Nat×Nat))(x:Nat×Nat)(m:Int):cutM kerf t a b (xs++[x]) m=mx (cutM kerf t a b xs m) (look t (oneB x a b)+look t (twoB kerf x a b)):=by simp[cutM]
theorem leafAt_idx{k:Kd}{i a b:Nat}:∀x∈leafAt k i a b,x.2=i:=by
 intro x hx
 unfold leafAt at hx
 simp only[List.mem_append]at hx
 rcases hx with hx|hx<;>split at hx<;>simp at hx<;>rw[hx]
theorem leaves_idx{a b:Nat}:∀{l:List Kd} {i:Nat},∀x∈leavesL a b l i,x.2<i+l.length
 |[],i,x,hx=>by cases hx
 |k::l,i,x,hx=>by
  simp only[leavesL,List.mem_append]at hx
  rcases hx with hx|hx
  ·rw[leafAt_idx x hx];simp
  ·have:=leaves_idx x hx;simp;omega
theorem row_of{c n:Nat}{x:Nat×Nat}(h:x∈row c n):x.1=c∧1≤x.2∧x.2≤n:=by
 simp only[row,List.mem_map,List.mem_range]at h
 obtain⟨i,hi,rfl⟩:=h
 exact⟨rfl,by simp,by simp;omega⟩
theorem cuts_of{a b:Nat}{x:Nat×Nat}(h:x∈cutsL a b):(x.1=3∧1≤x.2∧x.2≤a-1)∨(x.1=4∧1≤x.2∧x.2≤b-1):=by
 simp only[cutsL,List.mem_append]at h
 exact h.imp row_of row_of
theorem WO.gen{base:Nat}{rnd:Option Nat}{Q:XQ}{ops:List AOper}{e:Env}{ds:Dfs}{h:Heap}(hK:∀hA,hA=h→WO T base rnd Q ops e ds hA):WO T base rnd Q ops e ds h:=hK h rfl
structure FnsV (T:Nat→Option AFunc):Prop where
 p:primAS T
 f94:T 94=some f94
 f104:T 104=some f104
 f105:T 105=some f105
 f106:T 106=some f106
 f136:T 136=some f136
 f140:T 140=some f140
 f141:T 141=some f141
 f83:T 83=some f83
set_option maxHeartbeats 8000000 in
theorem best_round(F:FnsV T){H:Heap}(hr:Rdy H){p3 pm mb bb l n c wc a b:Nat}{sa wa:Option Addr}{fv:Value}{kerf:Int}{ws:List Int}{kl:List Kd}{t:Tab}(ha:a<1000)(hb:b<1000)(hn:n<1000)(hk:0≤kerf∧kerf≤100)
 (hsum:∀x∈cutsL a b, -4611686018427387904≤look t (oneB x a b)+look t (twoB kerf x a b)∧look t (oneB x a b)+look t (twoB kerf x a b)≤4611686018427387904)(gl:H.get l=some (.loop [(3, .pointer (some ⟨p3,0,none⟩)),(7, .pointer (some ⟨pm,0,none⟩)),(17,fv)] [18] asgO bodyO 0 .normal))
 (g3:H.get p3=some (.cells [.pointer (some ⟨bb,0,none⟩)] true 1))(gm:H.get pm=some (.cells [.map (some mb)] true 1))(gt:H.get mb=some (.map (ents t)))(gb:H.get bb=some (.cells [.slice sa n c, .int .i64 kerf, .slice wa n wc] true 1))(hks:SliceOf H 5 (.slice sa n c) n (kcs kl))(hws:SliceOf H 1 (.slice wa n wc) n (ints ws)):
 FW T (.yield l) [boardV (a,b)] H fun r H'=>r= .ret (.bool true)∧(∀z∈H'.log,mb≤z∧z<mb+1)∧(∀z,z<H.next→z≠mb→H'.get z=H.get z)∧H'.get mb=some (.map (ents (upd t (a,b) (val kerf ws kl t a b)))):=by
 have n2:=ne_loop g3 gl
 have n3:=ne_loop gb gl
 have n4:=ne_loop gm gl
 have n6:=ne_map gt gl
 have m1:=ne_cm g3 gt
 have m2:=ne_cm gm gt
 have m3:=ne_cm gb gt
 have k2:=WF.get_lt hr.wf g3
 have k3:=WF.get_lt hr.wf gb
 have k4:=WF.get_lt hr.wf gm
 have k5:=WF.get_lt hr.wf gl
 have k7:=WF.get_lt hr.wf gt
 refine FW.yieldN F.p (R:=fun H'=>(∀z,z<H.next→z≠mb→H'.get z=H.get z)∧H'.get mb=some (.map (ents (upd t (a,b) (val kerf ws kl t a b))))) gl rfl k5 ?_
 unfold asgO
 refine wE_region ?_;refine wO_val a_new ?_;refine yS ?_;refine wO_nil ?_
 refine y1 ?_
 refine⟨rfl,by(simp(disch:=first|omega|(simp only[z1,z2];omega))only[z3,z4,z5,z6,z7,z1,z2, *];exact rfl),?_⟩
 unfold bodyO
 refine wE_block ?_;refine y4 ?_;refine wO_val a_new ?_
 refine yS ?_;refine y3 ?_;refine wE_seq ?_;refine y4 ?_
 refine yL ?_
 refine yN ?_
 refine WO.gen ?_
 intro hA hAe
 have A1:∀z,z<H.next→z≠l→hA.get z=H.get z:=fun z hz hne=>by rw[hAe];simp(disch:=first|omega|(simp only[z1,z2];omega))only[z5,z4]
 have A2:hA.get l=some (.loop [(3, .pointer (some ⟨p3,0,none⟩)),(7, .pointer (some ⟨pm,0,none⟩)),(17,fv)] [18] asgO bodyO 1 .normal):=by rw[hAe];(simp(disch:=first|omega|(simp only[z1,z2];omega))only[z3,z4,z5,z6,z7,z1,z2, *];exact rfl)
 have A3:hA.get H.next=some (.cells [.int .i64 a, .int .i64 b] true 1):=by rw[hAe];(simp(disch:=first|omega|(simp only[z1,z2];omega))only[z3,z4,z5,z6,z7,z1,z2, *];exact rfl)
 have A4:hA.get (H.next+1)=some (.cells [.int .i64 0] true 1):=by rw[hAe];(simp(disch:=first|omega|(simp only[z1,z2];omega)|(simp only[z1,z2];done)|fail)only[z8,z4,z5,z9,z7,z1,z2, *];exact rfl)
 have A5:hA.next=H.next+2:=by rw[hAe];rfl
 have A6:hA.log=[]:=by rw[hAe];simp(disch:=first|omega|(simp only[z1,z2];omega))only[Heap.log_wr_new,Heap.log_push];exact hr.log
 have A7:WF hA:=by rw[hAe];exact((((hr.wf.push _).as (AS.wr _ _ _ _)).as (AS.wr _ _ _ _)).push _).as (AS.wr _ _ _ _)
 clear hAe
 refine yC ?_
 refine FW.al (leaves104 F.p F.f104 (.of A7) bb a b) (fun _ _ _ q=>q) ?_
 rintro _ h1 hx1 ⟨rfl,hn1,gp,gx⟩
 have eA:({hA with log:=[]}:Heap).next=H.next+2:=A5
 rw[eA]at hn1 gp gx
 rw[eA]
 have B1:∀z,z<H.next→z≠l→h1.get z=H.get z:=fun z hz hne=>(hx1.old z (by omega)).trans (A1 z hz hne)
 have B2:h1.get l=some (.loop [(3, .pointer (some ⟨p3,0,none⟩)),(7, .pointer (some ⟨pm,0,none⟩)),(17,fv)] [18] asgO bodyO 1 .normal):=(hx1.old l (by omega)).trans A2
 have B3:h1.get H.next=some (.cells [.int .i64 a, .int .i64 b] true 1):=(hx1.old _ (by omega)).trans A3
 have B4:h1.get (H.next+1)=some (.cells [.int .i64 0] true 1):=(hx1.old _ (by omega)).trans A4
 have B6:h1.log=[]:=hx1.log.trans A6
 have B7:WF h1:=hx1.wf A7
 have hlen:kl.length=n:=by have:=hks.len;rw[kcs_length]at this;omega
 clear hx1 A1 A2 A3 A4 A6 A7
 refine y3 ?_;refine wE_block ?_
 refine inner_range (q:=H.next+1) (all:=leavesL a b kl 0) (O:=fun d=> .cells [.int .i64 (leafM ws d 0)] true 1) (round_ok B2) (by rfl) (by rw[F.f140];rfl) (by omega) (by omega) B6 B7 ?_ (by omega) ?_
 ·refine leaves140 F.p F.f140 (.of (B7.push _)) (pb:=H.next+2) (bb:=bb) (px:=H.next+3) (l':=h1.next) (N:=h1.next+1) (lo:=H.next+1) (a:=a) (b:=b) (n:=n) (c:=c) (sa:=sa) (l:=kl) (v1:= .int .i64 kerf) (v2:= .slice wa n wc) (Nat.le_refl _) (by show H.next+1≤h1.next+1;omega) hn
   (PW.yld F.p (by omega) fun done x H' hx hr' hlt hP=> ?_) ((z4 (by omega)).trans gp) ((z4 (by omega)).trans ((B1 bb k3 n3).trans gb)) (fun d H' hP=> ?_) (fun d H' hP=>(hP.old _ (by omega) (by omega)).trans gx) ⟨fun z hz _=>z4 hz,(z4 (by omega)).trans B4,z3 _ _,Nat.lt_succ_self _⟩
  ·refine FW.mono' (leaf_round F.p hr' (x:=x) (n:=n) (by have:=leaves_idx x hx;omega) hP.loop hP.obj ((hP.old p3 (by omega) (by omega)).trans ((B1 p3 k2 n2).trans g3)) ((hP.old bb (by omega) (by omega)).trans ((B1 bb k3 n3).trans gb)) (SliceOf.agree hws (by omega) fun b0 vs o t hb he=>(hP.old b0 (by omega) (by omega)).trans (B1 b0 hb (ne_loop he gl)))) ?_
   rintro r H'' ⟨q1,q2,q3,q4⟩
   exact⟨q1,q2,q3,by rw[leafM_snoc];exact q4⟩
  ·have:=hP.nx
   exact SliceOf.agree hks (by omega) fun b0 vs o t hb he=>(hP.old b0 (by omega) (by omega)).trans (B1 b0 hb (ne_loop he gl))
 intro h3 c1 c2 c3 c4 c5
 have D1:∀z,z<H.next→z≠l→h3.get z=H.get z:=fun z hz hne=>(c4 z (by omega) (by omega)).trans (B1 z hz hne)
 have D2:h3.get l=some (.loop [(3, .pointer (some ⟨p3,0,none⟩)),(7, .pointer (some ⟨pm,0,none⟩)),(17,fv)] [18] asgO bodyO 1 .normal):=(c4 l (by omega) (by omega)).trans B2
 have D3:h3.get H.next=some (.cells [.int .i64 a, .int .i64 b] true 1):=(c4 _ (by omega) (by omega)).trans B3
 have D5:h3.get p3=some (.cells [.pointer (some ⟨bb,0,none⟩)] true 1):=(D1 p3 k2 n2).trans g3
 clear B1 B2 B3 B4 B6 B7 c4 gp gx
 refine kB_n ?_;refine kS_n ?_;refine wE_seq ?_;refine y4 ?_;refine yL ?_;refine yN ?_
 refine yC ?_
 refine FW.al (cuts105 F.p F.f105 (.of c2) _ a b) (fun _ _ _ q=>q) ?_
 rintro _ h4 hx4 ⟨rfl,hn4,gx4⟩
 have e3:({h3 with log:=[]}:Heap).next=h3.next:=rfl
 rw[e3]at hn4 gx4
 rw[e3]
 have E1:∀z,z<H.next→z≠l→h4.get z=H.get z:=fun z hz hne=>(hx4.old z (by omega)).trans (D1 z hz hne)
 have E2:h4.get l=some (.loop [(3, .pointer (some ⟨p3,0,none⟩)),(7, .pointer (some ⟨pm,0,none⟩)),(17,fv)] [18] asgO bodyO 1 .normal):=(hx4.old l (by omega)).trans D2
 have E3:h4.get H.next=some (.cells [.int .i64 a, .int .i64 b] true 1):=(hx4.old _ (by omega)).trans D3
 have E4:h4.get (H.next+1)=some (.cells [.int .i64 (leafM ws (leavesL a b kl 0) 0)] true 1):=(hx4.old _ (by omega)).trans c5
 have E6:h4.log=[]:=hx4.log.trans c1
 have E7:WF h4:=hx4.wf c2
 clear hx4 D1 D2 D3 D5 c1 c2 c5
 refine y3 ?_;refine wE_block ?_
 refine inner_range (q:=H.next+1) (all:=cutsL a b) (O:=fun d=> .cells [.int .i64 (cutM kerf t a b d (leafM ws (leavesL a b kl 0) 0))] true 1) (round_ok E2) (by rfl) (by rw[F.f141];rfl) (by omega) (by omega) E6 E7 ?_ (by omega) ?_
 ·refine cuts141 F.p F.f141 (.of (E7.push _)) (bx:=h3.next) (l:=h4.next) (N:=h4.next+1) (lo:=H.next+1) (a:=a) (b:=b) (Nat.le_refl _) (by show H.next+1≤h4.next+1;omega) ha hb
   (PW.yld F.p (by omega) fun done x H' hx hr' hlt hP=> ?_) (fun d H' hP=>(hP.old _ (by omega) (by omega)).trans gx4) ⟨fun z hz _=>z4 hz,(z4 (by omega)).trans E4,z3 _ _,Nat.lt_succ_self _⟩
  have hxc:=cuts_of hx
  refine FW.mono' (cut_round F.p F.f106 hr' (x:=x) (t:=t) (by omega) (by omega) ha hb hk (hsum x hx) hP.loop hP.obj ((hP.old p3 (by omega) (by omega)).trans ((E1 p3 k2 n2).trans g3)) ((hP.old pm (by omega) (by omega)).trans ((E1 pm k4 n4).trans gm)) ((hP.old H.next (by omega) (by omega)).trans E3) ((hP.old bb (by omega) (by omega)).trans ((E1 bb k3 n3).trans gb)) ((hP.old mb (by omega) (by omega)).trans ((E1 mb k7 n6).trans gt)) (show pm≠H.next+1 by omega)) ?_
  rintro r H'' ⟨q1,q2,q3,q4⟩
  exact⟨q1,q2,q3,by rw[cutM_snoc];exact q4⟩
 intro h5 c1 c2 c3 c4 c5
 have G1:∀z,z<H.next→z≠l→h5.get z=H.get z:=fun z hz hne=>(c4 z (by omega) (by omega)).trans (E1 z hz hne)
 have G2:h5.get l=some (.loop [(3, .pointer (some ⟨p3,0,none⟩)),(7, .pointer (some ⟨pm,0,none⟩)),(17,fv)] [18] asgO bodyO 1 .normal):=(c4 l (by omega) (by omega)).trans E2
 have G3:h5.get H.next=some (.cells [.int .i64 a, .int .i64 b] true 1):=(c4 _ (by omega) (by omega)).trans E3
 have G7:h5.get pm=some (.cells [.map (some mb)] true 1):=(G1 pm k4 n4).trans gm
 have G8:h5.get mb=some (.map (ents t)):=(G1 mb k7 n6).trans gt
 clear E1 E2 E3 E4 E6 E7 c4 gx4
 refine kB_n ?_;refine kS_n ?_;refine wE_region ?_;refine yL ?_;refine yN ?_;refine yL ?_
 refine wO_val (a_mapUp (x:=(a,b)) (by exact rfl) (by exact rfl) (by exact rfl) G8) ?_
 refine wO_nil ?_;refine y1 ?_;refine kB_n ?_
 refine⟨rfl,⟨_,by(simp(disch:=first|omega|(simp only[z1,z2];omega))only[z3,z4,z5,z6,z7,z1,z2, *];exact rfl),rfl⟩,?_,?_⟩
 ·intro z hz
  rw[log_wr_q c1 k7]at hz
  simp at hz;omega
 ·intro h6 hn6 hag hl6
  refine⟨fun z hz hne=> ?_,(hag mb k7 n6).trans (Heap.get_wr_new G8)⟩
  by_cases hz2:z=l
  ·rw[hz2];exact hl6.trans gl.symm
  ·exact(hag z hz hz2).trans ((z5 hne).trans (G1 z hz hz2))
end Go.A.Pk
end
section
set_option maxRecDepth 100000
namespace Go.A.Pk
variable {T:Nat→Option AFunc}
theorem a_mkMap{base:Nat}{h:Heap}{e:Env}:aop h base e .mkMap=some (.val (.map (some h.next)) (h.push (.map []))):=rfl
def Bd(W:Int)(t:Tab):Prop:=∀e∈t,1≤e.1.1∧1≤e.1.2∧0≤e.2∧e.2≤W*((e.1.1:Int)*(e.1.2:Int))
theorem look_bd{W:Int}:∀{t:Tab} (x:Int×Int),Bd W t→look t x=0∨(1≤x.1∧1≤x.2∧0≤look t x∧look t x≤W*(x.1*x.2))
 |[],_,_=> .inl rfl
 |e::t,x,h=>by
  simp only[look]
  by_cases hk:isKey x e=true
  ·rw[if_pos hk]
   have h1:=h e (List.mem_cons_self ..)
   simp only[isKey,decide_eq_true_eq]at hk
   rw[hk.1,hk.2]
   exact .inr ⟨by omega,by omega,h1.2.2.1,h1.2.2.2⟩
  ·rw[if_neg hk]
   exact look_bd x fun e he=>h e (List.mem_cons_of_mem _ he)
theorem upd_bd{W:Int}{x:Nat×Nat}{v:Int}(hx:1≤x.1∧1≤x.2)(hv:0≤v∧v≤W*((x.1:Int)*(x.2:Int))):∀{t:Tab},Bd W t→Bd W (upd t x v)
 |[],_,e,he=>by
  simp only[upd,List.mem_singleton]at he
  subst he
  exact⟨hx.1,hx.2,hv.1,hv.2⟩
 |e0::t,h,e,he=>by
  simp only[upd]at he
  split at he
  ·rcases List.mem_cons.1 he with rfl|he
   ·exact⟨hx.1,hx.2,hv.1,hv.2⟩
   ·exact h e (List.mem_cons_of_mem _ he)
  ·rcases List.mem_cons.1 he with rfl|he
   ·exact h e (List.mem_cons_self ..)
   ·exact upd_bd hx hv (fun e he=>h e (List.mem_cons_of_mem _ he)) e he
theorem mx_le{a b c:Int}(h1:a≤c)(h2:b≤c):mx a b≤c:=by unfold mx;split<;>assumption
theorem mx_ge{a b:Int}:a≤mx a b∧b≤mx a b:=by unfold mx;split<;>omega
theorem area_mono{W a b c d:Int}(hW:0≤W)(ha:0≤a)(hab:a≤c)(hb:0≤b)(hbd:b≤d):W*(a*b)≤W*(c*d):=
 Int.mul_le_mul_of_nonneg_left (Int.le_trans (Int.mul_le_mul_of_nonneg_right hab hb) (Int.mul_le_mul_of_nonneg_left hbd (by omega))) hW
theorem cut_bd{W kerf:Int}{t:Tab}(hW:0≤W)(hk:0≤kerf)(ht:Bd W t){a b:Nat}{x:Nat×Nat}(hx:x∈cutsL a b):0≤look t (oneB x a b)+look t (twoB kerf x a b)∧look t (oneB x a b)+look t (twoB kerf x a b)≤W*((a:Int)*(b:Int)):=by
 have h1:=look_bd (oneB x a b) ht
 have h2:=look_bd (twoB kerf x a b) ht
 have h0:0≤W*((a:Int)*(b:Int)):=Int.mul_nonneg hW (Int.mul_nonneg (by omega) (by omega))
 rcases cuts_of hx with⟨e3,hl,hu⟩|⟨e4,hl,hu⟩
 ·simp only[oneB,twoB,e3,if_true]at h1 h2⊢
  rcases h1 with h1|h1
  ·rcases h2 with h2|h2
   ·rw[h1,h2];omega
   ·have:=area_mono (W:=W) (a:=(a:Int)-x.2-kerf) (b:=b) (c:=a) (d:=b) hW (by omega) (by omega) (by omega) (Int.le_refl _)
    rw[h1];omega
  ·rcases h2 with h2|h2
   ·have:=area_mono (W:=W) (a:=(x.2:Int)) (b:=b) (c:=a) (d:=b) hW (by omega) (by omega) (by omega) (Int.le_refl _)
    rw[h2];omega
   ·have e:W*((x.2:Int)*b)+W*(((a:Int)-x.2-kerf)*b)=W*(((x.2:Int)+((a:Int)-x.2-kerf))*b):=by rw[Int.add_mul,Int.mul_add]
    have:=area_mono (W:=W) (a:=(x.2:Int)+((a:Int)-x.2-kerf)) (b:=b) (c:=a) (d:=b) hW (by omega) (by omega) (by omega) (Int.le_refl _)
    omega
 ·have n3:¬x.1=3:=by omega
  simp only[oneB,twoB,if_neg n3]at h1 h2⊢
  rcases h1 with h1|h1
  ·rcases h2 with h2|h2
   ·rw[h1,h2];omega
   ·have:=area_mono (W:=W) (a:=a) (b:=(b:Int)-x.2-kerf) (c:=a) (d:=b) hW (by omega) (Int.le_refl _) (by omega) (by omega)
    rw[h1];omega
  ·rcases h2 with h2|h2
   ·have:=area_mono (W:=W) (a:=a) (b:=(x.2:Int)) (c:=a) (d:=b) hW (by omega) (Int.le_refl _) (by omega) (by omega)
    rw[h2];omega
   ·have e:W*((a:Int)*x.2)+W*((a:Int)*((b:Int)-x.2-kerf))=W*((a:Int)*((x.2:Int)+((b:Int)-x.2-kerf))):=by rw[Int.mul_add (a:Int),Int.mul_add W]
    have:=area_mono (W:=W) (a:=a) (b:=(x.2:Int)+((b:Int)-x.2-kerf)) (c:=a) (d:=b) hW (by omega) (Int.le_refl _) (by omega) (by omega)
    omega
theorem leafM_bd{W B:Int}{ws:List Int}(hws:∀x∈ws,0≤x∧x≤W)(hWB:W≤B)(hW:0≤W):∀{xs:List (Nat×Nat)} {m:Int},0≤m→m≤B→0≤leafM ws xs m∧leafM ws xs m≤B
 |[],m,h1,h2=>⟨h1,h2⟩
 |x::xs,m,h1,h2=>by
  have hx:0≤ws.getD x.2 0∧ws.getD x.2 0≤W:=by
   by_cases hi:x.2<ws.length
   ·have:=hws _ (List.getElem_mem hi)
    simpa[List.getD,List.getElem?_eq_getElem hi]using this
   ·have:ws.getD x.2 0=0:=by simp[List.getD,List.getElem?_eq_none (by omega:ws.length≤x.2)]
    rw[this];omega
  exact leafM_bd hws hWB hW (xs:=xs) (m:=mx m (ws.getD x.2 0)) (Int.le_trans h1 mx_ge.1) (mx_le h2 (by omega))
theorem cutM_bd{B kerf:Int}{t:Tab}{a b:Nat}:∀{xs:List (Nat×Nat)} {m:Int},(∀x∈xs,look t (oneB x a b)+look t (twoB kerf x a b)≤B)→0≤m→m≤B→0≤cutM kerf t a b xs m∧cutM kerf t a b xs m≤B
 |[],m,_,h1,h2=>⟨h1,h2⟩
 |x::xs,m,hx,h1,h2=>cutM_bd (xs:=xs) (m:=mx m _) (fun y hy=>hx y (List.mem_cons_of_mem _ hy)) (Int.le_trans h1 mx_ge.1) (mx_le h2 (hx x (List.mem_cons_self ..)))
theorem val_bd{W kerf:Int}{ws:List Int}{kl:List Kd}{t:Tab}(hW:0≤W)(hk:0≤kerf)(hws:∀x∈ws,0≤x∧x≤W)(ht:Bd W t){a b:Nat}(ha:1≤a)(hb:1≤b):0≤val kerf ws kl t a b∧val kerf ws kl t a b≤W*((a:Int)*(b:Int)):=by
 have hWB:W≤W*((a:Int)*(b:Int)):=by
  have:=area_mono (W:=W) (a:=1) (b:=1) (c:=a) (d:=b) hW (by omega) (by omega) (by omega) (by omega)
  omega
 obtain⟨h1,h2⟩:=leafM_bd (xs:=leavesL a b kl 0) (m:=0) hws hWB hW (Int.le_refl _) (by omega)
 exact cutM_bd (fun x hx=>(cut_bd hW hk ht hx).2) h1 h2
def tabL(kerf:Int)(ws:List Int)(kl:List Kd)(done:List (Nat×Nat)):Tab:=done.foldl (fun t x=>upd t x (val kerf ws kl t x.1 x.2)) []
theorem tabL_snoc(kerf:Int)(ws:List Int)(kl:List Kd)(done:List (Nat×Nat))(x:Nat×Nat):tabL kerf ws kl (done++[x])=upd (tabL kerf ws kl done) x (val kerf ws kl (tabL kerf ws kl done) x.1 x.2):=by simp[tabL]
theorem boards_of:∀{w h:Nat} {x:Nat×Nat},x∈boardsL w h→1≤x.1∧x.1≤w∧1≤x.2∧x.2≤h
 |0,_,_,hx=>by cases hx
 |w+1,h,x,hx=>by
  simp only[boardsL,List.mem_append]at hx
  rcases hx with hx|hx
  ·have:=boards_of hx;omega
  ·have:=row_of hx;omega
set_option maxHeartbeats 8000000 in
theorem best83(F:FnsV T){h:Heap}(hr:Rdy h){bb n c wc w ht:Nat}{sa wa:Option Addr}{kerf W:Int}{ws:List Int}{kl:List Kd}(hw:w<1000)(hh:ht<1000)(hn:n<1000)(hk:0≤kerf∧kerf≤100)(hW:0≤W∧W≤1000000000)(hws0:∀x∈ws,0≤x∧x≤W)
 (gb:h.get bb=some (.cells [.slice sa n c, .int .i64 kerf, .slice wa n wc] true 1))(hks:SliceOf h 5 (.slice sa n c) n (kcs kl))(hws:SliceOf h 1 (.slice wa n wc) n (ints ws)):
 Al T 83 [.pointer (some ⟨bb,0,none⟩), .int .i64 w, .int .i64 ht] h fun v h'=>∃r,v= .map (some r)∧h'.get r=some (.map (ents (tabL kerf ws kl (boardsL w ht)))):=by
 refine .of F.p F.f83 hr (fun v h1 hv q=>by obtain⟨r,rfl,_⟩:=q;cases hv) ?_
 have kb:=WF.get_lt hr.wf gb
 refine y4 ?_;refine yB ?_;refine yM ?_;refine y3 ?_;refine y4 ?_
 refine wO_val a_mkMap ?_
 refine wO_val a_new ?_;refine yS ?_
 refine y3 ?_;refine wE_seq ?_;refine y4 ?_;refine yM ?_;refine yM ?_
 refine WO.gen ?_
 intro hA hAe
 have A1:∀z,z<h.next→hA.get z=h.get z:=fun z hz=>by rw[hAe];simp(disch:=first|omega|(simp only[z1,z2];omega))only[z5,z4]
 have A2:hA.get h.next=some (.cells [.pointer (some ⟨bb,0,none⟩)] true 1):=by rw[hAe];(simp(disch:=first|omega|(simp only[z1,z2];omega))only[z3,z4,z5,z6,z7,z1,z2, *];exact rfl)
 have A3:hA.get (h.next+1)=some (.map []):=by rw[hAe];(simp(disch:=first|omega|(simp only[z1,z2];omega)|(simp only[z1,z2];done)|fail)only[z8,z4,z5,z9,z7,z1,z2, *];done)
 have A4:hA.get (h.next+2)=some (.cells [.map (some (h.next+1))] true 1):=by rw[hAe];(simp(disch:=first|omega|(simp only[z1,z2];omega)|(simp only[z1,z2];done)|fail)only[z8,z4,z5,z9,z7,z1,z2, *];exact rfl)
 have A5:hA.next=h.next+3:=by rw[hAe];rfl
 have A6:hA.log=[]:=by rw[hAe];simp(disch:=first|omega|(simp only[z1,z2];omega))only[Heap.log_wr_new,Heap.log_push];exact hr.log
 have A7:WF hA:=by rw[hAe];exact(((hr.wf.push _).push _).push _).as (AS.wr _ _ _ _)
 clear hAe
 refine yC ?_
 refine FW.al (boards94 F.p F.f94 (.of A7) w ht) (fun _ _ _ q=>q) ?_
 rintro _ h1 hx1 ⟨rfl,hn1,gp,gx⟩
 have eA:({hA with log:=[]}:Heap).next=h.next+3:=A5
 rw[eA]at hn1 gp gx
 rw[eA]
 have B1:∀z,z<h.next→h1.get z=h.get z:=fun z hz=>(hx1.old z (by omega)).trans (A1 z hz)
 have B2:h1.get h.next=some (.cells [.pointer (some ⟨bb,0,none⟩)] true 1):=(hx1.old _ (by omega)).trans A2
 have B3:h1.get (h.next+1)=some (.map []):=(hx1.old _ (by omega)).trans A3
 have B4:h1.get (h.next+2)=some (.cells [.map (some (h.next+1))] true 1):=(hx1.old _ (by omega)).trans A4
 have B6:h1.log=[]:=hx1.log.trans A6
 have B7:WF h1:=hx1.wf A7
 clear hx1 A1 A2 A3 A4 A6 A7
 refine y3 ?_;refine wE_block ?_
 refine inner_range (q:=h.next+1) (all:=boardsL w ht) (O:=fun d=> .map (ents (tabL kerf ws kl d))) rfl (by rfl) (by rw[F.f136];rfl) (by omega) (by omega) B6 B7 ?_ (by omega) ?_
 ·have Y:Yld T (h.next+1) (h1.next+1) h1.next boardV (boardsL w ht) fun d H=>PW h1.next (h.next+1) h1 (.loop [(3, .pointer (some ⟨h.next,0,none⟩)),(7, .pointer (some ⟨h.next+2,0,none⟩)),(17,fn2 136 (h.next+3) (h.next+4))] [18] asgO bodyO 0 .normal) (fun d=> .map (ents (tabL kerf ws kl d))) d H∧Bd W (tabL kerf ws kl d):=by
   refine⟨fun done x H hx hrH hN hP=> ?_,fun d H H' hP hN hag=>⟨PW.stable (by omega) d H H' hP.1 hN hag,hP.2⟩⟩
   obtain⟨hP,hB⟩:=hP
   have hxb:=boards_of hx
   have hV:=val_bd (kl:=kl) hW.1 hk.1 hws0 hB hxb.1 hxb.2.2.1
   obtain⟨x1,x2⟩:=x
   simp only at hxb hV
   refine FW.mono' (FW.withAS F.p (best_round F hrH (a:=x1) (b:=x2) (t:=tabL kerf ws kl done) (by omega) (by omega) hn hk (fun y hy=> ?_) hP.loop ((hP.old _ (by omega) (by omega)).trans B2) ((hP.old _ (by omega) (by omega)).trans B4) hP.obj ((hP.old bb (by omega) (by omega)).trans ((B1 bb kb).trans gb)) (SliceOf.agree hks (by omega) fun b0 vs o t hb he=>(hP.old b0 (by omega) (by omega)).trans (B1 b0 hb)) (SliceOf.agree hws (by omega) fun b0 vs o t hb he=>(hP.old b0 (by omega) (by omega)).trans (B1 b0 hb))) hrH.log) ?_
   ·have h1:=cut_bd hW.1 hk.1 hB hy
    have h2:W*((x1:Int)*(x2:Int))≤1000000000*(1000*1000):=Int.le_trans (area_mono (W:=W) (a:=x1) (b:=x2) (c:=1000) (d:=1000) hW.1 (by omega) (by omega) (by omega) (by omega)) (Int.mul_le_mul_of_nonneg_right hW.2 (by omega))
    omega
   ·rintro r H' ⟨hA',q1,q2,q3,q4⟩
    refine⟨q1,fun z hz=>by have:=q2 z hz;omega,⟨fun y hy hne=>(q3 y (by omega) hne).trans (hP.old y hy hne),by rw[tabL_snoc];exact q4,(q3 _ (by omega) (by omega)).trans hP.loop,Nat.lt_of_lt_of_le hP.nx hA'.next⟩,?_⟩
    rw[tabL_snoc]
    exact upd_bd ⟨hxb.1,hxb.2.2.1⟩ hV hB
  refine CW.mono (boards136 F.p F.f136 (.of (B7.push _)) (bw:=h.next+3) (bh:=h.next+4) (l:=h1.next) (N:=h1.next+1) (lo:=h.next+1) (w:=w) (ht:=ht) (Nat.le_refl _) (by show h.next+1≤h1.next+1;omega) hw hh Y (fun d H hP=>(hP.1.old _ (by omega) (by omega)).trans gp) (fun d H hP=>(hP.1.old _ (by omega) (by omega)).trans gx)
   ⟨⟨fun z hz _=>z4 hz,(z4 (by omega)).trans B3,z3 _ _,Nat.lt_succ_self _⟩,fun e he=>by cases he⟩) ?_
  rintro r h2 ⟨q1,v,q2,q3,q4,_⟩
  exact⟨q1,v,q2,q3,q4⟩
 intro h3 c1 c2 c3 c4 c5
 have D4:h3.get (h.next+2)=some (.cells [.map (some (h.next+1))] true 1):=(c4 _ (by omega) (by omega)).trans B4
 refine kB_n ?_;refine kS_n ?_;refine y4 ?_;refine yL ?_;refine yM ?_;refine y3 ?_;refine wE_ret ?_
 exact endA_ret (vs:=[.map (some (h.next+1))]) c1 (by rfl) ⟨_,rfl,c5⟩
end Go.A.Pk
end
section
set_option maxRecDepth 100000
namespace Go.A.Pk
variable {T:Nat→Option AFunc}
inductive WslB (lo:Nat) (h:Heap):Value→List Int→Prop
 |nil:WslB lo h (.slice none 0 0) []
 |full {q xs}:lo≤q→q<h.next→h.get q=some (.cells (ints xs) true 1)→xs≠[]→WslB lo h (.slice (some ⟨q,0,none⟩) xs.length UNK) xs
theorem worth_succ{l:List Kd}{i:Nat}{x:Kd}(h:l[i]? =some x):(l.take (i+1)).map (·.worth)=(l.take i).map (·.worth)++[x.worth]:=by
 rw[List.take_add_one,h];simp
def StartQ(a:Option Addr)(n c:Nat)(kerf:Int)(l:List Kd)(er:Int)(v:Value)(h':Heap):Prop:=∃p,v= .tuple #[.pointer p, .int .i64 er]∧
 (er=0→∃bb wa wc,p=some ⟨bb,0,none⟩∧h'.get bb=some (.cells [.slice a n c, .int .i64 kerf, .slice wa n wc] true 1)∧SliceOf h' 1 (.slice wa n wc) n (ints (l.map (·.worth))))
theorem StartQ.gc{a:Option Addr}{n c:Nat}{kerf:Int}{l:List Kd}{er:Int}(h:Heap)(v:Value)(h1:Heap)(hv:noRef v=true)(q:StartQ a n c kerf l er v h1):StartQ a n c kerf l er v h:=by
 obtain⟨p,rfl,h2⟩:=q
 refine⟨p,rfl,fun he=> ?_⟩
 obtain⟨bb,wa,wc,rfl,_⟩:=h2 he
 simp[noRef,flatL,flat,scalL,scal,scal1]at hv
set_option maxHeartbeats 4000000 in
theorem startedB75(G:FnsE T){h:Heap}(hr:Rdy h){a:Option Addr}{n c:Nat}{l:List Kd}(hs:SliceOf h 5 (.slice a n c) n (kcs l))(kerf:Int)(hn:n<1000000){v:Value}{m:Nat}{bl:List Bool}(hb:SliceOf h 1 v m (bcs bl))(hm:m<1000000):
 Al T 75 [.agg #[.slice a n c, .int .i64 kerf],v] h (StartQ a n c kerf l (startE kerf l bl)):=by
 refine .of G.toFnsA.p G.f75 hr (StartQ.gc h) ?_
 have hx:Ext h (h.push (.cells [.slice a n c, .int .i64 kerf] true 1)):=(Ext.refl h).push _
 have hlen:l.length=n:=by have:=hs.len;rw[kcs_length]at this;omega
 refine y4 ?_;refine yB ?_;refine yM ?_;refine yM ?_;refine y3 ?_;refine wE_seq ?_;refine y4 ?_
 refine yN ?_
 refine yC ?_
 refine FW.pu (check66 G.toFnsA (.of (hx.wf hr.wf)) ((hs.ext hx).log []) kerf hn) ?_
 unfold startE
 by_cases hc:chk kerf l=0
 ·rw[if_pos hc,hc]
  refine yM ?_;refine y3 ?_;refine y4 ?_;refine yM ?_;refine yf ?_;refine y3 ?_;refine yX ?_;refine wE_skip ?_;refine kS_n ?_;refine wE_seq ?_;refine y4 ?_;refine yM ?_
  refine yC ?_
  refine FW.pu (contains122 G.toFnsC (.of (hx.wf hr.wf)) ((hb.ext hx).log []) hm) ?_
  cases hbl:bl.all id with
  |false=>
   refine y3 ?_;refine yY ?_;refine y4 ?_;refine yM ?_;refine yM ?_;refine y3 ?_;refine wE_ret ?_;refine kS_r ?_
   exact endA_ret (vs:=[.pointer none, .int .i64 1]) hr.log rfl ⟨_,rfl,fun e=>by cases e⟩
  |true=>
   refine y3 ?_;refine yX ?_;refine wE_skip ?_;refine kS_n ?_;refine y4 ?_
   refine yN ?_;refine wO_val (a_build (by exact rfl)) ?_;refine yB ?_
   refine yM ?_;refine y3 ?_;refine wE_seq ?_;refine y4 ?_;refine yF ?_
   refine yL ?_;refine yD ?_;refine yM ?_;refine y3 ?_;refine wE_block ?_
   refine wE_loop (fun k e ds h'=>∃(i:Nat) (w:Value) (xs:List Int),i≤n∧k=n-i∧e=[(7, .pointer (some ⟨h.next+1,0,none⟩)),(21, .slice a n c),(22, .int .i64 n),(23, .int .i64 i)]∧ds=[]∧Ext (h.push (.cells [.slice a n c, .int .i64 kerf] true 1)) h'∧
    h.next+1<h'.next∧h'.get (h.next+1)=some (.cells [.slice a n c, .int .i64 kerf,w] true 1)∧WslB (h.next+2) h' w xs∧Nonempty (PLift (xs=(l.take i).map (·.worth))))
    ⟨0, .slice none 0 0,[],Nat.zero_le _,rfl,rfl,rfl,(Ext.refl _).push _,Nat.lt_succ_self _,by(simp(disch:=first|omega|(simp only[z1,z2];omega)|(simp only[z1,z2];done)|fail)only[z8,z4,z5,z9,z7,z1,z2, *];exact rfl), .nil,⟨⟨rfl⟩⟩⟩ ?_
   rintro k e ds hi ⟨i,w,xs,hin,rfl,rfl,rfl,hx1,hnx,hW,hw,⟨⟨hxs⟩⟩⟩
   by_cases hlt:i<n
   ·obtain⟨x,hxl⟩:∃x,l[i]? =some x:=⟨l[i],List.getElem?_eq_getElem (by omega)⟩
    have hs':=hs.ext (((Ext.refl h).push _).trans hx1)
    rcases hs'.inv with⟨_,_,h0,_⟩|⟨b,o,cap',hv,s,hcap⟩
    ·omega
    ·cases hv
     obtain⟨vs,own,t,g1,g2⟩:=slice_elem s hxl
     have hx3:=(hx1.push (.cells [.int .i64 0, .int .i64 0, .int .i64 0, .int .i64 0, .bool false] true 1)).wr (base:=h.next) (x:=hi.next) (o:= .cells (kc x) true 1) hx1.next (by omega)
     have hx4:=hx3.push (.cells [.int .i64 x.worth] true 1)
     have hsu:=worth_succ hxl
     have hxl2:xs.length=i:=by rw[hxs];simp;omega
     have hsu2:(l.take (i+1)).map (·.worth)=xs++[x.worth]:=by rw[hsu,←hxs]
     have hid:PLift (xs.length=i∧(l.take (i+1)).map (·.worth)=xs++[x.worth]):=⟨hxl2,hsu2⟩
     clear hsu hxs hxl2 hsu2
     cases hw with
     |nil=>
      refine y4 ?_;refine yt ?_;refine y3 ?_;refine wE_seq ?_;refine yY ?_;refine wE_skip ?_;refine kS_n ?_;refine wE_seq ?_;refine wE_block ?_;refine y4 ?_
      refine wO_val (a_iaddrS (by exact rfl) (by exact rfl) hlt) ?_
      refine wO_val (a_loadN (by exact rfl) g1 g2 (by exact rfl)) ?_
      refine wO_val a_new ?_;refine yS ?_;refine y3 ?_;refine wE_draw ?_;refine qM ?_;refine qM ?_
      refine wD_quiet rfl rfl rfl (by exact rfl) (by exact rfl) (by exact rfl) (a_nilchk (by exact rfl)) ?_;refine qF ?_
      refine qL ?_
      refine qF ?_
      refine qL ?_
      refine wD_new rfl rfl rfl (by exact rfl) (by exact rfl) (by exact rfl) (a_bslice (by exact rfl) (by exact rfl)) (by refine rs_cons (rq_quiet rfl (a_load (by exact rfl) (by(simp(disch:=first|omega|(simp only[z1,z2];omega))only[z3,z4,z5,z6,z7,z1,z2, *];exact rfl)) (by exact rfl)) (by exact sv_int _ _)) ?_;refine rs_cons (rq_quiet rfl (a_faddr (by exact rfl)) (by exact sv_ptr _)) ?_;refine rs_cons (rq_quiet rfl (a_load (by exact rfl) (by(simp(disch:=first|omega|(simp only[z1,z2];omega))only[z3,z4,z5,z6,z7,z1,z2, *];exact rfl)) (by exact rfl)) (by exact sv_slice _ _ _)) ?_;refine rs_cons (rq_quiet rfl (a_faddr (by exact rfl)) (by exact sv_ptr _)) ?_;refine rs_cons (rq_quiet rfl (a_nilchk (by exact rfl)) (by exact sv_ptr _)) ?_;refine rs_cons (rq_quiet rfl (a_mov (by exact rfl)) (by exact sv_ptr _)) ?_;refine rs_cons (rq_quiet rfl (a_mov (by exact rfl)) (by exact sv_ptr _)) ?_;exact rs_nil) ?_
      refine wD_app_nil (n:=1) rfl rfl rfl (by exact rfl) (by exact rfl) (by exact rfl) (src_log (src_slice (cs:=[.int .i64 x.worth]) (by(simp(disch:=first|omega|(simp only[z1,z2];omega)|(simp only[z1,z2];done)|fail)only[z8,z4,z5,z9,z7,z1,z2, *];exact rfl)) rfl rfl)) (by omega) (by omega) (by apply ra_dropC rfl;apply ra_dropC rfl;apply ra_dropC rfl;apply ra_dropC rfl;apply ra_dropC rfl;apply ra_dropC rfl;apply ra_dropC rfl;apply ra_keepC rfl (rq_quiet rfl (a_mov (by exact rfl)) (by exact sv_ptr _)) rfl;exact ra_nil) ?_
      refine wD_quiet rfl rfl rfl (by exact rfl) (by exact rfl) (by exact rfl) (a_nilchk (by exact rfl)) ?_;refine qF ?_
      refine wD_store rfl rfl rfl (by exact rfl) (by exact rfl) (by exact rfl) (by(simp(disch:=first|omega|(simp only[z1,z2];omega))only[z3,z4,z5,z6,z7,z1,z2, *];exact rfl)) (by exact rfl) (by exact rfl) (by(simp only[z1,z2];omega)) (by omega) (by apply ra_dropC rfl;apply ra_dropC rfl;apply ra_dropC rfl;exact ra_nil) ?_
      refine wD_nil ?_;refine y1 ?_;refine kB_n ?_;refine kS_n ?_;refine wE_region ?_;refine yinc ?_;refine yM ?_;refine y3 ?_
      obtain⟨hxl2,hsu2⟩:=hid
      obtain rfl:i=0:=hxl2.symm
      refine⟨n-1,by omega,1, .slice (some ⟨hi.next+2,0,none⟩) 1 UNK,[x.worth],by omega,rfl,rfl,rfl,?_,?_,?_,?_,?_⟩
      ·exact(hx4.push (.cells [.int .i64 x.worth] true 1)).wr (Nat.le_refl _) (Nat.le_succ _)
      ·(simp only[z1,z2];omega)
      ·(simp(disch:=first|omega|(simp only[z1,z2];omega))only[z3,z4,z5,z6,z7,z1,z2, *];exact rfl)
      ·exact .full (xs:=[x.worth]) (by omega) (by(simp only[z1,z2];omega)) (by(simp(disch:=first|omega|(simp only[z1,z2];omega)|(simp only[z1,z2];done)|fail)only[z8,z4,z5,z9,z7,z1,z2, *];exact rfl)) (by simp)
      ·exact⟨⟨hsu2.symm⟩⟩
     | @full q _ h1 h2 h3 h5=>
       have h4:(ints xs).length=xs.length:=by simp[ints]
       have h7:xs.length<1000000:=by have:=hid.down.1;omega
       have h6:xs.length≠0:=by cases xs with|nil=>exact absurd rfl h5|cons _ _=>simp
       have hwr:lcat (ints xs) [.int .i64 x.worth]=ints (xs++[x.worth]):=by rw[lcat_eq];simp[ints]
       refine y4 ?_;refine yt ?_;refine y3 ?_;refine wE_seq ?_;refine yY ?_;refine wE_skip ?_;refine kS_n ?_;refine wE_seq ?_;refine wE_block ?_;refine y4 ?_
       refine wO_val (a_iaddrS (by exact rfl) (by exact rfl) hlt) ?_
       refine wO_val (a_loadN (by exact rfl) g1 g2 (by exact rfl)) ?_
       refine wO_val a_new ?_;refine yS ?_;refine y3 ?_;refine wE_draw ?_;refine qM ?_;refine qM ?_
       refine wD_quiet rfl rfl rfl (by exact rfl) (by exact rfl) (by exact rfl) (a_nilchk (by exact rfl)) ?_;refine qF ?_
       refine qL ?_
       refine qF ?_
       refine qL ?_
       refine wD_new rfl rfl rfl (by exact rfl) (by exact rfl) (by exact rfl) (a_bslice (by exact rfl) (by exact rfl)) (by refine rs_cons (rq_quiet rfl (a_load (by exact rfl) (by(simp(disch:=first|omega|(simp only[z1,z2];omega))only[z3,z4,z5,z6,z7,z1,z2, *];exact rfl)) (by exact rfl)) (by exact sv_int _ _)) ?_;refine rs_cons (rq_quiet rfl (a_faddr (by exact rfl)) (by exact sv_ptr _)) ?_;refine rs_cons (rq_quiet rfl (a_load (by exact rfl) (by(simp(disch:=first|omega|(simp only[z1,z2];omega))only[z3,z4,z5,z6,z7,z1,z2, *];exact rfl)) (by exact rfl)) (by exact sv_slice _ _ _)) ?_;refine rs_cons (rq_quiet rfl (a_faddr (by exact rfl)) (by exact sv_ptr _)) ?_;refine rs_cons (rq_quiet rfl (a_nilchk (by exact rfl)) (by exact sv_ptr _)) ?_;refine rs_cons (rq_quiet rfl (a_mov (by exact rfl)) (by exact sv_ptr _)) ?_;refine rs_cons (rq_quiet rfl (a_mov (by exact rfl)) (by exact sv_ptr _)) ?_;exact rs_nil) ?_
       refine wD_app_open (n:=1) (vs:=ints xs) (ws:=ints (xs++[x.worth])) rfl rfl rfl (by exact rfl) (by exact rfl) (by exact rfl) (src_log (src_slice (cs:=[.int .i64 x.worth]) (by(simp(disch:=first|omega|(simp only[z1,z2];omega)|(simp only[z1,z2];done)|fail)only[z8,z4,z5,z9,z7,z1,z2, *];exact rfl)) rfl rfl)) (by omega) (by(simp(disch:=first|omega|(simp only[z1,z2];omega))only[z3,z4,z5,z6,z7,z1,z2, *];done)) (by omega) (by omega) rfl (by omega) hwr (by(simp only[z1,z2];omega)) (by omega) (by apply ra_dropC rfl;apply ra_dropC rfl;apply ra_dropC rfl;apply ra_dropC rfl;apply ra_dropC rfl;apply ra_dropC rfl;apply ra_dropC rfl;apply ra_keepC rfl (rq_quiet rfl (a_mov (by exact rfl)) (by exact sv_ptr _)) rfl;exact ra_nil) ?_
       refine wD_quiet rfl rfl rfl (by exact rfl) (by exact rfl) (by exact rfl) (a_nilchk (by exact rfl)) ?_;refine qF ?_
       refine wD_store rfl rfl rfl (by exact rfl) (by exact rfl) (by exact rfl) (by(simp(disch:=first|omega|(simp only[z1,z2];omega))only[z3,z4,z5,z6,z7,z1,z2, *];exact rfl)) (by exact rfl) (by exact rfl) (by(simp only[z1,z2];omega)) (by omega) (by apply ra_dropC rfl;apply ra_dropC rfl;apply ra_dropC rfl;exact ra_nil) ?_
       refine wD_nil ?_;refine y1 ?_;refine kB_n ?_;refine kS_n ?_;refine wE_region ?_;refine yinc ?_;refine yM ?_;refine y3 ?_
       have hxi:=hid.down.1
       refine⟨n-(i+1),by omega,i+1, .slice (some ⟨hi.next+2,0,none⟩) (xs.length+1) UNK,xs++[x.worth],by omega,rfl,rfl,rfl,?_,?_,?_,?_,?_⟩
       ·exact((hx4.wr (x:=q) (base:=h.next) (o:= .dead) (show h.next+1≤q by omega) (by omega)).push (.cells (ints (xs++[x.worth])) true 1)).wr (Nat.le_refl _) (Nat.le_succ _)
       ·(simp only[z1,z2];omega)
       ·(simp(disch:=first|omega|(simp only[z1,z2];omega))only[z3,z4,z5,z6,z7,z1,z2, *];exact rfl)
       ·have:=WslB.full (lo:=h.next+2) (q:=hi.next+2) (xs:=xs++[x.worth]) (h:=(((((hi.push (.cells [.int .i64 0, .int .i64 0, .int .i64 0, .int .i64 0, .bool false] true 1)).wr h.next hi.next (.cells (kc x) true 1)).push (.cells [.int .i64 x.worth] true 1)).wr h.next q .dead).push (.cells (ints (xs++[x.worth])) true 1)).wr h.next (h.next+1) (.cells [.slice (some ⟨b,o,none⟩) n c, .int .i64 kerf, .slice (some ⟨hi.next+2,0,none⟩) (xs.length+1) UNK] true 1)) (by omega) (by(simp only[z1,z2];omega)) (by(simp(disch:=first|omega|(simp only[z1,z2];omega)|(simp only[z1,z2];done)|fail)only[z8,z4,z5,z9,z7,z1,z2, *];done)) (by simp)
        rw[List.length_append]at this
        exact this
       ·exact⟨⟨hid.down.2.symm⟩⟩
   ·obtain rfl:i=n:=by omega
    refine y4 ?_;refine yf ?_;refine y3 ?_;refine wE_seq ?_;refine yX ?_;refine wE_exit ?_;refine kS_e ?_;refine kS_e ?_;refine kB_e ?_;refine kS_n ?_
    refine y4 ?_;refine yM ?_;refine yM ?_;refine yM ?_;refine y3 ?_;refine wE_ret ?_
    refine endA_ret (vs:=[.pointer (some ⟨h.next+1,0,none⟩), .int .i64 0]) (hx1.log.trans hr.log) rfl ⟨_,rfl,fun _=> ?_⟩
    rw[List.take_of_length_le (by omega)]at hxs
    have hxn:xs.length=i:=by rw[hxs];simp;omega
    rw[←hxs]
    cases hw with
    |nil=>
     obtain rfl:i=0:=by simpa using hxn.symm
     exact⟨_,none,0,rfl,hW, .nil⟩
    | @full q _ h1 h2 h3 h5=>
      refine⟨_,some ⟨q,0,none⟩,UNK,rfl,by rw[hxn]at hW;exact hW, .mem ⟨h2,⟨_,_,_,h3,?_⟩,by simp[ints];omega⟩ (by unfold UNK;omega)⟩
      rw[ltake_eq,ldrop_eq,List.drop_zero,List.take_of_length_le (by simp[ints];omega)]
 ·rw[if_neg hc]
  refine yM ?_;refine y3 ?_;refine y4 ?_;refine yM ?_;refine yt ?_;refine y3 ?_;refine yY ?_;refine y4 ?_;refine yM ?_;refine yM ?_;refine yM ?_;refine y3 ?_;refine wE_ret ?_;refine kS_r ?_
  exact endA_ret (vs:=[.pointer none, .int .i64 (chk kerf l)]) hr.log rfl ⟨_,rfl,fun e=>(hc e).elim⟩
end Go.A.Pk
end
section
set_option maxRecDepth 100000
namespace Go.A.Pk
variable {T:Nat→Option AFunc}
structure FnsW (T:Nat→Option AFunc):Prop extends FnsE T,FnsV T where
 f76:T 76=some f76
 f32:T 32=some f32
def OnB(w ht:Int):Prop:=(1≤w∧w≤16)∧(1≤ht∧ht≤16)
instance(w ht:Int):Decidable (OnB w ht):=by unfold OnB;infer_instance
theorem board76(F:FnsW T){h:Heap}(hr:Rdy h)(w ht:Int):Pu T 76 [.int .i64 w, .int .i64 ht] h (.bool (decide (OnB w ht))):=by
 refine .of F.toFnsE.toFnsA.p F.f76 hr rfl ?_
 by_cases c1:1≤w∧w≤16
 ·by_cases c2:1≤ht∧ht≤16
  ·rw[decide_eq_true (show OnB w ht from⟨c1,c2⟩)]
   refine y4 ?_;refine yM ?_;refine y3 ?_;refine y4 ?_;refine yM ?_
   refine yC ?_
   refine FW.pu (in77T F.toFnsE.toFnsA.p F.toFnsE.toFnsA.f77 (.of hr.wf) c1) ?_
   refine yM ?_;refine yO ?_;refine yM ?_;refine yO ?_
   refine yC ?_
   refine FW.pu (in77T F.toFnsE.toFnsA.p F.toFnsE.toFnsA.f77 (.of hr.wf) c2) ?_
   refine yT ?_;refine yM ?_;refine y3 ?_;refine wE_ret ?_
   exact endP_ret hr.log rfl rfl
  ·rw[decide_eq_false (show¬OnB w ht from fun q=>c2 q.2)]
   refine y4 ?_;refine yM ?_;refine y3 ?_;refine y4 ?_;refine yM ?_
   refine yC ?_
   refine FW.pu (in77T F.toFnsE.toFnsA.p F.toFnsE.toFnsA.f77 (.of hr.wf) c1) ?_
   refine yM ?_;refine yO ?_;refine yM ?_;refine yO ?_
   refine yC ?_
   refine FW.pu (in77F F.toFnsE.toFnsA.p F.toFnsE.toFnsA.f77 (.of hr.wf) c2) ?_
   refine yT ?_;refine yM ?_;refine y3 ?_;refine wE_ret ?_
   exact endP_ret hr.log rfl rfl
 ·rw[decide_eq_false (show¬OnB w ht from fun q=>c1 q.1)]
  refine y4 ?_;refine yM ?_;refine y3 ?_;refine y4 ?_;refine yM ?_
  refine yC ?_
  refine FW.pu (in77F F.toFnsE.toFnsA.p F.toFnsE.toFnsA.f77 (.of hr.wf) c1) ?_
  refine yM ?_;refine yP ?_;refine yP ?_;refine yU ?_;refine yM ?_;refine y3 ?_;refine wE_ret ?_
  exact endP_ret hr.log rfl rfl
theorem StartQ.logs{a:Option Addr}{n c:Nat}{kerf:Int}{l:List Kd}{er:Int}(v:Value)(h':Heap)(m:List Nat)(q:StartQ a n c kerf l er v h'):StartQ a n c kerf l er v {h' with log:=m}:=by
 obtain⟨p,h1,h2⟩:=q
 refine⟨p,h1,fun e=> ?_⟩
 obtain⟨bb,wa,wc,q1,q2,q3⟩:=h2 e
 exact⟨bb,wa,wc,q1,q2,q3.log _⟩
def bestV(kerf:Int)(l:List Kd)(w ht:Int):Int:=look (tabL kerf (l.map (·.worth)) l (boardsL w.toNat ht.toNat)) (w,ht)
def bestR(kerf:Int)(l:List Kd)(w ht:Int):Value:= .tuple #[.int .i64 (if asked kerf l (OnB w ht)=0 then bestV kerf l w ht else 0), .int .i64 (asked kerf l (OnB w ht))]
set_option maxHeartbeats 4000000 in
theorem best32(F:FnsW T){h:Heap}(hr:Rdy h){a:Option Addr}{n c:Nat}{l:List Kd}(hs:SliceOf h 5 (.slice a n c) n (kcs l))(kerf:Int)(hn:n<1000000)(w ht:Int):Pu T 32 [.agg #[.slice a n c, .int .i64 kerf], .int .i64 w, .int .i64 ht] h (bestR kerf l w ht):=by
 refine .of F.toFnsE.toFnsA.p F.f32 hr rfl ?_
 have hx:Ext h (h.push (.cells [.slice a n c, .int .i64 kerf] true 1)):=(Ext.refl h).push _
 obtain rfl:n=l.length:=by have:=hs.len;rw[kcs_length]at this;omega
 refine y4 ?_;refine yB ?_;refine yM ?_;refine yM ?_;refine y3 ?_;refine wE_seq ?_;refine wE_draw ?_
 refine qN ?_
 refine qM ?_;refine qM ?_
 refine qC ?_
 refine FW.puD (board76 F (.of (hx.wf hr.wf)) w ht) (by apply ra_dropC rfl;apply ra_dropC rfl;apply ra_keepC rfl (rq_quiet rfl (a_loadN (by exact rfl) (by(simp(disch:=first|omega|(simp only[z1,z2];omega))only[z3,z4,z5,z6,z7,z1,z2, *];exact rfl)) (by exact rfl) (by exact rfl)) (by exact sv_agg (by refine sl_cons (s1_slice _ _ _) ?_;refine sl_cons (s1_int _ _) ?_;exact sl_nil))) rfl;exact ra_nil) ?_
 refine wD_new rfl rfl rfl (by exact rfl) (by exact rfl) (by exact rfl) (a_bslice (by exact rfl) (by exact rfl)) (by refine rs_cons (rq_quiet rfl (a_loadN (by exact rfl) (by(simp(disch:=first|omega|(simp only[z1,z2];omega))only[z3,z4,z5,z6,z7,z1,z2, *];exact rfl)) (by exact rfl) (by exact rfl)) (by exact sv_agg (by refine sl_cons (s1_slice _ _ _) ?_;refine sl_cons (s1_int _ _) ?_;exact sl_nil))) ?_;exact rs_nil) ?_
 refine qC ?_
 have hx2:=hx.push (.cells [.bool (decide (OnB w ht))] true 1)
 refine FW.alD (startedB75 F.toFnsE (.of (hx2.wf hr.wf)) ((hs.ext hx2).log []) kerf hn (bl:=[decide (OnB w ht)]) (m:=1) (.mem ⟨Nat.lt_succ_self _,⟨_,_,_,z3 _ _,rfl⟩,rfl⟩ (Nat.le_refl _)) (by omega)) (fun v h' m q=>StartQ.logs v h' m q) ?_
 rintro _ h1 hx3 ⟨p,rfl,hst⟩
 rw[startE_one]at hst
 rw[startE_one]
 refine⟨_,by apply ra_dropC rfl;apply ra_dropC rfl;exact ra_nil,?_⟩
 have w1:WF h1:=hx3.wf (hx2.wf hr.wf)
 have hx13:Ext h h1:=hx2.trans hx3
 by_cases ha:asked kerf l (OnB w ht)=0
 ·obtain⟨bb,wa,wc,rfl,gb,hws⟩:=hst ha
  have hP:=asked_zero ha
  obtain⟨q1,q2,q3,q4⟩:=chk_iff.1 hP.1
  obtain⟨⟨e1,e2⟩,e3,e4⟩:=hP.2
  obtain⟨wn,rfl⟩:=Int.eq_ofNat_of_zero_le (show 0≤w by omega)
  obtain⟨hn',rfl⟩:=Int.eq_ofNat_of_zero_le (show 0≤ht by omega)
  unfold bestR
  rw[if_pos ha,ha]
  refine qM ?_;refine qE ?_;refine qE ?_
  refine qM ?_;refine qM ?_;refine wD_nil ?_;refine y1 ?_;refine kS_n ?_;refine wE_seq ?_;refine y4 ?_
  refine yM ?_;refine yf ?_;refine y3 ?_;refine yX ?_;refine wE_skip ?_;refine kS_n ?_;refine y4 ?_
  refine yM ?_;refine yM ?_;refine yM ?_
  refine yC ?_
  refine FW.al (best83 F.toFnsV (.of w1) (w:=wn) (ht:=hn') (W:=1000000) (ws:=l.map (·.worth)) (by omega) (by omega) (by omega) ⟨by omega,by omega⟩ (by omega) (fun x hx=> ?_) gb ((hs.ext hx13).log []) (hws.log [])) (fun _ _ _ q=>q) ?_
  ·obtain⟨k,hk,rfl⟩:=List.mem_map.1 hx
   have:=(q3 k hk).2.2.2
   exact this
  rintro _ h2 hx4 ⟨r,rfl,gr⟩
  refine yM ?_;refine yM ?_;refine wO_val (a_build (by exact rfl)) ?_
  refine wO_val (a_lookup (x:=((wn:Int),(hn':Int))) (by exact rfl) (by exact rfl) gr) ?_
  refine yM ?_;refine yM ?_;refine y3 ?_;refine wE_ret ?_
  exact endP_ret ((hx13.trans hx4).log.trans hr.log) rfl rfl
 ·unfold bestR
  rw[if_neg ha]
  refine qM ?_;refine qE ?_;refine qE ?_
  refine qM ?_;refine qM ?_;refine wD_nil ?_;refine y1 ?_;refine kS_n ?_;refine wE_seq ?_;refine y4 ?_
  refine yM ?_;refine yt ?_;refine y3 ?_;refine yY ?_;refine y4 ?_;refine yM ?_
  refine yM ?_;refine yM ?_;refine y3 ?_;refine wE_ret ?_;refine kS_r ?_
  exact endP_ret (hx13.log.trans hr.log) rfl rfl
end Go.A.Pk
end
section
namespace Go.A.Pk
def foldM{α:Type}(f:α→Int)(xs:List α)(m:Int):Int:=xs.foldl (fun m x=>mx m (f x)) m
theorem foldM_ge{α:Type}{f:α→Int}:∀{xs:List α} {m:Int},m≤foldM f xs m∧∀x∈xs,f x≤foldM f xs m
 |[],m=>⟨Int.le_refl _,fun x hx=>by cases hx⟩
 |y::xs,m=>by
  have h:=foldM_ge (f:=f) (xs:=xs) (m:=mx m (f y))
  have hm:=mx_ge (a:=m) (b:=f y)
  refine⟨Int.le_trans hm.1 h.1,fun x hx=> ?_⟩
  rcases List.mem_cons.1 hx with rfl|hx
  ·exact Int.le_trans hm.2 h.1
  ·exact h.2 x hx
theorem foldM_le{α:Type}{f:α→Int}{B:Int}:∀{xs:List α} {m:Int},m≤B→(∀x∈xs,f x≤B)→foldM f xs m≤B
 |[],m,h,_=>h
 |y::xs,m,h,hx=>foldM_le (xs:=xs) (m:=mx m (f y)) (mx_le h (hx y (List.mem_cons_self ..))) fun x hx'=>hx x (List.mem_cons_of_mem _ hx')
theorem foldM_congr{α:Type}{f g:α→Int}:∀{xs:List α} {m:Int},(∀x∈xs,f x=g x)→foldM f xs m=foldM g xs m
 |[],_,_=>rfl
 |y::xs,m,h=>by
  show foldM f xs (mx m (f y))=foldM g xs (mx m (g y))
  rw[h y (List.mem_cons_self ..),foldM_congr fun x hx=>h x (List.mem_cons_of_mem _ hx)]
def VF(kerf:Int)(ws:List Int)(kl:List Kd):Nat→Int×Int→Int
 |0,_=>0
 |n+1,p=>if 1≤p.1∧1≤p.2 then foldM (fun x=>VF kerf ws kl n (oneB x p.1.toNat p.2.toNat)+VF kerf ws kl n (twoB kerf x p.1.toNat p.2.toNat)) (cutsL p.1.toNat p.2.toNat) (leafM ws (leavesL p.1.toNat p.2.toNat kl 0) 0)else 0
def sz(p:Int×Int):Nat:=p.1.toNat+p.2.toNat
theorem cut_lt{kerf:Int}(hk:0≤kerf){a b:Nat}{x:Nat×Nat}(hx:x∈cutsL a b):sz (oneB x a b)<a+b∧sz (twoB kerf x a b)<a+b:=by
 unfold sz
 rcases cuts_of hx with⟨e3,hl,hu⟩|⟨e4,hl,hu⟩
 ·simp only[oneB,twoB,e3,if_true];omega
 ·have n3:¬x.1=3:=by omega
  simp only[oneB,twoB,if_neg n3];omega
theorem VF_succ{kerf:Int}(hk:0≤kerf){ws:List Int}{kl:List Kd}:∀{n:Nat} {p:Int×Int},sz p≤n→VF kerf ws kl (n+1) p=VF kerf ws kl n p
 |0,p,h=>by
  unfold sz at h
  simp only[VF]
  rw[if_neg (by omega)]
 |n+1,p,h=>by
  rw[VF,VF]
  split
  ·refine foldM_congr fun x hx=> ?_
   have:=cut_lt hk hx
   unfold sz at h
   rw[VF_succ hk (by omega),VF_succ hk (by omega)]
  ·rfl
theorem VF_ge{kerf:Int}(hk:0≤kerf){ws:List Int}{kl:List Kd}{n:Nat}{p:Int×Int}(h:sz p≤n):∀{m:Nat},n≤m→VF kerf ws kl m p=VF kerf ws kl n p:=by
 intro m hm
 induction m with
 |zero=>obtain rfl:n=0:=by omega
        rfl
 |succ m ih=>
  by_cases e:n=m+1
  ·rw[e]
  ·rw[VF_succ hk (by omega),ih (by omega)]
def V(kerf:Int)(ws:List Int)(kl:List Kd)(p:Int×Int):Int:=VF kerf ws kl (sz p) p
theorem V_out{kerf:Int}{ws:List Int}{kl:List Kd}{p:Int×Int}(h:¬ (1≤p.1∧1≤p.2)):V kerf ws kl p=0:=by
 unfold V
 cases sz p with
 |zero=>rfl
 |succ n=>rw[VF,if_neg h]
theorem V_eq{kerf:Int}(hk:0≤kerf){ws:List Int}{kl:List Kd}{a b:Nat}(ha:1≤a)(hb:1≤b):V kerf ws kl ((a:Int),(b:Int))=foldM (fun x=>V kerf ws kl (oneB x a b)+V kerf ws kl (twoB kerf x a b)) (cutsL a b) (leafM ws (leavesL a b kl 0) 0):=by
 have hs:sz ((a:Int),(b:Int))=a+b:=by simp[sz]
 unfold V
 rw[hs]
 obtain⟨n,hn⟩:∃n,a+b=n+1:=⟨a+b-1,by omega⟩
 rw[hn,VF,if_pos ⟨by show(1:Int)≤a;omega,by show(1:Int)≤b;omega⟩]
 show foldM (fun x=>VF kerf ws kl n (oneB x a b)+VF kerf ws kl n (twoB kerf x a b)) (cutsL a b) _=_
 refine foldM_congr fun x hx=> ?_
 have:=cut_lt hk hx
 rw[VF_ge hk (n:=sz (oneB x a b)) (Nat.le_refl _) (by omega),VF_ge hk (n:=sz (twoB kerf x a b)) (Nat.le_refl _) (by omega)]
theorem look_upd{x:Nat×Nat}{v:Int}:∀(t:Tab) (y:Int×Int),look (upd t x v) y=if y=((x.1:Int),(x.2:Int))then v else look t y
 |[],y=>by
  have e1:isKey y (x,v)=decide (y=((x.1:Int),(x.2:Int))):=by
   unfold isKey
   exact decide_eq_decide.2 ⟨fun q=>Prod.ext q.1 q.2,fun q=>by rw[q];exact⟨rfl,rfl⟩⟩
  simp only[upd,look]
  rw[e1]
  by_cases h:y=((x.1:Int),(x.2:Int))
  ·simp[h]
  ·simp[h]
 |e::t,y=>by
  simp only[upd]
  by_cases hk:isKey (x.1,x.2) e=true
  ·rw[if_pos hk]
   simp only[look]
   simp only[isKey,decide_eq_true_eq]at hk
   have e1:isKey y (x,v)=decide (y=((x.1:Int),(x.2:Int))):=by
    unfold isKey
    exact decide_eq_decide.2 ⟨fun q=>Prod.ext q.1 q.2,fun q=>by rw[q];exact⟨rfl,rfl⟩⟩
   have e2:isKey y e=decide (y=((x.1:Int),(x.2:Int))):=by
    unfold isKey
    exact decide_eq_decide.2 ⟨fun q=>Prod.ext (q.1.trans hk.1.symm) (q.2.trans hk.2.symm),fun q=>by rw[q];exact hk⟩
   rw[e1,e2]
   by_cases h:y=((x.1:Int),(x.2:Int))
   ·simp[h]
   ·simp[h]
  ·rw[if_neg hk]
   simp only[look]
   rw[look_upd t y]
   by_cases h:y=((x.1:Int),(x.2:Int))
   ·have:isKey y e=false:=by rw[h];simpa using hk
    simp[h,this]
    intro q
    rw[h]at this
    rw[this]at q;cases q
   ·simp[h]
theorem tab_look{kerf:Int}(hk:0≤kerf){ws:List Int}{kl:List Kd}{h:Nat}:∀(i j:Nat),j≤h→∀y:Int×Int,look (tabL kerf ws kl (boardsL i h++row (i+1) j)) y=
 if(1≤y.1∧y.1≤i∧1≤y.2∧y.2≤h)∨(y.1=(i:Int)+1∧1≤y.2∧y.2≤j)then V kerf ws kl y else 0
 |0,0,_,y=>by
  rw[if_neg (by omega)]
  rfl
 |i+1,0,hj,y=>by
  have e:boardsL (i+1) h++row (i+1+1) 0=boardsL i h++row (i+1) h:=by simp[boardsL,row]
  rw[e,tab_look hk i h (Nat.le_refl _) y]
  have:((1≤y.1∧y.1≤i∧1≤y.2∧y.2≤h)∨(y.1=(i:Int)+1∧1≤y.2∧y.2≤h))↔((1≤y.1∧y.1≤(i+1:Nat)∧1≤y.2∧y.2≤h)∨(y.1=((i+1:Nat):Int)+1∧1≤y.2∧y.2≤(0:Nat))):=by omega
  by_cases hc:(1≤y.1∧y.1≤i∧1≤y.2∧y.2≤h)∨(y.1=(i:Int)+1∧1≤y.2∧y.2≤h)
  ·rw[if_pos hc,if_pos (this.1 hc)]
  ·rw[if_neg hc,if_neg (fun q=>hc (this.2 q))]
 |i,j+1,hj,y=>by
  have ih:=tab_look hk (ws:=ws) (kl:=kl) (h:=h) i j (by omega)
  rw[row_succ,←List.append_assoc,tabL_snoc,look_upd,ih y]
  have hval:val kerf ws kl (tabL kerf ws kl (boardsL i h++row (i+1) j)) (i+1) (j+1)=V kerf ws kl (((i+1:Nat):Int),((j+1:Nat):Int)):=by
   rw[V_eq hk (by omega) (by omega)]
   show foldM _ _ _=foldM _ _ _
   refine foldM_congr fun x hx=> ?_
   rw[ih,ih]
   have key:∀z:Int×Int,(1≤z.1∧1≤z.2→((1≤z.1∧z.1≤i∧1≤z.2∧z.2≤h)∨(z.1=(i:Int)+1∧1≤z.2∧z.2≤j)))→(if(1≤z.1∧z.1≤i∧1≤z.2∧z.2≤h)∨(z.1=(i:Int)+1∧1≤z.2∧z.2≤j)then V kerf ws kl z else 0)=V kerf ws kl z:=fun z hz=>by
    by_cases hc:1≤z.1∧1≤z.2
    ·rw[if_pos (hz hc)]
    ·rw[if_neg (by omega),V_out hc]
   rcases cuts_of hx with⟨e3,hl,hu⟩|⟨e4,hl,hu⟩
   ·rw[key _ (by simp only[oneB,e3,if_true];omega),key _ (by simp only[twoB,e3,if_true];omega)]
   ·have n3:¬x.1=3:=by omega
    rw[key _ (by simp only[oneB,if_neg n3];omega),key _ (by simp only[twoB,if_neg n3];omega)]
  by_cases he:y=(((i+1:Nat):Int),((j+1:Nat):Int))
  ·rw[if_pos he,hval,if_pos (by rw[he];simp;omega),he]
  ·rw[if_neg he]
   have hne:¬ (y.1=((i+1:Nat):Int)∧y.2=((j+1:Nat):Int)):=fun q=>he (Prod.ext q.1 q.2)
   by_cases hc:(1≤y.1∧y.1≤i∧1≤y.2∧y.2≤h)∨(y.1=(i:Int)+1∧1≤y.2∧y.2≤j)
   ·rw[if_pos hc,if_pos (by omega)]
   ·rw[if_neg hc,if_neg (by omega)]
theorem bestV_eq{kerf:Int}(hk:0≤kerf){l:List Kd}{w ht:Int}(hw:1≤w)(hh:1≤ht):bestV kerf l w ht=V kerf (l.map (·.worth)) l (w,ht):=by
 unfold bestV
 have:=tab_look hk (ws:=l.map (·.worth)) (kl:=l) (h:=ht.toNat) w.toNat 0 (Nat.zero_le _) (w,ht)
 rw[show boardsL w.toNat ht.toNat++row (w.toNat+1) 0=boardsL w.toNat ht.toNat by simp[row]]at this
 rw[this,if_pos]
 exact .inl ⟨hw,by show w≤w.toNat;omega,hh,by show ht≤ht.toNat;omega⟩
end Go.A.Pk
end
section
namespace Go.A.Pk
variable {kerf:Int} {ws:List Int} {kl:List Kd}
theorem V_nonneg(hk:0≤kerf)(p:Int×Int):0≤V kerf ws kl p:=by
 by_cases h:1≤p.1∧1≤p.2
 ·obtain⟨a,ha⟩:=Int.eq_ofNat_of_zero_le (show 0≤p.1 by omega)
  obtain⟨b,hb⟩:=Int.eq_ofNat_of_zero_le (show 0≤p.2 by omega)
  have e:p=((a:Int),(b:Int)):=Prod.ext ha hb
  rw[e,V_eq hk (by omega) (by omega)]
  have h1:(0:Int)≤leafM ws (leavesL a b kl 0) 0:=(foldM_ge (f:=fun x:Nat×Nat=>ws.getD x.2 0) (xs:=leavesL a b kl 0) (m:=0)).1
  exact Int.le_trans h1 foldM_ge.1
 ·rw[V_out h];exact Int.le_refl _
theorem V_across(hk:0≤kerf){a b n:Int}(h1:1≤n)(h2:n<a)(hb:1≤b):V kerf ws kl (n,b)+V kerf ws kl (a-n-kerf,b)≤V kerf ws kl (a,b):=by
 obtain⟨a,rfl⟩:=Int.eq_ofNat_of_zero_le (show 0≤a by omega)
 obtain⟨b,rfl⟩:=Int.eq_ofNat_of_zero_le (show 0≤b by omega)
 obtain⟨n,rfl⟩:=Int.eq_ofNat_of_zero_le (show 0≤n by omega)
 rw[V_eq hk (a:=a) (b:=b) (by omega) (by omega)]
 obtain⟨m,rfl⟩:∃m,n=m+1:=⟨n-1,by omega⟩
 exact(foldM_ge (f:=fun x=>V kerf ws kl (oneB x a b)+V kerf ws kl (twoB kerf x a b)) (xs:=cutsL a b)).2 (3,m+1) (cuts_mem3 (by omega))
theorem V_along(hk:0≤kerf){a b n:Int}(h1:1≤n)(h2:n<b)(ha:1≤a):V kerf ws kl (a,n)+V kerf ws kl (a,b-n-kerf)≤V kerf ws kl (a,b):=by
 obtain⟨a,rfl⟩:=Int.eq_ofNat_of_zero_le (show 0≤a by omega)
 obtain⟨b,rfl⟩:=Int.eq_ofNat_of_zero_le (show 0≤b by omega)
 obtain⟨n,rfl⟩:=Int.eq_ofNat_of_zero_le (show 0≤n by omega)
 rw[V_eq hk (a:=a) (b:=b) (by omega) (by omega)]
 obtain⟨m,rfl⟩:∃m,n=m+1:=⟨n-1,by omega⟩
 exact(foldM_ge (f:=fun x=>V kerf ws kl (oneB x a b)+V kerf ws kl (twoB kerf x a b)) (xs:=cutsL a b)).2 (4,m+1) (cuts_mem4 (by omega))
end Go.A.Pk
end
section
set_option maxRecDepth 100000
namespace Go.A.Pk
variable {T:Nat→Option AFunc}
theorem al_mono{f:Nat}{args:List Value}{h:Heap}{Q Q':Value→Heap→Prop}(H:Al T f args h Q)(hq:∀v h',Q v h'→Q' v h'):Al T f args h Q':=
 CW.mono H fun r h' ⟨hx,v,hv,q⟩=>⟨hx,v,hv,hq _ _ q⟩
theorem bestR_ok{kerf:Int}{l:List Kd}{w ht:Int}(h:asked kerf l (OnB w ht)=0):bestR kerf l w ht= .tuple #[.int .i64 (bestV kerf l w ht), .int .i64 0]:=by unfold bestR;rw[if_pos h,h]
theorem bestR_no{kerf:Int}{l:List Kd}{w ht:Int}(h:¬asked kerf l (OnB w ht)=0):bestR kerf l w ht= .tuple #[.int .i64 0, .int .i64 (asked kerf l (OnB w ht))]:=by unfold bestR;rw[if_neg h]
theorem asked_ok{kerf:Int}{l:List Kd}{p:Prop}[Decidable p](hc:chk kerf l=0)(hp:p):asked kerf l p=0:=by unfold asked;rw[if_pos hc,if_pos hp]
end Go.A.Pk
end
section
set_option maxRecDepth 100000
namespace Go.A.Pk
variable {T:Nat→Option AFunc}
structure FnsK (T:Nat→Option AFunc):Prop where
 p:primAS T
 f121:T 121=some f121
 f148:T 148=some f148
 f175:T 175=some f175
theorem mul175(F:FnsK T){h:Heap}(hr:Rdy h){n:Nat}(hn:n<9):Pu T 175 [.int .u64 ((1:Nat):Int), .int .u64 n] h (.tuple #[.int .u64 ((0:Nat):Int), .int .u64 n]):=by
 refine .of F.p F.f175 hr rfl ?_
 have q1:Nat.land n 4294967295=n:=(show∀m,m<9→Nat.land m 4294967295=m by decide) n hn
 have q2:Nat.shiftRight n 32=0:=(show∀m,m<9→Nat.shiftRight m 32=0 by decide) n hn
 have e1:numOp .and (.int .u64 ((1:Nat):Int)) (.int .u64 4294967295)=some (.int .u64 ((1:Nat):Int)):=m_and (a:=1) (b:=4294967295) (by omega) (by omega)
 have e2:numOp .shr (.int .u64 ((1:Nat):Int)) (.int .u64 32)=some (.int .u64 ((0:Nat):Int)):=m_shr (a:=1) (n:=32) (by omega)
 have e3:numOp .and (.int .u64 n) (.int .u64 4294967295)=some (.int .u64 n):=by
  have:=m_and (a:=n) (b:=4294967295) (by omega) (by omega)
  rw[q1]at this;exact this
 have e4:numOp .shr (.int .u64 n) (.int .u64 32)=some (.int .u64 ((0:Nat):Int)):=by
  have:=m_shr (a:=n) (n:=32) (k:= .u64) (by omega)
  rw[q2]at this;exact this
 have e5:numOp .mul (.int .u64 ((1:Nat):Int)) (.int .u64 n)=some (.int .u64 n):=by
  have:=m_mulU (a:=1) (b:=n) (by omega)
  rw[Nat.one_mul]at this;exact this
 have e6:numOp .mul (.int .u64 ((0:Nat):Int)) (.int .u64 n)=some (.int .u64 ((0:Nat):Int)):=by
  have:=m_mulU (a:=0) (b:=n) (by omega)
  rw[Nat.zero_mul]at this;exact this
 have e7:numOp .add (.int .u64 ((0:Nat):Int)) (.int .u64 ((0:Nat):Int))=some (.int .u64 ((0:Nat):Int)):=m_addU (a:=0) (b:=0) (by omega)
 have e8:numOp .and (.int .u64 ((0:Nat):Int)) (.int .u64 4294967295)=some (.int .u64 ((0:Nat):Int)):=m_and (a:=0) (b:=4294967295) (by omega) (by omega)
 have e9:numOp .shr (.int .u64 ((0:Nat):Int)) (.int .u64 32)=some (.int .u64 ((0:Nat):Int)):=m_shr (a:=0) (n:=32) (by omega)
 have e10:numOp .mul (.int .u64 ((1:Nat):Int)) (.int .u64 ((0:Nat):Int))=some (.int .u64 ((0:Nat):Int)):=m_mulU (a:=1) (b:=0) (by omega)
 have e11:numOp .mul (.int .u64 ((0:Nat):Int)) (.int .u64 ((0:Nat):Int))=some (.int .u64 ((0:Nat):Int)):=m_mulU (a:=0) (b:=0) (by omega)
 have e12:numOp .shr (.int .u64 n) (.int .u64 32)=some (.int .u64 ((0:Nat):Int)):=e4
 refine y4 ?_;refine yM ?_;refine yM ?_;refine y3 ?_;refine y4 ?_;refine yM ?_
 refine wO_val (a_num (by exact rfl) (by exact rfl) (by with_reducible assumption)) ?_;refine yM ?_;refine y3 ?_;refine y4 ?_;refine yM ?_
 refine wO_val (a_num (by exact rfl) (by exact rfl) (by with_reducible assumption)) ?_;refine yM ?_;refine y3 ?_;refine y4 ?_;refine yM ?_
 refine wO_val (a_num (by exact rfl) (by exact rfl) (by with_reducible assumption)) ?_;refine yM ?_;refine y3 ?_;refine y4 ?_;refine yM ?_
 refine wO_val (a_num (by exact rfl) (by exact rfl) (by with_reducible assumption)) ?_;refine yM ?_;refine y3 ?_;refine y4 ?_;refine yM ?_;refine yM ?_
 refine wO_val (a_num (by exact rfl) (by exact rfl) (by with_reducible assumption)) ?_;refine yM ?_;refine y3 ?_;refine y4 ?_;refine yM ?_;refine yM ?_
 refine wO_val (a_num (by exact rfl) (by exact rfl) (by with_reducible assumption)) ?_;refine yM ?_;refine wO_val (a_num (by exact rfl) (by exact rfl) (by with_reducible assumption)) ?_;refine wO_val (a_num (by exact rfl) (by exact rfl) (by with_reducible assumption)) ?_;refine yM ?_;refine y3 ?_;refine y4 ?_;refine yM ?_;refine wO_val (a_num (by exact rfl) (by exact rfl) (by with_reducible assumption)) ?_;refine yM ?_;refine y3 ?_;refine y4 ?_;refine yM ?_;refine wO_val (a_num (by exact rfl) (by exact rfl) (by with_reducible assumption)) ?_;refine yM ?_;refine y3 ?_;refine y4 ?_;refine yM ?_;refine yM ?_;refine yM ?_;refine wO_val (a_num (by exact rfl) (by exact rfl) (by with_reducible assumption)) ?_
 refine wO_val (a_num (by exact rfl) (by exact rfl) (by with_reducible assumption)) ?_;refine yM ?_;refine y3 ?_;refine y4 ?_;refine yM ?_;refine yM ?_
 refine wO_val (a_num (by exact rfl) (by exact rfl) (by with_reducible assumption)) ?_;refine yM ?_;refine wO_val (a_num (by exact rfl) (by exact rfl) (by with_reducible assumption)) ?_;refine yM ?_;refine wO_val (a_num (by exact rfl) (by exact rfl) (by with_reducible assumption)) ?_
 refine wO_val (a_num (by exact rfl) (by exact rfl) (by with_reducible assumption)) ?_;refine yM ?_;refine y3 ?_;refine y4 ?_;refine yM ?_;refine yM ?_
 refine wO_val (a_num (by exact rfl) (by exact rfl) (by with_reducible assumption)) ?_;refine yM ?_;refine y3 ?_;refine wE_ret ?_
 exact endP_ret hr.log rfl rfl
theorem mul148(F:FnsK T){h:Heap}(hr:Rdy h){n:Nat}(hn:n<9):Pu T 148 [.int .u64 ((1:Nat):Int), .int .u64 n] h (.tuple #[.int .u64 ((0:Nat):Int), .int .u64 n]):=by
 refine .of F.p F.f148 hr rfl ?_
 refine y4 ?_;refine yM ?_;refine yM ?_;refine y3 ?_;refine wE_seq ?_;refine yX ?_;refine wE_skip ?_;refine kS_n ?_;refine y4 ?_
 refine yM ?_;refine yM ?_
 refine yC ?_
 refine FW.pu (mul175 F (.of hr.wf) hn) ?_
 refine yM ?_;refine yE ?_;refine yE ?_;refine yM ?_;refine yM ?_;refine y3 ?_;refine y4 ?_;refine yM ?_;refine yM ?_;refine yM ?_;refine yM ?_;refine y3 ?_;refine wE_ret ?_
 exact endP_ret hr.log rfl rfl
theorem lrow_len{α:Type}(z:List α):∀n,(lrow n z).length=n*z.length
 |0=>by simp[lrow]
 |n+1=>by rw[lrow,lcat_eq,List.length_append,lrow_len z n,Nat.add_mul,Nat.one_mul,Nat.add_comm]
theorem lrow_add{α:Type}(z:List α)(m:Nat):∀n,lrow (n+m) z=lrow n z++lrow m z
 |0=>by simp[lrow]
 |n+1=>by rw[Nat.succ_add,lrow,lrow,lcat_eq,lcat_eq,lrow_add z m n,List.append_assoc]
theorem ones_lrow{z:List Value}(hz:∀x∈z,∃k n,x=Value.int k n):∀n,ones (lrow n z)=true:=by
 have key:∀l:List Value,(∀x∈l,∃k n,x=Value.int k n)→ones l=true:=fun l=>by
  induction l with
  |nil=>intro _;rfl
  |cons x l ih=>
   intro hl
   obtain⟨k,n,rfl⟩:=hl x (List.mem_cons_self ..)
   have:=ih fun y hy=>hl y (List.mem_cons_of_mem _ hy)
   simp[ones,this]
 intro n
 refine key _ fun x hx=>hz x ?_
 induction n with
 |zero=>simp[lrow]at hx
 |succ n ih=>
  rw[lrow,lcat_eq,List.mem_append]at hx
  exact hx.elim id ih
theorem rep_put{k j m:Nat}{z o:List Value}(hl:z.length=2)(ho:o.length=2)(hm:m≤k)(hmj:m≤j):lputs (lrow k z++lrow j o) (0+k*2) (ltake (m*2) (lrow k z))=lrow (k+m) z++lrow (j-m) o:=by
 obtain⟨j,rfl⟩:∃j',j=m+j':=⟨j-m,by omega⟩
 obtain⟨k',rfl⟩:∃k',k=m+k':=⟨k-m,by omega⟩
 have h1:ltake (m*2) (lrow (m+k') z)=lrow m z:=by
  rw[ltake_eq,lrow_add z k' m,List.take_append_of_le_length (by rw[lrow_len,hl];omega),List.take_of_length_le (by rw[lrow_len,hl];omega)]
 rw[h1,lputs_mid (by rw[List.length_append,lrow_len,lrow_len,lrow_len,hl,ho];omega),Nat.zero_add,lrow_len,hl,List.take_append_of_le_length (by rw[lrow_len,hl];omega),List.take_of_length_le (by rw[lrow_len,hl];omega)]
 have h2:(m+k')*2+m*2=(lrow (m+k') z++lrow m o).length:=by rw[List.length_append,lrow_len,lrow_len,hl,ho]
 rw[lrow_add z m (m+k'),lrow_add o j m,←List.append_assoc (lrow (m+k') z),h2,List.drop_left,Nat.add_sub_cancel_left]
set_option maxHeartbeats 4000000 in
theorem repeat121(F:FnsK T){h:Heap}(hr:Rdy h){q n:Nat}{x y:Int}(gq:h.get q=some (.cells [Value.int .i64 x, .int .i64 y] true 2))(hn:1≤n∧n≤8):
 Al T 121 [.slice (some ⟨q,0,none⟩) 1 1, .int .i64 n] h fun v h'=>∃b,v= .slice (some ⟨b,0,none⟩) n n∧b<h'.next∧h'.get b=some (.cells (lrow n [Value.int .i64 x, .int .i64 y]) true 2):=by
 refine .of F.p F.f121 hr (fun v h1 hv q=> ?_) ?_
 ·obtain⟨b,rfl,_⟩:=q
  simp[noRef,flatL,flat,scalL,scal,scal1]at hv
 refine y4 ?_;refine yM ?_;refine y3 ?_;refine wE_seq ?_;refine y4 ?_;refine yM ?_;refine yf ?_
 refine y3 ?_;refine yX ?_;refine wE_skip ?_;refine kS_n ?_;refine y4 ?_;refine yM ?_;refine yD ?_;refine wO_val (a_conv (by exact rfl) (by exact wrapA_u64 (by omega))) ?_
 refine yM ?_;refine wO_val (a_conv (by exact rfl) (by exact wrapA_u64 (by omega))) ?_
 refine yC ?_
 refine FW.pu (mul148 F (.of hr.wf) (by omega)) ?_
 refine yM ?_;refine yE ?_;refine yE ?_;refine yM ?_;refine yM ?_;refine y3 ?_;refine wE_seq ?_
 refine y4 ?_;refine yM ?_;refine yf ?_;refine yM ?_;refine yO ?_;refine yM ?_;refine yO ?_;refine yf ?_
 refine yU ?_;refine y3 ?_;refine yX ?_;refine wE_skip ?_;refine kS_n ?_;refine y4 ?_;refine yM ?_
 refine wO_val (a_conv (by exact rfl) (by exact wrapA_i64 (by omega) (by omega))) ?_
 refine wO_val (a_mkSlice (by exact rfl) (by exact rfl) (Nat.le_refl _) (by omega) (by omega) (by exact rfl)) ?_
 have hx1:Ext h (h.push (.cells (lrow n [Value.int .i64 0, .int .i64 0]) true 2)):=(Ext.refl h).push _
 refine yM ?_;refine y3 ?_;refine y4 ?_;refine yM ?_;refine yM ?_
 have kq:=WF.get_lt hr.wf gq
 have hrl:(lrow n [Value.int .i64 0, .int .i64 0]).length=n*2:=lrow_len _ n
 have hput:lputs (lrow n [Value.int .i64 0, .int .i64 0]) 0 [Value.int .i64 x, .int .i64 y]=lrow 1 [Value.int .i64 x, .int .i64 y]++lrow (n-1) [Value.int .i64 0, .int .i64 0]:=by
  obtain⟨m,rfl⟩:∃m,n=m+1:=⟨n-1,by omega⟩
  rw[lrow,lcat_eq,Nat.add_sub_cancel];rfl
 refine wO_val (a_copy (s:=0) (k:=1) (m:=1) (l:=[Value.int .i64 x, .int .i64 y]) (by exact rfl) (by exact rfl) (src_slice (by(simp(disch:=first|omega|(simp only[z1,z2];omega))only[z3,z4,z5,z6,z7,z1,z2, *];exact rfl)) rfl rfl) (by(simp(disch:=first|omega|(simp only[z1,z2];omega))only[z3,z4,z5,z6,z7,z1,z2, *];exact rfl)) (show min 1 n=1 by omega) (by rw[hrl];omega) rfl hput) ?_
 refine yM ?_;refine y3 ?_;refine wE_seq ?_;refine wE_block ?_
 refine wE_loop (fun m e ds h'=>∃k:Nat,1≤k∧k≤n∧m=n-k∧e=[(7, .slice (some ⟨h.next,0,none⟩) n n),(8, .int .i64 k)]∧ds=[]∧Ext h h'∧h.next<h'.next∧h'.get h.next=some (.cells (lrow k [Value.int .i64 x, .int .i64 y]++lrow (n-k) [Value.int .i64 0, .int .i64 0]) true 2))
  ⟨1,Nat.le_refl _,hn.1,rfl,rfl,rfl,hx1.wr (Nat.le_refl _) (Nat.le_refl _),Nat.lt_succ_self _,by(simp(disch:=first|omega|(simp only[z1,z2];omega))only[z3,z4,z5,z6,z7,z1,z2, *];exact rfl)⟩ ?_
 rintro m e ds h' ⟨k,hk1,hkn,rfl,rfl,rfl,hx',hlt,gb⟩
 by_cases hkl:k<n
 ·refine wE_seq ?_;refine y4 ?_;refine yM ?_;refine yM ?_;refine yD ?_;refine yt ?_;refine y3 ?_
  refine yY ?_;refine wE_skip ?_;refine kS_n ?_;refine wE_block ?_;refine wE_draw ?_;refine qM ?_;refine qM ?_
  refine qM ?_
  refine wD_quiet rfl rfl rfl (by exact rfl) (by exact rfl) (by exact rfl) (a_sliceC (i:=k) (j:=n) (by exact rfl) (bnd_some (by exact rfl)) bnd_none (by omega) (by omega) hkl (by omega)) ?_
  refine qM ?_;refine qM ?_
  refine wD_quiet rfl rfl rfl (by exact rfl) (by exact rfl) (by exact rfl) (a_sliceC (i:=0) (j:=k) (by exact rfl) bnd_none (bnd_some (by exact rfl)) (by omega) (by omega) (by omega) (by omega)) ?_
  have hm1:Nat.min k n=min k n:=rfl
  have hlen:(lrow k [Value.int .i64 x, .int .i64 y]++lrow (n-k) [Value.int .i64 0, .int .i64 0]).length=n*2:=by
   rw[List.length_append,lrow_len,lrow_len];simp;omega
  have htk:ltake ((k-0)*2) (ldrop (0+0*2) (lrow k [Value.int .i64 x, .int .i64 y]++lrow (n-k) [Value.int .i64 0, .int .i64 0]))=lrow k [Value.int .i64 x, .int .i64 y]:=by
   rw[ltake_eq,ldrop_eq]
   simp only[Nat.zero_mul,Nat.add_zero,List.drop_zero,Nat.sub_zero]
   rw[List.take_append_of_le_length (by rw[lrow_len];simp),List.take_of_length_le (by rw[lrow_len];simp)]
  refine wD_copy (m:=k-0) (k:=min k (n-k)) (l:=lrow k [Value.int .i64 x, .int .i64 y]) rfl rfl rfl (by exact rfl) (by exact rfl) (by exact rfl) (src_log (src_slice gb htk (by rw[lrow_len];simp))) gb rfl ?_ ?_ (rep_put rfl rfl (by omega) (by omega)) hlt (by omega) (by apply ra_dropC rfl;apply ra_dropC rfl;apply ra_dropC rfl;apply ra_dropC rfl;apply ra_dropC rfl;apply ra_dropC rfl;apply ra_keepC rfl (rq_quiet rfl (a_mov (by exact rfl)) (by exact sv_int _ _)) rfl;exact ra_nil) ?_
  ·rw[hlen];omega
  ·rw[ltake_eq]
   have:(lrow k [Value.int .i64 x, .int .i64 y]).take (min k (n-k)*2)=lrow (min k (n-k)) [Value.int .i64 x, .int .i64 y]:=by
    obtain⟨k',hk'⟩:∃k',k=min k (n-k)+k':=⟨k-min k (n-k),by omega⟩
    generalize min k (n-k)=a at hk'⊢
    rw[hk',lrow_add,List.take_append_of_le_length (by rw[lrow_len];simp),List.take_of_length_le (by rw[lrow_len];simp)]
   rw[this]
   exact ones_lrow (by simp) _
  refine wD_quiet rfl rfl rfl (by exact rfl) (by exact rfl) (by exact rfl) (a_num (by exact rfl) (by exact rfl) (by exact m_add (wrapA_i64 (by omega) (by omega)))) ?_;refine qM ?_;refine wD_nil ?_;refine y1 ?_;refine kB_n ?_
  refine kS_n ?_
  refine⟨n-(k+min k (n-k)),by omega,k+min k (n-k),by omega,by omega,rfl,?_,rfl,hx'.wr (Nat.le_refl _) (Nat.le_refl _),hlt,?_⟩
  ·rw[Int.natCast_add]
  ·rw[show n-(k+min k (n-k))=n-k-min k (n-k)by omega]
   (simp(disch:=first|omega|(simp only[z1,z2];omega))only[z3,z4,z5,z6,z7,z1,z2, *];done)
 ·obtain rfl:k=n:=by omega
  refine wE_seq ?_;refine y4 ?_;refine yM ?_;refine yM ?_;refine yD ?_;refine yf ?_;refine y3 ?_
  refine yX ?_;refine wE_exit ?_;refine kS_e ?_;refine kS_e ?_;refine kB_e ?_;refine kS_n ?_;refine y4 ?_;refine yM ?_;refine yM ?_;refine y3 ?_;refine wE_ret ?_
  refine endA_ret (vs:=[.slice (some ⟨h.next,0,none⟩) k k]) (hx'.log.trans hr.log) rfl ⟨_,rfl,hlt,?_⟩
  rw[Nat.sub_self]at gb
  simpa[lrow]using gb
end Go.A.Pk
end
section
set_option maxRecDepth 100000
namespace Go.A.Pk
variable {T:Nat→Option AFunc}
structure FnsZ (T:Nat→Option AFunc):Prop extends FnsK T where
 f72:T 72=some f72
def us(pl:List Nat):List Value:=pl.map fun n=> .int .u64 (n:Nat)
theorem us_get{pl:List Nat}{i:Nat}(hi:i<pl.length):lget (us pl) (i*1)=some (.int .u64 ((pl.getD i 0:Nat):Int)):=by
 rw[lget_eq,Nat.mul_one,us,List.getElem?_map,List.getElem?_eq_getElem hi,List.getD_eq_getElem?_getD,List.getElem?_eq_getElem hi];rfl
def pst(pl:List Nat):Nat→Nat×Int×Int
 |0=>(0, -1, -1)
 |i+1=>if pl.getD i 0=0 then pst pl i else(Nat.lor (pst pl i).1 (pl.getD i 0),if(pst pl i).2.1<0 then(i:Int)else(pst pl i).2.1,i)
theorem pst_bd{pl:List Nat}(hp:∀x∈pl,x<18446744073709551616):∀i,(pst pl i).1<18446744073709551616∧(((pst pl i).2.1= -1∧(pst pl i).2.2= -1)∨(0≤(pst pl i).2.1∧(pst pl i).2.1≤(pst pl i).2.2∧(pst pl i).2.2<i))
 |0=>⟨by show 0<_;omega, .inl ⟨rfl,rfl⟩⟩
 |i+1=>by
  obtain⟨h1,h2⟩:=pst_bd hp i
  have hg:pl.getD i 0<18446744073709551616:=by
   rw[List.getD_eq_getElem?_getD]
   by_cases hi:i<pl.length
   ·rw[List.getElem?_eq_getElem hi];exact hp _ (List.getElem_mem hi)
   ·rw[List.getElem?_eq_none (by omega)];show 0<_;omega
  unfold pst
  split
  ·exact⟨h1,by omega⟩
  ·refine⟨Nat.or_lt_two_pow (n:=64) h1 hg, .inr ?_⟩
   dsimp only
   split<;>omega
def bst(all:Nat):Nat→(Int×Int)×(Int×Int)
 |0=>((8,8),(-1, -1))
 |i+1=>if Nat.land (Nat.shiftRight all i) 1=0 then bst all i else((mi (bst all i).1.1 (i % 8:Nat),mi (bst all i).1.2 (i / 8:Nat)),(mx (bst all i).2.1 (i % 8:Nat),mx (bst all i).2.2 (i / 8:Nat)))
theorem bst_bd(all:Nat):∀i,i≤64→((0≤(bst all i).1.1∧(bst all i).1.1≤8)∧(0≤(bst all i).1.2∧(bst all i).1.2≤8))∧((-1≤(bst all i).2.1∧(bst all i).2.1≤8)∧(-1≤(bst all i).2.2∧(bst all i).2.2≤8))
 |0,_=>by show((0≤(8:Int)∧(8:Int)≤8)∧(0≤(8:Int)∧(8:Int)≤8))∧((-1≤(-1:Int)∧(-1:Int)≤8)∧(-1≤(-1:Int)∧(-1:Int)≤8));omega
 |i+1,hi=>by
  have:=bst_bd all i (by omega)
  unfold bst
  split
  ·exact this
  ·dsimp only
   unfold mi mx
   refine⟨⟨?_,?_⟩,?_,?_⟩<;>split<;>omega
def boxN(pl:List Nat):Nat:=if(pst pl 8).2.1<0 then 0 else((pst pl 8).2.2-(pst pl 8).2.1+1).toNat
def boxD(pl:List Nat):Int×Int:=((bst (pst pl 8).1 64).2.1-(bst (pst pl 8).1 64).1.1+1,(bst (pst pl 8).1 64).2.2-(bst (pst pl 8).1 64).1.2+1)
def boxL(pl:List Nat):List Value:=lrow (boxN pl) [.int .i64 (boxD pl).1, .int .i64 (boxD pl).2]
theorem boxN_bd{pl:List Nat}(hp:∀x∈pl,x<18446744073709551616):boxN pl≤8:=by
 have:=(pst_bd hp 8).2
 unfold boxN
 split<;>omega
def BoxQ(pl:List Nat)(v:Value)(h:Heap):Prop:=∃a c,v= .slice a (boxN pl) c∧SliceOf h 2 (.slice a (boxN pl) c) (boxN pl) (boxL pl)
theorem BoxQ.log{pl:List Nat}(v:Value)(h':Heap)(m:List Nat)(q:BoxQ pl v h'):BoxQ pl v {h' with log:=m}:=by
 obtain⟨a,c,h1,h2⟩:=q
 exact⟨a,c,h1,h2.log m⟩
theorem BoxQ.gc{pl:List Nat}{h:Heap}(v:Value)(h1:Heap)(hv:noRef v=true)(q:BoxQ pl v h1):BoxQ pl v h:=by
 obtain⟨a,c,rfl,h2⟩:=q
 refine⟨a,c,rfl,?_⟩
 generalize boxN pl=n at*
 generalize boxL pl=cs at*
 cases h2 with
 |nil=>exact .nil
 |mem s _=>simp[noRef,flatL,flat,scalL,scal,scal1]at hv
set_option maxHeartbeats 8000000 in
theorem boxes72(F:FnsZ T){h:Heap}(hr:Rdy h){pl:List Nat}(hl:pl.length=8)(hp:∀x∈pl,x<18446744073709551616):Al T 72 [.agg (us pl).toArray] h (BoxQ pl):=by
 refine .of F.p F.f72 hr BoxQ.gc ?_
 have hu:(us pl).length=8:=by rw[us,List.length_map,hl]
 refine y4 ?_
 refine wO_val (a_box (vs:=us pl) (by exact rfl) (by show(us pl).toArray.toList=us pl;simp)) ?_
 have hx:Ext h (h.push (.cells (us pl) true 1)):=(Ext.refl h).push _
 refine yM ?_;refine y3 ?_;refine y4 ?_;refine yM ?_;refine y3 ?_
 refine y4 ?_;refine yM ?_;refine yM ?_;refine y3 ?_;refine wE_seq ?_;refine y4 ?_
 refine wO_val (a_loadN (l:=us pl) (by exact rfl) (by(simp(disch:=first|omega|(simp only[z1,z2];omega))only[z3,z4,z5,z6,z7,z1,z2, *];exact rfl)) (by rw[ltake_eq,ldrop_eq,List.drop_zero,List.take_of_length_le (by omega)]) (by rw[llen_eq,hu];rfl)) ?_
 refine yM ?_;refine y3 ?_;refine wE_block ?_
 refine wE_loop (fun m e ds h'=>∃(i A:Nat) (lo hh:Int),i≤8∧m=8-i∧pst pl i=(A,lo,hh)∧e=[(3, .int .u64 A),(4, .int .i64 lo),(5, .int .i64 hh),(13, .agg (us pl).toArray),(14, .int .i64 i)]∧ds=[]∧h'=h.push (.cells (us pl) true 1))
  ⟨0,0, -1, -1,Nat.zero_le _,rfl,rfl,rfl,rfl,rfl⟩ ?_
 rintro m e ds h' ⟨i,A,lo,hh,hi8,rfl,hst,rfl,rfl,rfl⟩
 have hbd:=pst_bd hp i
 rw[hst]at hbd
 dsimp only at hbd
 obtain⟨hA,hlh⟩:=hbd
 by_cases hlt:i<8
 ·have hg:pl.getD i 0<18446744073709551616:=by
   rw[List.getD_eq_getElem?_getD,List.getElem?_eq_getElem (by omega)];exact hp _ (List.getElem_mem _)
  have hnext:pst pl (i+1)=if pl.getD i 0=0 then(A,lo,hh)else(Nat.lor A (pl.getD i 0),if lo<0 then(i:Int)else lo,(i:Int)):=by
   rw[pst,hst]
  refine y4 ?_;refine yt ?_;refine y3 ?_;refine wE_seq ?_;refine yY ?_;refine wE_skip ?_;refine kS_n ?_;refine wE_seq ?_;refine wE_block ?_;refine y4 ?_;refine yM ?_
  refine wO_val (a_idxA (i:=i) (by exact rfl) (by exact rfl) hlt (by rw[List.toList_toArray];exact us_get (by omega))) ?_
  generalize pl.getD i 0=p at*
  by_cases hp0:p=0
  ·rw[if_pos hp0]at hnext
   refine yM ?_;refine yM ?_;refine y3 ?_;refine wE_seq ?_;refine y4 ?_;refine yM ?_;refine yt ?_
   refine y3 ?_;refine yY ?_;refine wE_exit ?_;refine kS_e ?_;refine kB_e ?_;refine kS_n ?_;refine wE_region ?_;refine yinc ?_;refine yM ?_;refine y3 ?_
   exact⟨8-(i+1),by omega,i+1,_,_,_,by omega,rfl,hnext,rfl,rfl,rfl⟩
  ·rw[if_neg hp0]at hnext
   have eo:=m_or hA hg
   by_cases hlo:lo<0
   ·rw[if_pos hlo]at hnext
    refine yM ?_;refine yM ?_;refine y3 ?_;refine wE_seq ?_;refine y4 ?_;refine yM ?_;refine yf ?_
    refine y3 ?_;refine yX ?_;refine wE_skip ?_;refine kS_n ?_;refine y4 ?_;refine yM ?_;refine yM ?_
    refine wO_val (a_num (by exact rfl) (by exact rfl) (by with_reducible assumption)) ?_;refine yM ?_;refine y3 ?_;refine y4 ?_;refine yM ?_;refine yM ?_;refine y3 ?_;refine y4 ?_;refine yM ?_;refine yt ?_;refine y3 ?_;refine yY ?_;refine wE_region ?_;refine yM ?_;refine yM ?_;refine wO_nil ?_;refine y1 ?_;refine kB_n ?_;refine kS_n ?_;refine wE_region ?_
    refine yinc ?_;refine yM ?_;refine y3 ?_
    exact⟨8-(i+1),by omega,i+1,_,_,_,by omega,rfl,hnext,rfl,rfl,rfl⟩
   ·rw[if_neg hlo]at hnext
    refine yM ?_;refine yM ?_;refine y3 ?_;refine wE_seq ?_;refine y4 ?_;refine yM ?_;refine yf ?_
    refine y3 ?_;refine yX ?_;refine wE_skip ?_;refine kS_n ?_;refine y4 ?_;refine yM ?_;refine yM ?_
    refine wO_val (a_num (by exact rfl) (by exact rfl) (by with_reducible assumption)) ?_;refine yM ?_;refine y3 ?_;refine y4 ?_;refine yM ?_;refine yM ?_;refine y3 ?_;refine y4 ?_;refine yM ?_;refine yf ?_;refine y3 ?_;refine yX ?_;refine wE_skip ?_;refine kB_n ?_;refine kS_n ?_;refine wE_region ?_;refine yinc ?_;refine yM ?_;refine y3 ?_
    exact⟨8-(i+1),by omega,i+1,_,_,_,by omega,rfl,hnext,rfl,rfl,rfl⟩
 ·obtain rfl:i=8:=by omega
  have hN:boxN pl=if lo<0 then 0 else(hh-lo+1).toNat:=by rw[boxN,hst]
  have hD:boxD pl=((bst A 64).2.1-(bst A 64).1.1+1,(bst A 64).2.2-(bst A 64).1.2+1):=by rw[boxD,hst]
  by_cases hlo:lo<0
  ·rw[if_pos hlo]at hN
   refine y4 ?_;refine yf ?_;refine y3 ?_;refine wE_seq ?_;refine yX ?_;refine wE_exit ?_;refine kS_e ?_;refine kS_e ?_;refine kB_e ?_;refine kS_n ?_
   refine wE_seq ?_;refine y4 ?_;refine yM ?_;refine yt ?_;refine y3 ?_;refine yY ?_;refine y4 ?_
   refine yM ?_;refine y3 ?_;refine wE_ret ?_;refine kS_r ?_
   refine endA_ret (vs:=[.slice none 0 0]) hr.log rfl ⟨none,0,?_,?_⟩
   ·rw[hN];rfl
   ·rw[boxL,hN];exact .nil
  ·rw[if_neg hlo]at hN
   clear hst hu
   refine y4 ?_;refine yf ?_;refine y3 ?_;refine wE_seq ?_;refine yX ?_;refine wE_exit ?_;refine kS_e ?_;refine kS_e ?_;refine kB_e ?_;refine kS_n ?_
   refine wE_seq ?_;refine y4 ?_;refine yM ?_;refine yf ?_;refine y3 ?_;refine yX ?_;refine wE_skip ?_;refine kS_n ?_
   refine y4 ?_;refine wO_val (a_build (by exact rfl)) ?_;refine wO_val (a_build (by exact rfl)) ?_;refine wO_val a_new ?_;refine wO_val a_new ?_
   refine yS ?_
   refine yS ?_;refine y3 ?_;refine wE_seq ?_;refine y4 ?_;refine yM ?_;refine y3 ?_;refine wE_block ?_
   refine wE_loop (fun m e ds h'=>∃(i:Nat) (f0 f1 t0 t1:Int),i≤64∧m=64-i∧bst A i=((f0,f1),(t0,t1))∧e=[(3, .int .u64 A),(4, .int .i64 lo),(5, .int .i64 hh),(8, .pointer (some ⟨h.next+1,0,none⟩)),(9, .pointer (some ⟨h.next+2,0,none⟩)),(32, .int .i64 i)]∧ds=[]∧Ext h h'∧h.next+2<h'.next∧
    h'.get (h.next+1)=some (.cells [.int .i64 f0, .int .i64 f1] true 1)∧h'.get (h.next+2)=some (.cells [.int .i64 t0, .int .i64 t1] true 1))
    ⟨0,8,8, -1, -1,Nat.zero_le _,rfl,rfl,rfl,rfl,(((hx.push _).push _).wr (by(simp only[z1,z2];omega)) (by(simp only[z1,z2];omega))).wr (by(simp only[z1,z2];omega)) (by(simp only[z1,z2];omega)),by(simp only[z1,z2];omega),by(simp(disch:=first|omega|(simp only[z1,z2];omega)|(simp only[z1,z2];done)|fail)only[z8,z4,z5,z9,z7,z1,z2, *];exact rfl),by(simp(disch:=first|omega|(simp only[z1,z2];omega)|(simp only[z1,z2];done)|fail)only[z8,z4,z5,z9,z7,z1,z2, *];exact rfl)⟩ ?_
   rintro m e ds h' ⟨i,f0,f1,t0,t1,hi64,rfl,hb,rfl,rfl,hx',hnx,g8,g9⟩
   have hbd:=bst_bd A i hi64
   rw[hb]at hbd
   dsimp only at hbd
   by_cases hlt:i<64
   ·have hnext:bst A (i+1)=if Nat.land (Nat.shiftRight A i) 1=0 then((f0,f1),(t0,t1))else((mi f0 (i % 8:Nat),mi f1 (i / 8:Nat)),(mx t0 (i % 8:Nat),mx t1 (i / 8:Nat))):=by
     rw[bst,hb]
    have e1:numOp .shr (.int .u64 A) (.int .i64 i)=some (.int .u64 ((Nat.shiftRight A i:Nat):Int)):=m_shr (by omega)
    have hsl:Nat.shiftRight A i<18446744073709551616:=Nat.lt_of_le_of_lt (Nat.shiftRight_le A i) hA
    have e2:numOp .and (.int .u64 ((Nat.shiftRight A i:Nat):Int)) (.int .u64 1)=some (.int .u64 ((Nat.land (Nat.shiftRight A i) 1:Nat):Int)):=m_and (b:=1) hsl (by omega)
    have e3:numOp .rem (.int .i64 i) (.int .i64 8)=some (.int .i64 ((i % 8:Nat):Int)):=m_rem8
    have e4:numOp .quo (.int .i64 i) (.int .i64 8)=some (.int .i64 ((i / 8:Nat):Int)):=m_quo8 (by omega)
    generalize Nat.shiftRight A i=sh at*
    generalize Nat.land sh 1=bt at*
    by_cases hbt:bt=0
    ·rw[if_pos hbt]at hnext
     refine y4 ?_;refine yt ?_;refine y3 ?_;refine wE_seq ?_;refine yY ?_;refine wE_skip ?_;refine kS_n ?_;refine wE_seq ?_;refine wE_block ?_;refine y4 ?_;refine yM ?_;refine yM ?_;refine y3 ?_;refine wE_seq ?_;refine y4 ?_;refine yM ?_;refine yM ?_
     refine wO_val (a_num (by exact rfl) (by exact rfl) (by with_reducible assumption)) ?_;refine wO_val (a_num (by exact rfl) (by exact rfl) (by with_reducible assumption)) ?_;refine yt ?_;refine y3 ?_
     refine yY ?_;refine wE_exit ?_;refine kS_e ?_;refine kB_e ?_;refine kS_n ?_;refine wE_region ?_;refine yinc ?_;refine yM ?_;refine y3 ?_
     exact⟨64-(i+1),by omega,i+1,_,_,_,_,by omega,rfl,hnext,rfl,rfl,hx',hnx,g8,g9⟩
    ·rw[if_neg hbt]at hnext
     generalize i % 8=c0 at*
     generalize i / 8=c1 at*
     refine y4 ?_;refine yt ?_;refine y3 ?_;refine wE_seq ?_;refine yY ?_;refine wE_skip ?_;refine kS_n ?_;refine wE_seq ?_;refine wE_block ?_;refine y4 ?_;refine yM ?_;refine yM ?_;refine y3 ?_;refine wE_seq ?_;refine y4 ?_;refine yM ?_;refine yM ?_
     refine wO_val (a_num (by exact rfl) (by exact rfl) (by with_reducible assumption)) ?_;refine wO_val (a_num (by exact rfl) (by exact rfl) (by with_reducible assumption)) ?_;refine yf ?_;refine y3 ?_
     refine yX ?_;refine wE_skip ?_;refine kS_n ?_;refine y4 ?_;refine yM ?_;refine wO_val (a_num (by exact rfl) (by exact rfl) (by with_reducible assumption)) ?_;refine yM ?_;refine wO_val (a_num (by exact rfl) (by exact rfl) (by with_reducible assumption)) ?_
     refine wO_val (a_build (by exact rfl)) ?_;refine yM ?_;refine y3 ?_;refine wE_block ?_
     refine wE_round ?_
     refine y4 ?_;refine yt ?_;refine y3 ?_;refine wE_seq ?_;refine yY ?_;refine wE_skip ?_;refine kS_n ?_;refine wE_seq ?_;refine wE_block ?_;refine y4 ?_;refine yM ?_;refine wO_val (a_idxA (i:=0) (by exact rfl) (by exact rfl) (by omega) (by exact rfl)) ?_;refine yM ?_;refine yM ?_;refine y3 ?_;refine wE_draw ?_
     refine qM ?_;refine qM ?_;refine qM ?_
     refine wD_quiet rfl rfl rfl (by exact rfl) (by exact rfl) (by exact rfl) (a_iaddrA (i:=0) (by exact rfl) (by exact rfl) (by omega)) ?_;refine qL ?_;refine qM ?_
     refine wD_quiet rfl rfl rfl (by exact rfl) (by exact rfl) (by exact rfl) (a_minI (by exact rfl) (by exact rfl)) ?_;refine qM ?_;refine wD_quiet rfl rfl rfl (by exact rfl) (by exact rfl) (by exact rfl) (a_iaddrA (i:=0) (by exact rfl) (by exact rfl) (by omega)) ?_
     refine qL ?_;refine qM ?_;refine wD_quiet rfl rfl rfl (by exact rfl) (by exact rfl) (by exact rfl) (a_max (by exact rfl) (by exact rfl)) ?_
     refine wD_quiet rfl rfl rfl (by exact rfl) (by exact rfl) (by exact rfl) (a_iaddrA (i:=0) (by exact rfl) (by exact rfl) (by omega)) ?_
     refine wD_store rfl rfl rfl (by exact rfl) (by exact rfl) (by exact rfl) (by assumption) (by exact rfl) (by exact rfl) (by omega) (by omega) (by apply ra_dropC rfl;apply ra_keepC rfl (rq_quiet rfl (a_max (by exact rfl) (by exact rfl)) (by exact sv_int _ _)) rfl;apply ra_keepC rfl (rq_quiet rfl (a_mov (by exact rfl)) (by exact sv_int _ _)) rfl;apply ra_keepC rfl (rq_quiet rfl (a_load (by exact rfl) (by(simp(disch:=first|omega|(simp only[z1,z2];omega))only[z3,z4,z5,z6,z7,z1,z2, *];exact rfl)) (by exact rfl)) (by exact sv_int _ _)) rfl;apply ra_keepC rfl (rq_quiet rfl (a_iaddrA (i:=0) (by exact rfl) (by exact rfl) (by omega)) (by exact sv_ptr _)) rfl;apply ra_keepC rfl (rq_quiet rfl (a_mov (by exact rfl)) (by exact sv_int _ _)) rfl;apply ra_dropC rfl;apply ra_dropC rfl;apply ra_dropC rfl;apply ra_dropC rfl;apply ra_dropC rfl;apply ra_keepC rfl (rq_quiet rfl (a_mov (by exact rfl)) (by exact sv_int _ _)) rfl;apply ra_dropC rfl;exact ra_nil) ?_
     refine wD_quiet rfl rfl rfl (by exact rfl) (by exact rfl) (by exact rfl) (a_iaddrA (i:=0) (by exact rfl) (by exact rfl) (by omega)) ?_
     refine wD_store rfl rfl rfl (by exact rfl) (by exact rfl) (by exact rfl) (by(simp(disch:=first|omega|(simp only[z1,z2];omega))only[z3,z4,z5,z6,z7,z1,z2, *];exact rfl)) (by exact rfl) (by exact rfl) (by(simp only[z1,z2];omega)) (by omega) (by apply ra_dropC rfl;apply ra_dropC rfl;apply ra_dropC rfl;apply ra_dropC rfl;apply ra_dropC rfl;apply ra_dropC rfl;apply ra_dropC rfl;exact ra_nil) ?_
     refine wD_nil ?_;refine y1 ?_;refine kB_n ?_;refine kS_n ?_;refine wE_region ?_;refine yadd ?_;refine yM ?_;refine y3 ?_
     refine wE_round ?_
     refine y4 ?_;refine yt ?_;refine y3 ?_;refine wE_seq ?_;refine yY ?_;refine wE_skip ?_;refine kS_n ?_;refine wE_seq ?_;refine wE_block ?_;refine y4 ?_;refine yM ?_;refine wO_val (a_idxA (i:=1) (by exact rfl) (by exact rfl) (by omega) (by exact rfl)) ?_;refine yM ?_;refine yM ?_;refine y3 ?_;refine wE_draw ?_
     refine qM ?_;refine qM ?_;refine qM ?_
     refine wD_quiet rfl rfl rfl (by exact rfl) (by exact rfl) (by exact rfl) (a_iaddrA (i:=1) (by exact rfl) (by exact rfl) (by omega)) ?_
     refine qL ?_
     refine qM ?_;refine wD_quiet rfl rfl rfl (by exact rfl) (by exact rfl) (by exact rfl) (a_minI (by exact rfl) (by exact rfl)) ?_;refine qM ?_
     refine wD_quiet rfl rfl rfl (by exact rfl) (by exact rfl) (by exact rfl) (a_iaddrA (i:=1) (by exact rfl) (by exact rfl) (by omega)) ?_
     refine qL ?_
     refine qM ?_;refine wD_quiet rfl rfl rfl (by exact rfl) (by exact rfl) (by exact rfl) (a_max (by exact rfl) (by exact rfl)) ?_;refine wD_quiet rfl rfl rfl (by exact rfl) (by exact rfl) (by exact rfl) (a_iaddrA (i:=1) (by exact rfl) (by exact rfl) (by omega)) ?_
     refine wD_store rfl rfl rfl (by exact rfl) (by exact rfl) (by exact rfl) (by(simp(disch:=first|omega|(simp only[z1,z2];omega))only[z3,z4,z5,z6,z7,z1,z2, *];exact rfl)) (by exact rfl) (by exact rfl) (by(simp only[z1,z2];omega)) (by omega) (by apply ra_dropC rfl;apply ra_keepC rfl (rq_quiet rfl (a_max (by exact rfl) (by exact rfl)) (by exact sv_int _ _)) rfl;apply ra_keepC rfl (rq_quiet rfl (a_mov (by exact rfl)) (by exact sv_int _ _)) rfl;apply ra_keepC rfl (rq_quiet rfl (a_load (by exact rfl) (by(simp(disch:=first|omega|(simp only[z1,z2];omega))only[z3,z4,z5,z6,z7,z1,z2, *];exact rfl)) (by exact rfl)) (by exact sv_int _ _)) rfl;apply ra_keepC rfl (rq_quiet rfl (a_iaddrA (i:=1) (by exact rfl) (by exact rfl) (by omega)) (by exact sv_ptr _)) rfl;apply ra_keepC rfl (rq_quiet rfl (a_mov (by exact rfl)) (by exact sv_int _ _)) rfl;apply ra_dropC rfl;apply ra_dropC rfl;apply ra_dropC rfl;apply ra_dropC rfl;apply ra_dropC rfl;apply ra_keepC rfl (rq_quiet rfl (a_mov (by exact rfl)) (by exact sv_int _ _)) rfl;apply ra_dropC rfl;exact ra_nil) ?_
     refine wD_quiet rfl rfl rfl (by exact rfl) (by exact rfl) (by exact rfl) (a_iaddrA (i:=1) (by exact rfl) (by exact rfl) (by omega)) ?_
     refine wD_store rfl rfl rfl (by exact rfl) (by exact rfl) (by exact rfl) (by(simp(disch:=first|omega|(simp only[z1,z2];omega))only[z3,z4,z5,z6,z7,z1,z2, *];exact rfl)) (by exact rfl) (by exact rfl) (by(simp only[z1,z2];omega)) (by omega) (by apply ra_dropC rfl;apply ra_dropC rfl;apply ra_dropC rfl;apply ra_dropC rfl;apply ra_dropC rfl;apply ra_dropC rfl;apply ra_dropC rfl;exact ra_nil) ?_
     refine wD_nil ?_;refine y1 ?_;refine kB_n ?_;refine kS_n ?_;refine wE_region ?_;refine yadd ?_;refine yM ?_;refine y3 ?_
     refine wE_round ?_
     refine y4 ?_;refine yf ?_;refine y3 ?_;refine wE_seq ?_;refine yX ?_;refine wE_exit ?_;refine kS_e ?_;refine kS_e ?_;refine kB_e ?_;refine kB_n ?_
     refine kS_n ?_;refine wE_region ?_;refine yinc ?_;refine yM ?_;refine y3 ?_
     refine⟨64-(i+1),by omega,i+1,_,_,_,_,by omega,rfl,hnext,rfl,rfl,(((hx'.wr (by omega) (by omega)).wr (by omega) (by omega)).wr (by omega) (by omega)).wr (by omega) (by omega),hnx,?_,?_⟩
     ·(simp(disch:=first|omega|(simp only[z1,z2];omega))only[z3,z4,z5,z6,z7,z1,z2, *];exact rfl)
     ·(simp(disch:=first|omega|(simp only[z1,z2];omega))only[z3,z4,z5,z6,z7,z1,z2, *];exact rfl)
   ·obtain rfl:i=64:=by omega
    rw[hb]at hD
    dsimp only at hD
    clear hb
    refine y4 ?_;refine yf ?_;refine y3 ?_;refine wE_seq ?_;refine yX ?_;refine wE_exit ?_;refine kS_e ?_;refine kS_e ?_;refine kB_e ?_;refine kS_n ?_
    refine y4 ?_;refine wO_val (a_iaddrA (i:=0) (by exact rfl) (by exact rfl) (by omega)) ?_;refine yL ?_;refine wO_val (a_iaddrA (i:=0) (by exact rfl) (by exact rfl) (by omega)) ?_;refine yL ?_
    refine ysub ?_;refine yadd ?_;refine wO_val (a_iaddrA (i:=1) (by exact rfl) (by exact rfl) (by omega)) ?_;refine yL ?_
    refine wO_val (a_iaddrA (i:=1) (by exact rfl) (by exact rfl) (by omega)) ?_;refine yL ?_;refine ysub ?_;refine yadd ?_
    refine wO_val (a_build (by exact rfl)) ?_;refine wO_val (a_bslice (by exact rfl) (by exact rfl)) ?_;refine yM ?_;refine yM ?_;refine ysub ?_;refine yadd ?_
    have hn:hh-lo+1=((boxN pl:Nat):Int):=by omega
    rw[hn]
    refine yC ?_
    have hx2:=hx'.push (.cells [.int .i64 (t0-f0+1), .int .i64 (t1-f1+1)] true 2)
    refine FW.al (repeat121 F.toFnsK (.of (hx2.wf hr.wf)) (z3 _ _) (n:=boxN pl) (by omega)) (fun _ _ _ q=>q) ?_
    rintro _ h3 hx3 ⟨b,rfl,hlb,gb⟩
    refine yM ?_;refine y3 ?_;refine wE_ret ?_
    refine endA_ret (vs:=[.slice (some ⟨b,0,none⟩) (boxN pl) (boxN pl)]) ((hx2.trans hx3).log.trans hr.log) rfl ⟨_,_,rfl, .mem ⟨hlb,⟨_,_,_,gb,?_⟩,?_⟩ (Nat.le_refl _)⟩
    ·rw[boxL,hD,ltake_eq,ldrop_eq,List.drop_zero,List.take_of_length_le (by rw[lrow_len];simp)]
    ·rw[boxL,lrow_len];rfl
end Go.A.Pk
end
section
set_option maxRecDepth 100000
namespace Go.A.Pk
open Go Go.Proofs Go.Joins Go.ChangeShapes Go.WideShapes Go.RowKit Go.Deep
section
variable {H:Type} {enc:TypeId×Value→H} {W:World} {base:Nat} {spare:Nat→Bool} {held:Bool}
theorem okWide_arr8{P:Program}{t e:TypeId}{n:Nat}{r:Reach}{v:Value}(ht:P.underlying t=some (.array n e))(h:Value.okWide P W r base t v):∃cs,v= .agg cs∧cs.size=P.cellsOf t:=by
 simp only[Value.okWide,ht]at h
 obtain⟨cs,h1,h2,_⟩:=h
 exact⟨cs,h1,h2⟩
theorem open_solid{v:Value}{d:DataW H}{p:List MemPlace}(hv:Value.okWide Tryz.prog W .any base 79 v)(h:DataW.Trod enc Tryz.prog W 0 spare held 79 v d p):∃pl:List Nat,pl.length=8∧(∀x∈pl,x<18446744073709551616)∧v= .agg (us pl).toArray:=by
 obtain⟨e,ht,he,hu⟩:∃e,Tryz.prog.underlying 79=some (.array 8 e)∧Tryz.prog.cellsOf e=1∧Tryz.prog.underlying e=some (.int .u64):=⟨_,Tryz.underlying79,by kernel_rfl,by kernel_rfl⟩
 obtain⟨cs,rfl,hcs⟩:=okWide_arr8 ht hv
 have h8:Tryz.prog.cellsOf 79=8:=by kernel_rfl
 rw[h8]at hcs
 obtain⟨fuel,hf⟩:=h
 obtain⟨xs,m,_,_,_,hxl,hg⟩:=DataW.trod_array ht hf
 have hl:cs.toList.length=8:=by simpa using hcs
 have key:∀i,i<8→∃n:Nat,n<18446744073709551616∧cs.toList[i]? =some (.int .u64 (n:Int)):=fun i hi=>by
  have hg:=hg i hi
  rw[he]at hg
  have hx:xs[i]? =some xs[i]:=List.getElem?_eq_getElem (by omega)
  rw[hx]at hg
  obtain⟨z,hz,_,hw⟩:=DataW.trod_int hu hg
  have hb:0≤z∧z≤18446744073709551615:=by
   simpa[Lit.wf,IntKind.min,IntKind.max,IntKind.signed,IntKind.bits]using hw
  obtain⟨n,rfl⟩:=Int.eq_ofNat_of_zero_le hb.1
  refine⟨n,by omega,?_⟩
  have hz2:(cs.toList.drop (i*1)).take 1=[Value.int .u64 (n:Int)]:=hz
  have hz':((cs.toList.drop (i*1)).take 1)[0]? =some (.int .u64 (n:Int)):=by rw[hz2];rfl
  rw[List.getElem?_take_of_lt (by omega),List.getElem?_drop]at hz'
  simpa using hz'
 let f:Value→Nat:=fun v=>match v with| .int _ n=>n.toNat|_=>0
 refine⟨cs.toList.map f,by simpa using hcs,fun x hx=> ?_,?_⟩
 ·obtain⟨y,hy,rfl⟩:=List.mem_map.1 hx
  obtain⟨i,hi,rfl⟩:=List.mem_iff_getElem.1 hy
  obtain⟨n,hn,hk⟩:=key i (by omega)
  rw[List.getElem?_eq_getElem hi,Option.some.injEq]at hk
  rw[hk];exact hn
 ·congr 1
  have:us (cs.toList.map f)=cs.toList:=by
   apply List.ext_getElem?
   intro i
   rw[us,List.getElem?_map,List.getElem?_map]
   by_cases hi:i<8
   ·obtain⟨n,_,hk⟩:=key i hi
    rw[hk];rfl
   ·rw[List.getElem?_eq_none (by omega)];rfl
  rw[this]
end
end Go.A.Pk
end
section
set_option maxRecDepth 100000
namespace Go.A.Pk
variable {T:Nat→Option AFunc}
structure FnsTi (T:Nat→Option AFunc):Prop extends FnsE T,FnsZ T where
 f69:T 69=some f69
 f120:T 120=some f120
def Large(k:Kd)(a b:Int):Prop:=(a≤k.w∧b≤k.h)∨(k.turn=true∧a≤k.h∧b≤k.w)
instance(k:Kd)(a b:Int):Decidable (Large k a b):=by unfold Large;infer_instance
set_option maxHeartbeats 4000000 in
theorem large120(F:FnsTi T){h:Heap}(hr:Rdy h)(k:Kd)(a b:Int):Pu T 120 [ka k, .agg #[.int .i64 a, .int .i64 b]] h (.bool (decide (Large k a b))):=by
 obtain⟨id,kw,kh,kwo,tu⟩:=k
 show Pu T 120 [.agg #[.int .i64 id, .int .i64 kw, .int .i64 kh, .int .i64 kwo, .bool tu], .agg #[.int .i64 a, .int .i64 b]] h _
 refine .of F.toFnsA.p F.f120 hr rfl ?_
 have dT:((a≤kw∧b≤kh)∨(tu=true∧a≤kh∧b≤kw))→decide (Large ⟨id,kw,kh,kwo,tu⟩ a b)=true:=fun q=>decide_eq_true q
 have dF:¬ ((a≤kw∧b≤kh)∨(tu=true∧a≤kh∧b≤kw))→decide (Large ⟨id,kw,kh,kwo,tu⟩ a b)=false:=fun q=>decide_eq_false q
 by_cases c1:a≤kw
 ·by_cases c2:b≤kh
  ·rw[dT (.inl ⟨c1,c2⟩)]
   refine y4 ?_;refine yB ?_;refine yB ?_;refine yM ?_;refine y3 ?_;refine y4 ?_
   refine yF ?_;refine yL ?_
   refine wO_val (a_iaddrA (i:=0) (by exact rfl) (by exact rfl) (by omega)) ?_
   refine yL ?_
   refine yt ?_;refine yM ?_;refine yO ?_;refine yF ?_;refine yO ?_
   refine yL ?_;refine yO ?_;refine wO_val (a_iaddrA (i:=1) (by exact rfl) (by exact rfl) (by omega)) ?_
   refine yO ?_;refine yL ?_
   refine yO ?_;refine yt ?_;refine yT ?_;refine yM ?_;refine yP ?_;refine yP ?_;refine yP ?_;refine wO_off2 (by exact rfl) ?_
   refine wO_off2 (by exact rfl) ?_;refine wO_off2 (by exact rfl) ?_;refine wO_off2 (by exact rfl) ?_;refine wO_off2 (by exact rfl) ?_;refine yP ?_;refine yP ?_;refine wO_off2 (by exact rfl) ?_;refine wO_off2 (by exact rfl) ?_;refine wO_off2 (by exact rfl) ?_;refine wO_off2 (by exact rfl) ?_;refine wO_off2 (by exact rfl) ?_
   refine yP ?_;refine yT ?_;refine yM ?_;refine y3 ?_;refine wE_ret ?_
   exact endP_ret (by exact hr.log) rfl rfl
  ·cases tu with
   |false=>
    rw[dF (by simp;omega)]
    refine y4 ?_;refine yB ?_;refine yB ?_;refine yM ?_;refine y3 ?_;refine y4 ?_
    refine yF ?_;refine yL ?_
    refine wO_val (a_iaddrA (i:=0) (by exact rfl) (by exact rfl) (by omega)) ?_
    refine yL ?_
    refine yt ?_;refine yM ?_;refine yO ?_;refine yF ?_;refine yO ?_
    refine yL ?_;refine yO ?_;refine wO_val (a_iaddrA (i:=1) (by exact rfl) (by exact rfl) (by omega)) ?_
    refine yO ?_;refine yL ?_
    refine yO ?_;refine yf ?_;refine yT ?_;refine yM ?_;refine yO ?_;refine yF ?_;refine yO ?_
    refine yL ?_;refine yO ?_;refine yM ?_
    refine yP ?_;refine yP ?_;refine yP ?_;refine yP ?_;refine yP ?_;refine yO ?_;refine yU ?_;refine yO ?_;refine yM ?_
    refine yP ?_;refine yP ?_;refine yP ?_;refine yP ?_;refine yP ?_;refine yO ?_;refine yU ?_;refine yU ?_
    refine yM ?_;refine y3 ?_;refine wE_ret ?_
    exact endP_ret (by exact hr.log) rfl rfl
   |true=>
    by_cases c3:a≤kh
    ·by_cases c4:b≤kw
     ·rw[dT (.inr ⟨rfl,c3,c4⟩)]
      refine y4 ?_;refine yB ?_;refine yB ?_;refine yM ?_;refine y3 ?_;refine y4 ?_
      refine yF ?_;refine yL ?_
      refine wO_val (a_iaddrA (i:=0) (by exact rfl) (by exact rfl) (by omega)) ?_
      refine yL ?_
      refine yt ?_;refine yM ?_;refine yO ?_;refine yF ?_;refine yO ?_
      refine yL ?_;refine yO ?_;refine wO_val (a_iaddrA (i:=1) (by exact rfl) (by exact rfl) (by omega)) ?_
      refine yO ?_;refine yL ?_
      refine yO ?_;refine yf ?_;refine yT ?_;refine yM ?_;refine yO ?_;refine yF ?_;refine yO ?_
      refine yL ?_;refine yO ?_;refine yM ?_;refine yO ?_
      refine yF ?_;refine yO ?_;refine yL ?_;refine yO ?_
      refine wO_val (a_iaddrA (i:=0) (by exact rfl) (by exact rfl) (by omega)) ?_;refine yO ?_
      refine yL ?_;refine yO ?_
      refine yt ?_;refine yO ?_;refine yT ?_;refine yO ?_;refine yM ?_;refine yO ?_;refine yF ?_;refine yO ?_
      refine yL ?_;refine yO ?_;refine wO_val (a_iaddrA (i:=1) (by exact rfl) (by exact rfl) (by omega)) ?_
      refine yO ?_;refine yL ?_
      refine yO ?_;refine yt ?_;refine yO ?_;refine yT ?_;refine yU ?_;refine yM ?_;refine y3 ?_;refine wE_ret ?_
      exact endP_ret (by exact hr.log) rfl rfl
     ·rw[dF (by simp;omega)]
      refine y4 ?_;refine yB ?_;refine yB ?_;refine yM ?_;refine y3 ?_;refine y4 ?_
      refine yF ?_;refine yL ?_
      refine wO_val (a_iaddrA (i:=0) (by exact rfl) (by exact rfl) (by omega)) ?_
      refine yL ?_
      refine yt ?_;refine yM ?_;refine yO ?_;refine yF ?_;refine yO ?_
      refine yL ?_;refine yO ?_;refine wO_val (a_iaddrA (i:=1) (by exact rfl) (by exact rfl) (by omega)) ?_
      refine yO ?_;refine yL ?_
      refine yO ?_;refine yf ?_;refine yT ?_;refine yM ?_;refine yO ?_;refine yF ?_;refine yO ?_
      refine yL ?_;refine yO ?_;refine yM ?_;refine yO ?_
      refine yF ?_;refine yO ?_;refine yL ?_;refine yO ?_
      refine wO_val (a_iaddrA (i:=0) (by exact rfl) (by exact rfl) (by omega)) ?_;refine yO ?_
      refine yL ?_;refine yO ?_
      refine yt ?_;refine yO ?_;refine yT ?_;refine yO ?_;refine yM ?_;refine yO ?_;refine yF ?_;refine yO ?_
      refine yL ?_;refine yO ?_;refine wO_val (a_iaddrA (i:=1) (by exact rfl) (by exact rfl) (by omega)) ?_
      refine yO ?_;refine yL ?_
      refine yO ?_;refine yf ?_;refine yO ?_;refine yT ?_;refine yU ?_;refine yM ?_;refine y3 ?_;refine wE_ret ?_
      exact endP_ret (by exact hr.log) rfl rfl
    ·rw[dF (by simp;omega)]
     refine y4 ?_;refine yB ?_;refine yB ?_;refine yM ?_;refine y3 ?_;refine y4 ?_
     refine yF ?_;refine yL ?_
     refine wO_val (a_iaddrA (i:=0) (by exact rfl) (by exact rfl) (by omega)) ?_
     refine yL ?_
     refine yt ?_;refine yM ?_;refine yO ?_;refine yF ?_;refine yO ?_
     refine yL ?_;refine yO ?_;refine wO_val (a_iaddrA (i:=1) (by exact rfl) (by exact rfl) (by omega)) ?_
     refine yO ?_;refine yL ?_
     refine yO ?_;refine yf ?_;refine yT ?_;refine yM ?_;refine yO ?_;refine yF ?_;refine yO ?_
     refine yL ?_;refine yO ?_;refine yM ?_;refine yO ?_
     refine yF ?_;refine yO ?_;refine yL ?_;refine yO ?_
     refine wO_val (a_iaddrA (i:=0) (by exact rfl) (by exact rfl) (by omega)) ?_;refine yO ?_
     refine yL ?_;refine yO ?_
     refine yf ?_;refine yO ?_;refine yT ?_;refine yO ?_;refine yM ?_;refine yP ?_;refine yP ?_;refine yP ?_
     refine yP ?_;refine yP ?_;refine yO ?_;refine yU ?_;refine yU ?_;refine yM ?_;refine y3 ?_;refine wE_ret ?_
     exact endP_ret (by exact hr.log) rfl rfl
 ·cases tu with
  |false=>
   rw[dF (by simp;omega)]
   refine y4 ?_;refine yB ?_;refine yB ?_;refine yM ?_;refine y3 ?_;refine y4 ?_
   refine yF ?_;refine yL ?_
   refine wO_val (a_iaddrA (i:=0) (by exact rfl) (by exact rfl) (by omega)) ?_
   refine yL ?_
   refine yf ?_;refine yM ?_;refine yP ?_;refine yP ?_;refine yP ?_;refine yP ?_;refine yP ?_
   refine yU ?_;refine yM ?_;refine yO ?_;refine yF ?_;refine yO ?_
   refine yL ?_;refine yO ?_;refine yM ?_
   refine yP ?_;refine yP ?_;refine yP ?_;refine yP ?_;refine yP ?_;refine yO ?_;refine yU ?_;refine yO ?_;refine yM ?_
   refine yP ?_;refine yP ?_;refine yP ?_;refine yP ?_;refine yP ?_;refine yO ?_;refine yU ?_;refine yU ?_
   refine yM ?_;refine y3 ?_;refine wE_ret ?_
   exact endP_ret (by exact hr.log) rfl rfl
  |true=>
   by_cases c3:a≤kh
   ·by_cases c4:b≤kw
    ·rw[dT (.inr ⟨rfl,c3,c4⟩)]
     refine y4 ?_;refine yB ?_;refine yB ?_;refine yM ?_;refine y3 ?_;refine y4 ?_
     refine yF ?_;refine yL ?_
     refine wO_val (a_iaddrA (i:=0) (by exact rfl) (by exact rfl) (by omega)) ?_
     refine yL ?_
     refine yf ?_;refine yM ?_;refine yP ?_;refine yP ?_;refine yP ?_;refine yP ?_;refine yP ?_
     refine yU ?_;refine yM ?_;refine yO ?_;refine yF ?_;refine yO ?_
     refine yL ?_;refine yO ?_;refine yM ?_;refine yO ?_
     refine yF ?_;refine yO ?_;refine yL ?_;refine yO ?_
     refine wO_val (a_iaddrA (i:=0) (by exact rfl) (by exact rfl) (by omega)) ?_;refine yO ?_
     refine yL ?_;refine yO ?_
     refine yt ?_;refine yO ?_;refine yT ?_;refine yO ?_;refine yM ?_;refine yO ?_;refine yF ?_;refine yO ?_
     refine yL ?_;refine yO ?_;refine wO_val (a_iaddrA (i:=1) (by exact rfl) (by exact rfl) (by omega)) ?_
     refine yO ?_;refine yL ?_
     refine yO ?_;refine yt ?_;refine yO ?_;refine yT ?_;refine yU ?_;refine yM ?_;refine y3 ?_;refine wE_ret ?_
     exact endP_ret (by exact hr.log) rfl rfl
    ·rw[dF (by simp;omega)]
     refine y4 ?_;refine yB ?_;refine yB ?_;refine yM ?_;refine y3 ?_;refine y4 ?_
     refine yF ?_;refine yL ?_
     refine wO_val (a_iaddrA (i:=0) (by exact rfl) (by exact rfl) (by omega)) ?_
     refine yL ?_
     refine yf ?_;refine yM ?_;refine yP ?_;refine yP ?_;refine yP ?_;refine yP ?_;refine yP ?_
     refine yU ?_;refine yM ?_;refine yO ?_;refine yF ?_;refine yO ?_
     refine yL ?_;refine yO ?_;refine yM ?_;refine yO ?_
     refine yF ?_;refine yO ?_;refine yL ?_;refine yO ?_
     refine wO_val (a_iaddrA (i:=0) (by exact rfl) (by exact rfl) (by omega)) ?_;refine yO ?_
     refine yL ?_;refine yO ?_
     refine yt ?_;refine yO ?_;refine yT ?_;refine yO ?_;refine yM ?_;refine yO ?_;refine yF ?_;refine yO ?_
     refine yL ?_;refine yO ?_;refine wO_val (a_iaddrA (i:=1) (by exact rfl) (by exact rfl) (by omega)) ?_
     refine yO ?_;refine yL ?_
     refine yO ?_;refine yf ?_;refine yO ?_;refine yT ?_;refine yU ?_;refine yM ?_;refine y3 ?_;refine wE_ret ?_
     exact endP_ret (by exact hr.log) rfl rfl
   ·rw[dF (by simp;omega)]
    refine y4 ?_;refine yB ?_;refine yB ?_;refine yM ?_;refine y3 ?_;refine y4 ?_
    refine yF ?_;refine yL ?_
    refine wO_val (a_iaddrA (i:=0) (by exact rfl) (by exact rfl) (by omega)) ?_
    refine yL ?_
    refine yf ?_;refine yM ?_;refine yP ?_;refine yP ?_;refine yP ?_;refine yP ?_;refine yP ?_
    refine yU ?_;refine yM ?_;refine yO ?_;refine yF ?_;refine yO ?_
    refine yL ?_;refine yO ?_;refine yM ?_;refine yO ?_
    refine yF ?_;refine yO ?_;refine yL ?_;refine yO ?_
    refine wO_val (a_iaddrA (i:=0) (by exact rfl) (by exact rfl) (by omega)) ?_;refine yO ?_
    refine yL ?_;refine yO ?_
    refine yf ?_;refine yO ?_;refine yT ?_;refine yO ?_;refine yM ?_;refine yP ?_;refine yP ?_;refine yP ?_
    refine yP ?_;refine yP ?_;refine yO ?_;refine yU ?_;refine yU ?_;refine yM ?_;refine y3 ?_;refine wE_ret ?_
    exact endP_ret (by exact hr.log) rfl rfl
def wAt(l:List Kd)(f:Int):Int:=match l[f.toNat]? with
 |some k=>k.worth
 |none=>0
def found(l:List Kd)(a b:Int):Nat→Int
 |0=> -1
 |i+1=>match l[i]? with
  |some k=>if Large k a b∧(found l a b i<0∨k.worth<wAt l (found l a b i))then(i:Int)else found l a b i
  |none=>found l a b i
theorem found_bd(l:List Kd)(a b:Int):∀i:Nat, -1≤found l a b i∧found l a b i<i
 |0=>by unfold found;omega
 |i+1=>by
  have:=found_bd l a b i
  unfold found
  split
  ·split<;>omega
  ·omega
theorem wAt_bd{kerf:Int}{l:List Kd}(hc:chk kerf l=0)(f:Int):0≤wAt l f∧wAt l f≤1000000:=by
 unfold wAt
 split
 ·rename_i k hk
  exact((chk_iff.1 hc).2.2.1 k (List.mem_of_getElem? hk)).2.2.2
 ·omega
def NZ(pl:List Nat):Prop:=¬pl.all (· ==0)=true
instance(pl:List Nat):Decidable (NZ pl):=by unfold NZ;infer_instance
theorem sv_us(pl:List Nat):sameV (.agg (us pl).toArray) (.agg (us pl).toArray)=true:=by
 refine sv_agg ?_
 rw[List.toList_toArray]
 induction pl with
 |nil=>rfl
 |cons p pl ih=>exact sl_cons (s1_int _ _) ih
theorem leaves_us:∀pl:List Nat,leavesEq (lrep pl.length (.i .u64)) (us pl) (lrep pl.length (.int .u64 0))=some (pl.all (· ==0))
 |[]=>rfl
 |p::pl=>by
  have ih:=leaves_us pl
  have e:leafEq (.i .u64) (.int .u64 (p:Int)) (.int .u64 0)=some (p==0):=by
   simp only[leafEq,if_true]
   congr 1
   by_cases hp:p=0
   ·subst hp;rfl
   ·rw[beq_eq_false_iff_ne.2 (by omega),beq_eq_false_iff_ne.2 hp]
  simp only[List.length_cons,lrep,us,List.map_cons,leavesEq,List.all_cons]at ih⊢
  rw[e]
  cases hp:p==0 with
  |true=>simpa using ih
  |false=>simp[us]at ih⊢;rw[ih]
def timB(l:List Kd)(pl:List Nat):Int:=found l (boxD pl).1 (boxD pl).2 l.length
def timF(l:List Kd)(pl:List Nat):Int:=if boxN pl≠0∧timB l pl<0 then 51 else 0
def timE(kerf:Int)(l:List Kd)(pl:List Nat):Int:=if asked kerf l (NZ pl)=0 then timF l pl else asked kerf l (NZ pl)
def timL(kerf:Int)(l:List Kd)(pl:List Nat):List Int:=if timE kerf l pl=0 then List.replicate (boxN pl) (timB l pl)else []
def timW(kerf:Int)(l:List Kd)(pl:List Nat):Int:=if timE kerf l pl=0 then boxN pl*wAt l (timB l pl)else 0
def TimQ(kerf:Int)(l:List Kd)(pl:List Nat)(v:Value)(h:Heap):Prop:=∃a c,v= .tuple #[.slice a (timL kerf l pl).length c, .int .i64 (timW kerf l pl), .int .i64 (timE kerf l pl)]∧SliceOf h 1 (.slice a (timL kerf l pl).length c) (timL kerf l pl).length (ints (timL kerf l pl))
theorem TimQ.log{kerf:Int}{l:List Kd}{pl:List Nat}(v:Value)(h':Heap)(m:List Nat)(q:TimQ kerf l pl v h'):TimQ kerf l pl v {h' with log:=m}:=by
 obtain⟨a,c,h1,h2⟩:=q
 exact⟨a,c,h1,h2.log m⟩
theorem TimQ.gc{kerf:Int}{l:List Kd}{pl:List Nat}{h:Heap}(v:Value)(h1:Heap)(hv:noRef v=true)(q:TimQ kerf l pl v h1):TimQ kerf l pl v h:=by
 obtain⟨a,c,rfl,h2⟩:=q
 refine⟨a,c,rfl,?_⟩
 generalize(timL kerf l pl).length=n at*
 generalize ints (timL kerf l pl)=cs at*
 cases h2 with
 |nil=>exact .nil
 |mem s _=>simp[noRef,flatL,flat,scalL,scal,scal1]at hv
theorem wD_app1{base:Nat}{e:Env}{h:Heap}{lo sz bytes n:Nat}{ops:List AOper}{bf:List Nat}{rs:List Rec}{Q:Env→Heap→Prop}{i mask:Nat}{is:List Nat}{dst:Option Nat}{g:Option (Nat×Bool)}{er:Env}{x y:Operand}{v u:Value}{cs c1:List Value}
 (s:Own lo h sz v n cs)(hn:n<1000000)(hsz:0<sz)(hb:bytes≤100000)(hlo:lo≤h.next)(hbase:base≤lo)
 (ho:lget ops i=some ⟨dst, .append sz bytes x y,g⟩)(hm:lget bf i=some mask)(he:keepE e (slotsA ⟨dst, .append sz bytes x y,g⟩)=er)(hwt:wantedA er g=some true)
 (hx:ev {h with log:=[]} er x=some v)(hy:ev {h with log:=[]} er y=some u)(hs:srcCells {h with log:=[]} sz u=some (c1,1))(hl1:c1.length=sz)(h1:ones c1=true)(h1':ones cs=true)
 (hK:∀v' h' lg,Own lo h' sz v' (n+1) (cs++c1)→Lx lo h h'→∃rs',recsAfter h' base lg mask rs=some rs'∧WD T base ops bf Q is rs' (dstE e dst v') h'):WD T base ops bf Q (i::is) rs e h:=by
 have hbd:(2*(n+1)+768)*bytes≤281474976710656:=by
  have:(2*(n+1)+768)*bytes≤2000768*100000:=Nat.mul_le_mul (by omega) hb
  omega
 cases s with
 |nil=>
  have:=Own.full (lo:=lo) (h:=h.push (.cells c1 true sz)) (sz:=sz) (q:=h.next) (n:=1) (cs:=c1) hlo (Nat.lt_succ_self _) (z3 _ _) (by omega) (by omega)
  obtain⟨rs',q1,q2⟩:=hK _ _ [] this ((Lx.refl lo h).push hlo _)
  exact wD_app_nil (n:=1) ho hm he hwt hx hy hs (by omega) (by simpa using hbd) q1 q2
 | @full q _ _ q1 q2 q3 q4 q5=>
   have hF:Own lo ((h.wr base q .dead).push (.cells (cs++c1) true sz)) sz (.slice (some ⟨h.next,0,none⟩) (n+1) UNK) (n+1) (cs++c1):= .full hlo (Nat.lt_succ_self _) (z3 _ _) (by rw[List.length_append,q4,hl1,Nat.add_mul,Nat.one_mul]) (by omega)
   obtain⟨rs',p1,p2⟩:=hK _ _ [q] hF (((Lx.refl lo h).wr q1 (by omega)).push hlo _)
   exact wD_app_open (n:=1) (vs:=cs) (ws:=cs++c1) ho hm he hwt hx hy hs (by omega) q3 q4 hsz h1 hbd (lcat_eq _ _) q2 (by omega) p1 p2
theorem ones_intsT:∀xs:List Int,ones (ints xs)=true
 |[]=>rfl
 |x::xs=>by
  have:=ones_intsT xs
  simp only[ints,List.map_cons,ones]at this⊢
  simpa using this
theorem ints_rep(n:Nat)(f:Int):ints (List.replicate (n+1) f)=ints (List.replicate n f)++[.int .i64 f]:=by
 rw[List.replicate_succ'];simp[ints]
theorem lrow_get{x y:Value}{n i:Nat}(hi:i<n):ltake 2 (ldrop (0+i*2) (lrow n [x,y]))=[x,y]:=by
 obtain⟨m,rfl⟩:∃m,n=i+(m+1):=⟨n-i-1,by omega⟩
 rw[Nat.zero_add,ldrop_eq,ltake_eq,lrow_add,List.drop_append_of_le_length (by rw[lrow_len];exact Nat.le_refl _),List.drop_of_length_le (by rw[lrow_len];exact Nat.le_refl _),List.nil_append,lrow,lcat_eq]
 rfl
theorem slice_box{h:Heap}{b o n:Nat}{x y:Value}(s:SliceAt h b o n 2 (lrow n [x,y])){i:Nat}(hi:i<n):∃vs own t,h.get b=some (.cells vs own t)∧ltake 2 (ldrop (o+i*2) vs)=[x,y]:=by
 obtain⟨vs,own,t,h1,h2⟩:=s.obj
 refine⟨vs,own,t,h1,?_⟩
 have h3:=lrow_get (x:=x) (y:=y) hi
 rw[←h2,ltake_eq,ldrop_eq,ltake_eq,ldrop_eq]at h3
 rw[ltake_eq,ldrop_eq,←h3,List.drop_take,List.drop_drop,List.take_take,Nat.min_eq_left (by omega),Nat.zero_add]
set_option maxHeartbeats 16000000 in
theorem timber69(F:FnsTi T){h:Heap}(hr:Rdy h){a:Option Addr}{n c:Nat}{l:List Kd}(hs:SliceOf h 5 (.slice a n c) n (kcs l))(kerf:Int)(hn:n<1000000){pl:List Nat}(hl:pl.length=8)(hp:∀x∈pl,x<18446744073709551616):
 Al T 69 [.agg #[.slice a n c, .int .i64 kerf], .agg (us pl).toArray] h (TimQ kerf l pl):=by
 refine .of F.toFnsA.p F.f69 hr TimQ.gc ?_
 have hu:(us pl).length=8:=by rw[us,List.length_map,hl]
 have hx:Ext h (h.push (.cells [.slice a n c, .int .i64 kerf] true 1)):=(Ext.refl h).push _
 obtain rfl:n=l.length:=by have:=hs.len;rw[kcs_length]at this;omega
 have hx1:=hx.push (.cells (us pl) true 1)
 refine y4 ?_
 refine yB ?_
 refine wO_val (a_box (vs:=us pl) (by exact rfl) (by show(us pl).toArray.toList=us pl;simp)) ?_
 refine yM ?_;refine yM ?_;refine yM ?_;refine y3 ?_;refine wE_seq ?_;refine wE_draw ?_
 refine qN ?_
 refine wD_quiet rfl rfl rfl (by exact rfl) (by exact rfl) (by exact rfl) (a_loadN (l:=us pl) (by exact rfl) (by(simp(disch:=first|omega|(simp only[z1,z2];omega)|(simp only[z1,z2];done)|fail)only[z8,z4,z5,z9,z7,z1,z2, *];exact rfl)) (by rw[ltake_eq,ldrop_eq,List.drop_zero,List.take_of_length_le (by omega)]) (by rw[llen_eq,hu];rfl)) ?_
 refine wD_quiet rfl rfl rfl (by exact rfl) (by exact rfl) (by exact rfl) (a_build (by exact rfl)) ?_
 have hlv:leavesEq (lrep 8 (.i .u64)) (us pl).toArray.toList (lrep 8 (.int .u64 0))=some (pl.all (· ==0)):=by
  have:=leaves_us pl
  rw[hl]at this
  rw[List.toList_toArray];exact this
 have hl1':ltake 8 (ldrop 0 (us pl))=us pl:=by rw[ltake_eq,ldrop_eq,List.drop_zero,List.take_of_length_le (by omega)]
 have hl2':Nat.beq (llen (us pl)) 8=true:=by rw[llen_eq,hu];rfl
 refine wD_quiet rfl rfl rfl (by exact rfl) (by exact rfl) (by exact rfl) (a_agg (b:=pl.all (· ==0)) (by exact rfl) (by exact rfl) hlv) ?_
 have hbl:(bif true then !(pl.all (· ==0))else pl.all (· ==0))=decide (NZ pl):=by
  by_cases hq:pl.all (· ==0)=true<;>simp[NZ,hq]
 refine wD_new rfl rfl rfl (by exact rfl) (by exact rfl) (by exact rfl) (a_bslice (by exact rfl) (by exact rfl)) (by refine rs_cons (rq_quiet rfl (a_agg (by exact rfl) (by exact rfl) (by assumption)) (by exact sv_bool _)) ?_;refine rs_cons (rq_quiet rfl (a_build (by exact rfl)) (by exact sv_agg (by exact sl_nil))) ?_;refine rs_cons (rq_quiet rfl (a_loadN (by exact rfl) (by(simp(disch:=first|omega|(simp only[z1,z2];omega)|(simp only[z1,z2];done)|fail)only[z8,z4,z5,z9,z7,z1,z2, *];exact rfl)) (by assumption) (by assumption)) (by exact sv_us _)) ?_;refine rs_cons (rq_quiet rfl (a_loadN (by exact rfl) (by(simp(disch:=first|omega|(simp only[z1,z2];omega))only[z3,z4,z5,z6,z7,z1,z2, *];exact rfl)) (by exact rfl) (by exact rfl)) (by exact sv_agg (by refine sl_cons (s1_slice _ _ _) ?_;refine sl_cons (s1_int _ _) ?_;exact sl_nil))) ?_;exact rs_nil) ?_
 refine qC ?_
 have hx2:=hx1.push (.cells [.bool (bif true then !(pl.all (· ==0))else pl.all (· ==0))] true 1)
 refine FW.alD (startedB75 F.toFnsE (.of (hx2.wf hr.wf)) ((hs.ext hx2).log []) kerf hn (bl:=[bif true then !(pl.all (· ==0))else pl.all (· ==0)]) (m:=1) (.mem ⟨Nat.lt_succ_self _,⟨_,_,_,z3 _ _,rfl⟩,rfl⟩ (Nat.le_refl _)) (by omega)) (fun v h' m q=>StartQ.logs v h' m q) ?_
 rintro _ h1 hx3 ⟨p,rfl,hst⟩
 rw[hbl,startE_one]at hst
 rw[hbl,startE_one]
 refine⟨_,by apply ra_dropC rfl;apply ra_dropC rfl;apply ra_dropC rfl;apply ra_dropC rfl;apply ra_dropC rfl;exact ra_nil,?_⟩
 rw[hbl]at hx2 hx3
 have w1:WF h1:=hx3.wf (hx2.wf hr.wf)
 have hx13:Ext h h1:=hx2.trans hx3
 have hl1:h1.log=[]:=hx13.log.trans hr.log
 have gP:h1.get (h.next+1)=some (.cells (us pl) true 1):=by rw[hx3.old _ (by(simp only[z1,z2];omega))];(simp(disch:=first|omega|(simp only[z1,z2];omega)|(simp only[z1,z2];done)|fail)only[z8,z4,z5,z9,z7,z1,z2, *];done)
 have kP:h.next+1<h1.next:=by have:=hx3.next;simp only[z1]at this;omega
 by_cases ha:asked kerf l (NZ pl)=0
 ·obtain⟨bb,wa,wc,rfl,gb,hws⟩:=hst ha
  obtain⟨hc,hN⟩:=asked_zero ha
  have hks:=hs.ext hx13
  have kb1:=WF.get_lt w1 gb
  have hl12:=(chk_iff.1 hc).1
  have hE:timE kerf l pl=if boxN pl≠0∧timB l pl<0 then 51 else 0:=by rw[timE,if_pos ha];rfl
  have hN8:=boxN_bd hp
  have hwb:=wAt_bd hc (timB l pl)
  clear hst hx3 hlv hbl hws hx2
  rw[ha]
  refine qM ?_;refine qE ?_;refine qE ?_
  refine qM ?_;refine qM ?_;refine wD_nil ?_;refine y1 ?_;refine kS_n ?_;refine wE_seq ?_;refine y4 ?_
  refine yM ?_;refine yf ?_;refine y3 ?_;refine yX ?_;refine wE_skip ?_;refine kS_n ?_;refine wE_seq ?_;refine y4 ?_
  refine wO_val (a_loadN (l:=us pl) (by exact rfl) gP (by rw[ltake_eq,ldrop_eq,List.drop_zero,List.take_of_length_le (by omega)]) (by rw[llen_eq,hu];rfl)) ?_
  refine yC ?_
  refine FW.al (boxes72 F.toFnsZ (.of w1) hl hp) (fun v h' m q=>BoxQ.log v h' m q) ?_
  rintro _ h2 hx4 ⟨ba,bc,rfl,hB⟩
  have hx14:=hx13.trans hx4
  have w2:=hx4.wf w1
  have gb2:=(hx4.old _ kb1).trans gb
  have kb2:bb<h2.next:=Nat.lt_of_lt_of_le kb1 hx4.next
  have hks2:=hks.ext hx4
  have hlg2:h2.log=[]:=hx4.log.trans hl1
  have hb2:h.next+1<h2.next:=Nat.lt_of_lt_of_le kP hx4.next
  have hTL:timE kerf l pl=0→timL kerf l pl=List.replicate (boxN pl) (timB l pl):=fun q=>by rw[timL,if_pos q]
  have hTW:timE kerf l pl=0→timW kerf l pl=boxN pl*wAt l (timB l pl):=fun q=>by rw[timW,if_pos q]
  clear hx13 gb kb1 hks gP kP w1 hx4
  have hBdef:timB l pl=found l (boxD pl).1 (boxD pl).2 l.length:=rfl
  unfold boxL at hB
  generalize boxD pl=D at*
  obtain⟨D1,D2⟩:=D
  dsimp only at hB hBdef
  generalize timB l pl=B at*
  have hNe:boxN pl=boxN pl:=rfl
  generalize boxN pl=N at*
  refine yD ?_;refine yM ?_;refine y3 ?_;refine wE_block ?_
  refine wE_loop (fun m e ds h'=>∃(i:Nat) (v:Value) (W:Int),i≤N∧m=N-i∧W=i*wAt l B∧e=[(4,v),(5, .int .i64 W),(7, .pointer (some ⟨bb,0,none⟩)),(26, .slice ba N bc),(27, .int .i64 N),(28, .int .i64 i)]∧ds=[]∧Ext h2 h'∧Own h2.next h' 1 v i (ints (List.replicate i B))∧(0<i→0≤B))
   ⟨0,_,0,Nat.zero_le _,rfl,by simp,rfl,rfl, .refl _, .nil,fun q=>absurd q (Nat.lt_irrefl 0)⟩ ?_
  rintro m e ds h' ⟨i,v,W,hiN,rfl,hW,rfl,rfl,hx',own,hi0⟩
  have hWb:0≤W∧W≤8000000:=by
   subst hW
   refine⟨Int.mul_nonneg (by omega) hwb.1,?_⟩
   have:=Int.mul_le_mul (show(i:Int)≤8 by omega) hwb.2 hwb.1 (by omega)
   omega
  have gb':=(hx'.old _ kb2).trans gb2
  have kb':bb<h'.next:=Nat.lt_of_lt_of_le kb2 hx'.next
  have kh':h.next+1<h'.next:=Nat.lt_of_lt_of_le hb2 hx'.next
  by_cases hlt:i<N
  ·rcases(hB.ext hx').inv with⟨_,_,h0,_⟩|⟨b,o,cap,hv,s,hcap⟩
   ·omega
   cases hv
   obtain⟨vs,own0,t,g1,g2⟩:=slice_box s hlt
   refine y4 ?_;refine yt ?_;refine y3 ?_;refine wE_seq ?_;refine yY ?_;refine wE_skip ?_;refine kS_n ?_;refine wE_seq ?_;refine wE_block ?_;refine y4 ?_;refine wO_val (a_iaddrS (by exact rfl) (by exact rfl) (by omega)) ?_
   refine wO_val (a_loadN (by exact rfl) g1 g2 (by exact rfl)) ?_
   refine wO_val a_new ?_;refine yS ?_;refine y3 ?_;refine y4 ?_;refine yM ?_;refine y3 ?_;refine wE_seq ?_;refine y4 ?_
   refine yM ?_;refine wO_val (a_nilchk (by exact rfl)) ?_;refine yF ?_;refine yF ?_
   refine yL ?_;refine yD ?_;refine yM ?_;refine y3 ?_;refine wE_block ?_
   have hx5:=((Ext.refl h').push (.cells [.int .i64 0, .int .i64 0] true 1)).wr (base:=h.next) (x:=h'.next) (o:= .cells [.int .i64 D1, .int .i64 D2] true 1) (Nat.le_refl _) (by omega)
   refine wE_loop (fun m e ds h''=>∃(j:Nat),j≤l.length∧m=l.length-j∧e=[(4,v),(5, .int .i64 W),(7, .pointer (some ⟨bb,0,none⟩)),(9, .pointer (some ⟨h'.next,0,none⟩)),(10, .int .i64 (found l D1 D2 j)),(26, .slice (some ⟨b,o,none⟩) N bc),(27, .int .i64 N),(28, .int .i64 i),(36, .slice a l.length c),(37, .int .i64 l.length),(38, .int .i64 j)]∧ds=[]∧Ext h' h''∧h'.next<h''.next∧h''.get h'.next=some (.cells [.int .i64 D1, .int .i64 D2] true 1))
    ⟨0,Nat.zero_le _,rfl,rfl,rfl,hx5,Nat.lt_succ_self _,by(simp(disch:=first|omega|(simp only[z1,z2];omega))only[z3,z4,z5,z6,z7,z1,z2, *];exact rfl)⟩ ?_
   rintro m e ds h'' ⟨j,hjl,rfl,rfl,rfl,hx'',hnx,g9⟩
   have gb'':=(hx''.old _ kb').trans gb'
   have kh'':h.next+1<h''.next:=by omega
   have hfb:=found_bd l D1 D2 j
   by_cases hjlt:j<l.length
   ·obtain⟨k,hkl⟩:∃k,l[j]? =some k:=⟨l[j],List.getElem?_eq_getElem hjlt⟩
    have hfs:found l D1 D2 (j+1)=if Large k D1 D2∧(found l D1 D2 j<0∨k.worth<wAt l (found l D1 D2 j))then(j:Int)else found l D1 D2 j:=by rw[found,hkl]
    rcases(hks2.ext (hx'.trans hx'')).inv with⟨_,_,h0,_⟩|⟨kb,ko,kcap,hv,sk,hkcap⟩
    ·omega
    cases hv
    obtain⟨vk,ownk,tk,gk1,gk2⟩:=slice_elem sk hkl
    have hx6:=(hx''.push (.cells [.int .i64 0, .int .i64 0, .int .i64 0, .int .i64 0, .bool false] true 1)).wr (base:=h.next) (x:=h''.next) (o:= .cells (kc k) true 1) hx''.next (by omega)
    refine y4 ?_;refine yt ?_;refine y3 ?_;refine wE_seq ?_;refine yY ?_;refine wE_skip ?_;refine kS_n ?_;refine wE_seq ?_;refine wE_block ?_;refine y4 ?_;refine yM ?_;refine wO_val (a_iaddrS (by exact rfl) (by exact rfl) (by omega)) ?_
    refine wO_val (a_loadN (by exact rfl) gk1 gk2 (by exact rfl)) ?_
    refine wO_val a_new ?_;refine yM ?_;refine yS ?_;refine y3 ?_;refine wE_seq ?_;refine wE_draw ?_
    refine qN ?_
    refine qN ?_
    refine qC ?_
    refine FW.puD (large120 F (.of ((hx'.trans hx6).wf w2)) k D1 D2) (by apply ra_dropC rfl;apply ra_dropC rfl;exact ra_nil) ?_
    by_cases hL:Large k D1 D2
    ·rw[decide_eq_true hL]
     by_cases hneg:found l D1 D2 j<0
     ·rw[if_pos ⟨hL, .inl hneg⟩]at hfs
      refine qM ?_;refine qM ?_;refine wD_quiet rfl rfl rfl (by exact rfl) (by exact rfl) (by exact rfl) (a_num (by exact rfl) (by exact rfl) (by exact m_geqT (by omega))) ?_
      refine qM ?_;refine wD_off rfl rfl rfl (by exact rfl) ?_;refine wD_off rfl rfl rfl (by exact rfl) ?_;refine wD_off rfl rfl rfl (by exact rfl) ?_;refine wD_off rfl rfl rfl (by exact rfl) ?_;refine wD_off rfl rfl rfl (by exact rfl) ?_;refine wD_off rfl rfl rfl (by exact rfl) ?_
      refine wD_off rfl rfl rfl (by exact rfl) ?_;refine wD_off rfl rfl rfl (by exact rfl) ?_;refine wD_off rfl rfl rfl (by exact rfl) ?_;refine wD_off rfl rfl rfl (by exact rfl) ?_;refine wD_off rfl rfl rfl (by exact rfl) ?_;refine wD_off rfl rfl rfl (by exact rfl) ?_;refine wD_quiet rfl rfl rfl (by exact rfl) (by exact rfl) (by exact rfl) (a_pickT (by exact rfl) (by exact rfl)) ?_
      refine wD_quiet rfl rfl rfl (by exact rfl) (by exact rfl) (by exact rfl) (a_pickT (by exact rfl) (by exact rfl)) ?_;refine wD_nil ?_;refine y1 ?_;refine kS_n ?_;refine yY ?_;refine wE_region ?_;refine yM ?_;refine yM ?_
      refine wO_nil ?_;refine y1 ?_;refine kB_n ?_;refine kS_n ?_;refine wE_region ?_;refine yinc ?_;refine yM ?_;refine y3 ?_
      exact⟨l.length-(j+1),by omega,j+1,by omega,rfl,by rw[hfs],rfl,hx6,by(simp only[z1,z2];omega),by(simp(disch:=first|omega|(simp only[z1,z2];omega))only[z3,z4,z5,z6,z7,z1,z2, *];done)⟩
     ·generalize hfd:found l D1 D2 j=fd at*
      obtain⟨f,rfl⟩:=Int.eq_ofNat_of_zero_le (show 0≤fd by omega)
      have hfl:f<l.length:=by omega
      obtain⟨kf,hkf⟩:∃kf,l[f]? =some kf:=⟨l[f],List.getElem?_eq_getElem hfl⟩
      have hwf:wAt l (f:Int)=kf.worth:=by rw[wAt,Int.toNat_natCast,hkf]
      rw[hwf]at hfs
      obtain⟨vf,ownf,tf,gf1,gf2⟩:=slice_elem (sk.ext (((Ext.refl h'').push (.cells [.int .i64 0, .int .i64 0, .int .i64 0, .int .i64 0, .bool false] true 1)).wr (base:=h.next) (x:=h''.next) (o:= .cells (kc k) true 1) (Nat.le_refl _) (by omega))) hkf
      have e0:lget vf (ko+f*5+3)=some (.int .i64 kf.worth):=elem_get gf2 3 (by omega)
      by_cases hw:k.worth<kf.worth
      ·rw[if_pos ⟨hL, .inr hw⟩]at hfs
       refine qM ?_;refine qM ?_;refine wD_quiet rfl rfl rfl (by exact rfl) (by exact rfl) (by exact rfl) (a_num (by exact rfl) (by exact rfl) (by exact m_geqF (by omega))) ?_
       refine qM ?_;refine qF ?_
       refine qL ?_
       refine qM ?_;refine wD_quiet rfl rfl rfl (by exact rfl) (by exact rfl) (by exact rfl) (a_nilchk (by exact rfl)) ?_;refine qF ?_
       refine qF ?_
       refine qL ?_
       refine qM ?_;refine wD_quiet rfl rfl rfl (by exact rfl) (by exact rfl) (by exact rfl) (a_iaddrS (by exact rfl) (by exact rfl) (by omega)) ?_;refine qF ?_
       refine wD_quiet rfl rfl rfl (by exact rfl) (by exact rfl) (by exact rfl) (a_load (by exact rfl) (by assumption) (by assumption)) ?_;refine wD_quiet rfl rfl rfl (by exact rfl) (by exact rfl) (by exact rfl) (a_num (by exact rfl) (by exact rfl) (by exact m_geqT (by omega))) ?_;refine wD_quiet rfl rfl rfl (by exact rfl) (by exact rfl) (by exact rfl) (a_pickF (by exact rfl) (by exact rfl)) ?_
       refine wD_quiet rfl rfl rfl (by exact rfl) (by exact rfl) (by exact rfl) (a_pickT (by exact rfl) (by exact rfl)) ?_;refine wD_nil ?_;refine y1 ?_;refine kS_n ?_;refine yY ?_;refine wE_region ?_;refine yM ?_;refine yM ?_
       refine wO_nil ?_;refine y1 ?_;refine kB_n ?_;refine kS_n ?_;refine wE_region ?_;refine yinc ?_;refine yM ?_;refine y3 ?_
       exact⟨l.length-(j+1),by omega,j+1,by omega,rfl,by rw[hfs],rfl,hx6,by(simp only[z1,z2];omega),by(simp(disch:=first|omega|(simp only[z1,z2];omega))only[z3,z4,z5,z6,z7,z1,z2, *];done)⟩
      ·rw[if_neg (fun q=>q.2.elim hneg hw)]at hfs
       refine qM ?_;refine qM ?_;refine wD_quiet rfl rfl rfl (by exact rfl) (by exact rfl) (by exact rfl) (a_num (by exact rfl) (by exact rfl) (by exact m_geqF (by omega))) ?_
       refine qM ?_;refine qF ?_
       refine qL ?_
       refine qM ?_;refine wD_quiet rfl rfl rfl (by exact rfl) (by exact rfl) (by exact rfl) (a_nilchk (by exact rfl)) ?_;refine qF ?_
       refine qF ?_
       refine qL ?_
       refine qM ?_;refine wD_quiet rfl rfl rfl (by exact rfl) (by exact rfl) (by exact rfl) (a_iaddrS (by exact rfl) (by exact rfl) (by omega)) ?_;refine qF ?_
       refine wD_quiet rfl rfl rfl (by exact rfl) (by exact rfl) (by exact rfl) (a_load (by exact rfl) (by assumption) (by assumption)) ?_;refine wD_quiet rfl rfl rfl (by exact rfl) (by exact rfl) (by exact rfl) (a_num (by exact rfl) (by exact rfl) (by exact m_geqF (by omega))) ?_;refine wD_quiet rfl rfl rfl (by exact rfl) (by exact rfl) (by exact rfl) (a_pickF (by exact rfl) (by exact rfl)) ?_
       refine wD_quiet rfl rfl rfl (by exact rfl) (by exact rfl) (by exact rfl) (a_pickT (by exact rfl) (by exact rfl)) ?_;refine wD_nil ?_;refine y1 ?_;refine kS_n ?_;refine yX ?_;refine wE_skip ?_;refine kB_n ?_;refine kS_n ?_;refine wE_region ?_
       refine yinc ?_;refine yM ?_;refine y3 ?_
       exact⟨l.length-(j+1),by omega,j+1,by omega,rfl,by rw[hfs],rfl,hx6,by(simp only[z1,z2];omega),by(simp(disch:=first|omega|(simp only[z1,z2];omega))only[z3,z4,z5,z6,z7,z1,z2, *];done)⟩
    ·rw[decide_eq_false hL]
     rw[if_neg (fun q=>hL q.1)]at hfs
     refine qM ?_;refine wD_off rfl rfl rfl (by exact rfl) ?_;refine wD_off rfl rfl rfl (by exact rfl) ?_;refine wD_off rfl rfl rfl (by exact rfl) ?_;refine wD_off rfl rfl rfl (by exact rfl) ?_;refine wD_off rfl rfl rfl (by exact rfl) ?_;refine wD_off rfl rfl rfl (by exact rfl) ?_
     refine wD_off rfl rfl rfl (by exact rfl) ?_;refine wD_off rfl rfl rfl (by exact rfl) ?_;refine wD_off rfl rfl rfl (by exact rfl) ?_;refine wD_off rfl rfl rfl (by exact rfl) ?_;refine wD_off rfl rfl rfl (by exact rfl) ?_;refine wD_off rfl rfl rfl (by exact rfl) ?_;refine wD_off rfl rfl rfl (by exact rfl) ?_;refine wD_off rfl rfl rfl (by exact rfl) ?_
     refine wD_off rfl rfl rfl (by exact rfl) ?_;refine wD_off rfl rfl rfl (by exact rfl) ?_;refine wD_quiet rfl rfl rfl (by exact rfl) (by exact rfl) (by exact rfl) (a_pickF (by exact rfl) (by exact rfl)) ?_;refine wD_nil ?_;refine y1 ?_;refine kS_n ?_;refine yX ?_;refine wE_skip ?_
     refine kB_n ?_;refine kS_n ?_;refine wE_region ?_;refine yinc ?_;refine yM ?_;refine y3 ?_
     exact⟨l.length-(j+1),by omega,j+1,by omega,rfl,by rw[hfs],rfl,hx6,by(simp only[z1,z2];omega),by(simp(disch:=first|omega|(simp only[z1,z2];omega))only[z3,z4,z5,z6,z7,z1,z2, *];done)⟩
   ·obtain rfl:j=l.length:=by omega
    rw[←hBdef]at hfb⊢
    by_cases hneg:B<0
    ·have hE1:timE kerf l pl=51:=by rw[hE,if_pos ⟨by omega,hneg⟩]
     refine y4 ?_;refine yf ?_;refine y3 ?_;refine wE_seq ?_;refine yX ?_;refine wE_exit ?_;refine kS_e ?_;refine kS_e ?_;refine kB_e ?_;refine kS_n ?_
     refine wE_seq ?_;refine y4 ?_;refine yM ?_;refine yt ?_;refine y3 ?_;refine yY ?_;refine y4 ?_
     refine yM ?_;refine yM ?_;refine yM ?_;refine y3 ?_;refine wE_ret ?_;refine kS_r ?_;refine kB_r ?_;refine kS_r ?_;refine kS_r ?_;refine kB_r ?_;refine kS_r ?_
     refine endA_ret (vs:=[.slice none 0 0, .int .i64 0, .int .i64 51]) ((hx'.trans hx'').log.trans hlg2) rfl ?_
     have t1:timL kerf l pl=[]:=by rw[timL,if_neg (by omega)]
     have t2:timW kerf l pl=0:=by rw[timW,if_neg (by omega)]
     unfold TimQ
     rw[t1,t2,hE1]
     exact⟨none,0,rfl, .nil⟩
    ·obtain⟨va,vc,rfl⟩:∃va vc,v= .slice va i vc:=(own.slice (by omega)).form
     obtain⟨f,rfl⟩:=Int.eq_ofNat_of_zero_le (show 0≤B by omega)
     have hfl:f<l.length:=by omega
     obtain⟨kf,hkf⟩:∃kf,l[f]? =some kf:=⟨l[f],List.getElem?_eq_getElem hfl⟩
     have hwf:wAt l (f:Int)=kf.worth:=by rw[wAt,Int.toNat_natCast,hkf]
     rw[hwf]at hwb hW
     rcases hks2.inv with⟨_,_,h0,_⟩|⟨kb,ko,kcap,hv,sk0,hkcap⟩
     ·omega
     cases hv
     have hx7:=(hx'.trans hx'').push (.cells [.int .i64 f] true 1)
     have kkb:kb<h2.next:=sk0.lt
     obtain⟨vf,ownf,tf,gf1,gf2⟩:=slice_elem (sk0.ext hx7) hkf
     have e0:lget vf (ko+f*5+3)=some (.int .i64 kf.worth):=elem_get gf2 3 (by omega)
     clear hBdef
     refine y4 ?_;refine yf ?_;refine y3 ?_;refine wE_seq ?_;refine yX ?_;refine wE_exit ?_;refine kS_e ?_;refine kS_e ?_;refine kB_e ?_;refine kS_n ?_
     refine wE_seq ?_;refine y4 ?_;refine yM ?_;refine yf ?_;refine y3 ?_;refine yX ?_;refine wE_skip ?_;refine kS_n ?_
     refine wE_draw ?_;refine qM ?_;refine qM ?_
     refine wD_new rfl rfl rfl (by exact rfl) (by exact rfl) (by exact rfl) (a_bslice (by exact rfl) (by exact rfl)) (by refine rs_cons (rq_quiet rfl (a_mov (by exact rfl)) (by exact sv_int _ _)) ?_;refine rs_cons (rq_quiet rfl (a_mov (by exact rfl)) (by exact sv_slice _ _ _)) ?_;exact rs_nil) ?_;refine qM ?_
     refine qM ?_;refine wD_quiet rfl rfl rfl (by exact rfl) (by exact rfl) (by exact rfl) (a_nilchk (by exact rfl)) ?_;refine qF ?_
     refine qF ?_
     refine qL ?_
     refine qM ?_;refine wD_quiet rfl rfl rfl (by exact rfl) (by exact rfl) (by exact rfl) (a_iaddrS (by exact rfl) (by exact rfl) (by omega)) ?_;refine qF ?_
     refine wD_quiet rfl rfl rfl (by exact rfl) (by exact rfl) (by exact rfl) (a_load (by exact rfl) (by assumption) (by assumption)) ?_;refine wD_quiet rfl rfl rfl (by exact rfl) (by exact rfl) (by exact rfl) (a_num (by exact rfl) (by exact rfl) (by exact m_add (wrapA_i64 (by omega) (by omega)))) ?_
     refine wD_app1 (lo:=h2.next) (c1:=[.int .i64 f]) (own.ext (hx''.push (.cells [.int .i64 f] true 1))) (by omega) (by omega) (by omega) hx7.next (by omega) rfl rfl rfl (by exact rfl) (by exact rfl) (by exact rfl) (src_log (src_slice (cs:=[.int .i64 f]) (by(simp(disch:=first|omega|(simp only[z1,z2];omega))only[z3,z4,z5,z6,z7,z1,z2, *];exact rfl)) rfl rfl)) (by exact rfl) (by exact rfl) (ones_intsT _) ?_
     intro v' h3 lg own' hx8
     have g3b:=(hx8.old bb kb2).trans ((z4 (by omega)).trans gb'')
     have g3k:=(hx8.old kb kkb).trans gf1
     clear gb'' gf1 gb' gb2 g1
     refine⟨_,by apply ra_keepC rfl (rq_quiet rfl (a_num (by exact rfl) (by exact rfl) (by exact m_add (wrapA_i64 (by omega) (by omega)))) (by exact sv_int _ _)) rfl;apply ra_keepC rfl (rq_quiet rfl (a_load (by exact rfl) (by assumption) (by assumption)) (by exact sv_int _ _)) rfl;apply ra_keepC rfl (rq_quiet rfl (a_faddr (by exact rfl)) (by exact sv_ptr _)) rfl;apply ra_keepC rfl (rq_quiet rfl (a_iaddrS (by exact rfl) (by exact rfl) (by omega)) (by exact sv_ptr _)) rfl;apply ra_keepC rfl (rq_quiet rfl (a_mov (by exact rfl)) (by exact sv_int _ _)) rfl;apply ra_keepC rfl (rq_quiet rfl (a_load (by exact rfl) (by assumption) (by exact rfl)) (by exact sv_slice _ _ _)) rfl;apply ra_keepC rfl (rq_quiet rfl (a_faddr (by exact rfl)) (by exact sv_ptr _)) rfl;apply ra_keepC rfl (rq_quiet rfl (a_faddr (by exact rfl)) (by exact sv_ptr _)) rfl;apply ra_keepC rfl (rq_quiet rfl (a_nilchk (by exact rfl)) (by exact sv_ptr _)) rfl;apply ra_keepC rfl (rq_quiet rfl (a_mov (by exact rfl)) (by exact sv_ptr _)) rfl;apply ra_keepC rfl (rq_quiet rfl (a_mov (by exact rfl)) (by exact sv_int _ _)) rfl;apply ra_dropC rfl;apply ra_dropC rfl;apply ra_dropC rfl;exact ra_nil,?_⟩
     refine qM ?_;refine qM ?_;refine wD_nil ?_;refine y1 ?_;refine kB_n ?_;refine kS_n ?_;refine wE_region ?_
     refine yinc ?_;refine yM ?_;refine y3 ?_
     refine⟨N-(i+1),by omega,i+1,v',W+kf.worth,by omega,rfl,?_,rfl,rfl,((hx7.lx (Nat.le_refl _)).trans hx8).ext,?_,fun _=>by omega⟩
     ·rw[hwf,hW,Int.natCast_add,Int.add_mul];simp
     ·rw[ints_rep];exact own'
  ·obtain rfl:i=N:=by omega
   have hE0:timE kerf l pl=0:=by rw[hE,if_neg (fun q=>by have:=hi0 (by omega);omega)]
   refine y4 ?_;refine yf ?_;refine y3 ?_;refine wE_seq ?_;refine yX ?_;refine wE_exit ?_;refine kS_e ?_;refine kS_e ?_;refine kB_e ?_;refine kS_n ?_
   refine y4 ?_;refine yM ?_;refine yM ?_;refine yM ?_;refine yM ?_;refine yM ?_;refine y3 ?_;refine wE_ret ?_
   refine endA_ret (vs:=[v, .int .i64 W, .int .i64 0]) (hx'.log.trans hlg2) rfl ?_
   unfold TimQ
   rw[hTL hE0,hTW hE0,hE0,←hW,List.length_replicate]
   have:=own.slice (by omega)
   obtain⟨a1,c1,rfl⟩:=this.form
   exact⟨a1,c1,rfl,this⟩
 ·have hE:timE kerf l pl=asked kerf l (NZ pl):=by rw[timE,if_neg ha]
  have t1:timL kerf l pl=[]:=by rw[timL,if_neg (by omega)]
  have t2:timW kerf l pl=0:=by rw[timW,if_neg (by omega)]
  refine qM ?_;refine qE ?_;refine qE ?_
  refine qM ?_;refine qM ?_;refine wD_nil ?_;refine y1 ?_;refine kS_n ?_;refine wE_seq ?_;refine y4 ?_
  refine yM ?_;refine yt ?_;refine y3 ?_;refine yY ?_;refine y4 ?_;refine yM ?_
  refine yM ?_;refine yM ?_;refine yM ?_;refine y3 ?_;refine wE_ret ?_;refine kS_r ?_
  refine endA_ret (vs:=[.slice none 0 0, .int .i64 0, .int .i64 (asked kerf l (NZ pl))]) hl1 rfl ?_
  unfold TimQ
  rw[t1,t2,hE]
  exact⟨none,0,rfl, .nil⟩
end Go.A.Pk
end
section
namespace Go.A.Pk
variable {kerf:Int} {ws:List Int} {kl:List Kd}
theorem V_wide(hk:0≤kerf)(a b:Int):V kerf ws kl (a,b)≤V kerf ws kl (a+1,b):=by
 by_cases h:1≤a∧1≤b
 ·have h1:=V_across (ws:=ws) (kl:=kl) hk (a:=a+1) (b:=b) (n:=a) h.1 (by omega) h.2
  have h2:=V_nonneg (ws:=ws) (kl:=kl) hk (a+1-a-kerf,b)
  omega
 ·rw[V_out (p:=(a,b)) h]
  exact V_nonneg hk _
theorem V_high(hk:0≤kerf)(a b:Int):V kerf ws kl (a,b)≤V kerf ws kl (a,b+1):=by
 by_cases h:1≤a∧1≤b
 ·have h1:=V_along (ws:=ws) (kl:=kl) hk (a:=a) (b:=b+1) (n:=b) h.2 (by omega) h.1
  have h2:=V_nonneg (ws:=ws) (kl:=kl) hk (a,b+1-b-kerf)
  omega
 ·rw[V_out (p:=(a,b)) h]
  exact V_nonneg hk _
theorem V_kerf(hk:0≤kerf):∀(n:Nat) (p:Int×Int),sz p≤n→V (kerf+1) ws kl p≤V kerf ws kl p:=by
 intro n
 induction n with
 |zero=>
  intro p hp
  unfold sz at hp
  rw[V_out (by omega)]
  exact V_nonneg hk _
 |succ n ih=>
  intro p hp
  by_cases h:1≤p.1∧1≤p.2
  ·obtain⟨a,ha⟩:=Int.eq_ofNat_of_zero_le (show 0≤p.1 by omega)
   obtain⟨b,hb⟩:=Int.eq_ofNat_of_zero_le (show 0≤p.2 by omega)
   have e:p=((a:Int),(b:Int)):=Prod.ext ha hb
   rw[e]at hp h⊢
   simp only at h
   have hs:sz ((a:Int),(b:Int))=a+b:=by simp[sz]
   rw[hs]at hp
   rw[V_eq (kerf:=kerf+1) (by omega) (by omega) (by omega),V_eq hk (by omega) (by omega)]
   refine foldM_le foldM_ge.1 fun x hx=> ?_
   have hlt:=cut_lt (kerf:=kerf+1) (by omega) hx
   refine Int.le_trans ?_ (foldM_ge.2 x hx)
   have h1:=ih (oneB x a b) (by omega)
   have h2:=ih (twoB (kerf+1) x a b) (by omega)
   have h3:V kerf ws kl (twoB (kerf+1) x a b)≤V kerf ws kl (twoB kerf x a b):=by
    rcases cuts_of hx with⟨e3,_,_⟩|⟨e4,_,_⟩
    ·simp only[twoB,e3,if_true]
     have:=V_wide (ws:=ws) (kl:=kl) hk ((a:Int)-x.2-(kerf+1)) b
     rw[show(a:Int)-x.2-(kerf+1)+1=(a:Int)-x.2-kerf by omega]at this
     exact this
    ·have n3:¬x.1=3:=by omega
     simp only[twoB,if_neg n3]
     have:=V_high (ws:=ws) (kl:=kl) hk a ((b:Int)-x.2-(kerf+1))
     rw[show(b:Int)-x.2-(kerf+1)+1=(b:Int)-x.2-kerf by omega]at this
     exact this
   omega
  ·rw[V_out h]
   exact V_nonneg hk _
theorem chk_kerf{l:List Kd}(hc:chk kerf l=0)(h:0<kerf):chk (kerf-1) l=0:=by
 rw[chk_iff]at hc⊢
 exact⟨hc.1,by omega,hc.2.2⟩
theorem best_kerf{l:List Kd}(hc:chk kerf l=0)(h:0<kerf){w ht:Int}(hb:OnB w ht):bestV kerf l w ht≤bestV (kerf-1) l w ht:=by
 obtain⟨⟨h3,_⟩,h4,_⟩:=hb
 rw[bestV_eq (by omega) h3 h4,bestV_eq (by omega) h3 h4]
 have:=V_kerf (kerf:=kerf-1) (ws:=l.map (·.worth)) (kl:=l) (by omega) _ (w,ht) (Nat.le_refl _)
 rw[show kerf-1+1=kerf by omega]at this
 exact this
theorem found_app{l m:List Kd}{a b:Int}:∀i,i≤l.length→found (l++m) a b i=found l a b i
 |0,_=>rfl
 |i+1,h=>by
  have ih:=found_app (l:=l) (m:=m) (a:=a) (b:=b) i (by omega)
  have hb:=found_bd l a b i
  unfold found
  have hg:(l++m)[i]? =l[i]? :=List.getElem?_append_left (by omega)
  rw[ih,hg]
  have hw:found l a b i<0∨wAt (l++m) (found l a b i)=wAt l (found l a b i):=by
   by_cases h0:found l a b i<0
   ·exact .inl h0
   ·right
    unfold wAt
    rw[List.getElem?_append_left (by omega)]
  cases l[i]? with
  |none=>rfl
  |some k=>
   dsimp only
   rcases hw with hw|hw
   ·simp only[hw,true_or]
   ·rw[hw]
theorem tim_more{l:List Kd}{k:Kd}{pl:List Nat}{kerf:Int}(hE:timE kerf l pl=0)(hc:chk kerf (l++[k])=0)(hc0:chk kerf l=0):timE kerf (l++[k]) pl=0∧timW kerf (l++[k]) pl≤timW kerf l pl:=by
 have hN:NZ pl:=by
  by_cases hN:NZ pl
  ·exact hN
  ·have:asked kerf l (NZ pl)=1:=by unfold asked;rw[if_pos hc0,if_neg hN]
   unfold timE at hE
   rw[if_neg (by omega)]at hE
   omega
 have ha:∀l',chk kerf l'=0→asked kerf l' (NZ pl)=0:=fun l' h=>by unfold asked;rw[if_pos h,if_pos hN]
 have hF:timF l pl=0:=by unfold timE at hE;rw[if_pos (ha _ hc0)]at hE;exact hE
 have key:boxN pl≠0→0≤timB l pl∧0≤timB (l++[k]) pl∧wAt (l++[k]) (timB (l++[k]) pl)≤wAt l (timB l pl):=fun h0=>by
  have h1:0≤timB l pl:=by
   unfold timF at hF
   by_cases hn:timB l pl<0
   ·rw[if_pos ⟨h0,hn⟩]at hF;omega
   ·omega
  have e:timB (l++[k]) pl=if Large k (boxD pl).1 (boxD pl).2∧(timB l pl<0∨k.worth<wAt (l++[k]) (timB l pl))then(l.length:Int)else timB l pl:=by
   unfold timB
   rw[List.length_append,List.length_singleton]
   rw[found,found_app l.length (Nat.le_refl _)]
   have:(l++[k])[l.length]? =some k:=by simp
   rw[this]
  have hb:=found_bd l (boxD pl).1 (boxD pl).2 l.length
  have hw:wAt (l++[k]) (timB l pl)=wAt l (timB l pl):=by
   unfold wAt
   rw[List.getElem?_append_left (by unfold timB at h1⊢;omega)]
  rw[e]
  split
  ·rename_i hq
   refine⟨h1,by omega,?_⟩
   have:wAt (l++[k]) (l.length:Int)=k.worth:=by unfold wAt;rw[Int.toNat_natCast];simp
   rw[this]
   rcases hq.2 with hq|hq
   ·omega
   ·rw[hw]at hq;omega
  ·exact⟨h1,h1,by rw[hw];exact Int.le_refl _⟩
 have hF2:timF (l++[k]) pl=0:=by
  unfold timF
  by_cases h0:boxN pl≠0
  ·rw[if_neg (by have:=key h0;omega)]
  ·rw[if_neg (fun q=>h0 q.1)]
 have hE2:timE kerf (l++[k]) pl=0:=by unfold timE;rw[if_pos (ha _ hc)];exact hF2
 refine⟨hE2,?_⟩
 unfold timW
 rw[if_pos hE,if_pos hE2]
 by_cases h0:boxN pl=0
 ·rw[h0];simp
 ·exact Int.mul_le_mul_of_nonneg_left (key h0).2.2 (by omega)
end Go.A.Pk
end
section
set_option maxRecDepth 100000
namespace Go.A.Pk
variable {T:Nat→Option AFunc}
structure FnsKf (T:Nat→Option AFunc):Prop extends FnsW T,FnsH T,FnsTi T where
 f17:T 17=some f17
 c19:∀{h:Heap},Rdy h→Pu T 19 [] h (.bool true)
def tail17:ACode:=cR (cR (cR (cR (codeOf f17))))
theorem us_take{pl:List Nat}(hl:pl.length=8):ltake 8 (ldrop 0 (us pl))=us pl∧Nat.beq (llen (us pl)) 8=true:=by
 have hu:(us pl).length=8:=by rw[us,List.length_map,hl]
 exact⟨by rw[ltake_eq,ldrop_eq,List.drop_zero,List.take_of_length_le (by omega)],by rw[llen_eq,hu];rfl⟩
set_option maxHeartbeats 16000000 in
theorem kerf_tail(F:FnsKf T){base p5 p8 p9:Nat}{H:Heap}(hw:WF H)(hlog:H.log=[])(hbase:base≤H.next){a:Option Addr}{c:Nat}{l:List Kd}{kerf:Int}{pl:List Nat}{k:Kd}(g5:H.get p5=some (.cells [.slice a l.length c, .int .i64 kerf] true 1))(g8:H.get p8=some (.cells (us pl) true 1))(g9:H.get p9=some (.cells (kc k) true 1))
 (hs:SliceOf H 5 (.slice a l.length c) l.length (kcs l))(hn:l.length≤16)(hl:pl.length=8)(hp:∀x∈pl,x<18446744073709551616)(e:Env)(h5:geT e 5=some (.pointer (some ⟨p5,0,none⟩)))(h8:geT e 8=some (.pointer (some ⟨p8,0,none⟩)))(h9:geT e 9=some (.pointer (some ⟨p9,0,none⟩))):
 WE T base none tail17 (endP [(10,none)] (.bool true)) e [] H:=by
 have hpA:=F.toFnsA.p
 obtain⟨u1,u2⟩:=us_take hl
 have k5:=WF.get_lt hw g5
 have k8:=WF.get_lt hw g8
 have k9:=WF.get_lt hw g9
 unfold tail17
 simp only[cR,codeOf,f17]
 refine y4 ?_
 refine wO_val (a_loadN (l:=[.slice a l.length c, .int .i64 kerf]) h5 g5 (by exact rfl) (by exact rfl)) ?_
 refine wO_val (a_loadN (l:=us pl) (by exact h8) g8 u1 u2) ?_
 refine yC ?_
 refine FW.al (timber69 F.toFnsTi (.of hw) (hs.log []) kerf (by omega) hl hp) (fun v h' m q=>TimQ.log v h' m q) ?_
 rintro _ h2 hx2 ⟨a2,c2,rfl,q2⟩
 have w2:=hx2.wf hw
 have G5:=(hx2.old _ k5).trans g5
 have G8:=(hx2.old _ k8).trans g8
 have G9:=(hx2.old _ k9).trans g9
 have hN2:=hx2.next
 refine yM ?_
 refine yE ?_
 refine yE ?_
 refine yE ?_
 refine yM ?_
 refine yM ?_
 refine yM ?_
 refine wO_nil ?_
 refine kR_k (e2:=[(5, .pointer (some ⟨p5,0,none⟩)),(8, .pointer (some ⟨p8,0,none⟩)),(9, .pointer (some ⟨p9,0,none⟩)),(16, .slice a2 (timL kerf l pl).length c2),(17, .int .i64 (timW kerf l pl)),(18, .int .i64 (timE kerf l pl))]) (by simp only[keepE,dstE,geT,cond_true,cond_false,Nat.beq,h5,h8,h9]) ?_
 clear h5 h8 h9
 refine kS_n ?_;refine y4 ?_;refine yN ?_;refine yN ?_
 refine yC ?_
 refine FW.al (al_mono (with60 F.toFnsH (.of w2) ((hs.ext hx2).log []) kerf (by omega) k) fun v h' q=>orErr_change q) (fun v h' m q=>SawQ.log v h' m q) ?_
 rintro _ h3 hx3 ⟨s3,rfl,q3⟩
 have w3:=hx3.wf w2
 have E5:=(hx3.old _ (by omega)).trans G5
 have E8:=(hx3.old _ (by omega)).trans G8
 have hN3:=hx3.next
 have hlg3:h3.log=[]:=(hx3.log.trans hx2.log).trans hlog
 clear G5 G8 G9 g5 g8 g9
 by_cases hE:timE kerf l pl=0
 ·have hc:chk kerf l=0:=by
   unfold timE at hE
   by_cases ha:asked kerf l (NZ pl)=0
   ·exact(asked_zero ha).1
   ·rw[if_neg ha]at hE;exact absurd hE ha
  by_cases hj:chk kerf (l++[k])=0
  ·simp only[hc,hj, ↓reduceIte]at q3⊢
   obtain⟨a3,c3,rfl⟩:=q3.form
   obtain⟨hE2,hW2⟩:=tim_more hE hj hc
   have hlen:(timL kerf l pl).length=boxN pl:=by rw[timL,if_pos hE,List.length_replicate]
   rw[hlen,hE]
   generalize timW kerf l pl=W1 at*
   refine yM ?_;refine yE ?_;refine yE ?_;refine wO_val a_new ?_
   refine yS ?_;refine yM ?_;refine y3 ?_;refine wE_seq ?_;refine y4 ?_;refine yM ?_;refine yf ?_;refine yM ?_;refine yO ?_
   refine yM ?_;refine yO ?_;refine yf ?_;refine yU ?_;refine y3 ?_;refine yX ?_
   refine wE_skip ?_;refine kS_n ?_;refine y4 ?_;refine yN ?_
   refine wO_val (a_loadN (by exact rfl) (by(simp(disch:=first|omega|(simp only[z1,z2];omega))only[z3,z4,z5,z6,z7,z1,z2, *];exact rfl)) (by assumption) (by assumption)) ?_
   refine WO.gen ?_
   intro hA hAe
   have hxB:Ext h3 hA:=by rw[hAe];exact((Ext.refl _).push _).wr (by omega) (by omega)
   have hlA:hA.log=[]:=hxB.log.trans hlg3
   have hwA:=hxB.wf w3
   have A8:=(hxB.old _ (by omega)).trans E8
   have qA:=q3.ext hxB
   clear hAe
   refine yC ?_
   refine FW.al (timber69 F.toFnsTi (.of hwA) (qA.log []) kerf (by rw[List.length_append];simp;omega) hl hp) (fun v h' m q=>TimQ.log v h' m q) ?_
   rintro _ h4 hx4 ⟨a4,c4,rfl,q4⟩
   have w4:=hx4.wf hwA
   have kA:=hxB.next
   have B8:=(hx4.old _ (by omega)).trans A8
   have hlg4:h4.log=[]:=hx4.log.trans hlA
   rw[hE2]
   generalize timW kerf (l++[k]) pl=W2 at*
   clear A8 E8 q4
   refine yM ?_;refine yE ?_;refine yE ?_;refine yE ?_;refine yM ?_;refine yM ?_;refine yM ?_;refine y3 ?_;refine y4 ?_
   refine yC ?_
   refine FW.pu (F.c19 (.of w4)) ?_
   refine yM ?_;refine yO ?_;refine yM ?_;refine yO ?_;refine yt ?_;refine yT ?_;refine yM ?_;refine yO ?_;refine yM ?_
   refine yO ?_;refine yM ?_;refine yO ?_;refine yt ?_;refine yT ?_;refine yM ?_;refine yO ?_;refine yM ?_;refine yO ?_
   refine yD ?_;refine yO ?_;refine wO_val (a_loadN (by exact rfl) (by assumption) (by assumption) (by assumption)) ?_;refine yO ?_
   refine yC ?_
   refine FW.al (boxes72 F.toFnsZ (.of w4) hl hp) (fun v h' m q=>BoxQ.log v h' m q) ?_
   rintro _ h6 hx6 ⟨a6,c6,rfl,q6⟩
   refine yO ?_;refine yD ?_;refine yO ?_;refine yt ?_;refine yT ?_;refine yM ?_;refine y3 ?_;refine wE_ret ?_
   exact endP_ret (hx6.log.trans hlg4) rfl rfl
  ·simp only[hc,hj, ↓reduceIte]at q3⊢
   obtain⟨a3,c3,rfl⟩:=q3.form
   rw[hE]
   have hxB:=((Ext.refl h3).push (.cells [.slice none 0 0, .int .i64 0] true 1)).wr (base:=base) (x:=h3.next) (o:= .cells [.slice a3 (List.length ([]:List Kd)) c3, .int .i64 0] true 1) (Nat.le_refl _) (by omega)
   refine yM ?_;refine yE ?_;refine yE ?_;refine wO_val a_new ?_
   refine yS ?_;refine yM ?_;refine y3 ?_;refine wE_seq ?_;refine y4 ?_;refine yM ?_;refine yf ?_;refine yM ?_;refine yO ?_
   refine yM ?_;refine yO ?_;refine yt ?_;refine yU ?_;refine y3 ?_;refine yY ?_;refine y4 ?_
   refine yC ?_
   refine FW.pu (F.c19 (.of (hxB.wf w3))) ?_
   refine yM ?_;refine y3 ?_;refine wE_ret ?_;refine kS_r ?_
   exact endP_ret (hxB.log.trans hlg3) rfl rfl
 ·have hxB:=fun o=>((Ext.refl h3).push (.cells [.slice none 0 0, .int .i64 0] true 1)).wr (base:=base) (x:=h3.next) (o:=o) (Nat.le_refl _) (by omega)
  generalize timE kerf l pl=E1 at*
  obtain⟨a3,c3,rfl⟩:=q3.form
  refine yM ?_;refine yE ?_;refine yE ?_;refine wO_val a_new ?_
  refine yS ?_;refine yM ?_;refine y3 ?_;refine wE_seq ?_;refine y4 ?_;refine yM ?_;refine yt ?_;refine yM ?_;refine yP ?_
  refine yP ?_;refine yT ?_;refine y3 ?_;refine yY ?_;refine y4 ?_
  refine WO.gen ?_
  intro hA hAe
  have hxB:Ext h3 hA:=by rw[hAe];exact hxB _
  clear hAe
  refine yC ?_
  refine FW.pu (F.c19 (.of (hxB.wf w3))) ?_
  refine yM ?_;refine y3 ?_;refine wE_ret ?_;refine kS_r ?_
  exact endP_ret (hxB.log.trans hlg3) rfl rfl
set_option maxHeartbeats 16000000 in
theorem law17(F:FnsKf T){h:Heap}(hr:Rdy h){a:Option Addr}{n c:Nat}{l:List Kd}(hs:SliceOf h 5 (.slice a n c) n (kcs l))(kerf w ht:Int){pl:List Nat}(hl:pl.length=8)(hp:∀x∈pl,x<18446744073709551616)(k:Kd):
 Pu T 17 [.agg #[.slice a n c, .int .i64 kerf], .int .i64 w, .int .i64 ht, .agg (us pl).toArray, .agg (kc k).toArray] h (.bool true):=by
 have hpA:=F.toFnsA.p
 refine .of hpA F.f17 hr rfl ?_
 have hx:Ext h (((h.push (.cells [.slice a n c, .int .i64 kerf] true 1)).push (.cells (us pl) true 1)).push (.cells (kc k) true 1)):=(((Ext.refl h).push _).push _).push _
 obtain rfl:n=l.length:=by have:=hs.len;rw[kcs_length]at this;omega
 refine y4 ?_
 refine wO_val (a_box (vs:=[.slice a l.length c, .int .i64 kerf]) (by exact rfl) (by exact rfl)) ?_
 refine wO_val (a_box (vs:=us pl) (by exact rfl) (by show(us pl).toArray.toList=us pl;simp)) ?_
 refine wO_val (a_box (vs:=kc k) (by exact rfl) (by exact rfl)) ?_
 refine yM ?_;refine y3 ?_;refine wE_seq ?_;refine y4 ?_
 refine yN ?_
 refine yC ?_
 refine FW.pu (few18 F.toFnsE.toFnsC (.of (hx.wf hr.wf)) kerf) ?_
 by_cases hfew:l.length≤16
 ·have hn:l.length<1000000:=by omega
  rw[decide_eq_true hfew]
  refine yA ?_;refine y3 ?_;refine yX ?_;refine wE_skip ?_;refine kS_n ?_;refine y4 ?_
  refine yN ?_;refine yM ?_;refine yM ?_
  refine yC ?_
  have C1:=best32 F.toFnsW (.of (hx.wf hr.wf)) ((hs.ext hx).log []) kerf hn w ht
  have TAIL:=kerf_tail F (base:=h.next) (p5:=h.next) (p8:=h.next+1) (p9:=h.next+2) (hx.wf hr.wf) (hx.log.trans hr.log) hx.next (k:=k) (by(simp(disch:=first|omega|(simp only[z1,z2];omega))only[z3,z4,z5,z6,z7,z1,z2, *];exact rfl)) (by(simp(disch:=first|omega|(simp only[z1,z2];omega)|(simp only[z1,z2];done)|fail)only[z8,z4,z5,z9,z7,z1,z2, *];done)) (by(simp(disch:=first|omega|(simp only[z1,z2];omega)|(simp only[z1,z2];done)|fail)only[z8,z4,z5,z9,z7,z1,z2, *];done)) (hs.ext hx) hfew hl hp
  unfold tail17 at TAIL
  simp only[cR,codeOf,f17]at TAIL
  by_cases hA:asked kerf l (OnB w ht)=0
  ·obtain⟨hc,hb⟩:=asked_zero hA
   rw[bestR_ok hA]at C1
   refine FW.pu C1 ?_
   by_cases hk:0<kerf
   ·have C2:=fun {h'} (hr':Rdy h') (hs':SliceOf h' 5 (.slice a l.length c) l.length (kcs l))=>best32 F.toFnsW hr' hs' (kerf-1) hn w ht
    have hk2:=(chk_iff.1 hc).2.1
    rw[bestR_ok (asked_ok (chk_kerf hc hk) hb)]at C2
    have hle:=best_kerf hc hk hb
    generalize bestV kerf l w ht=B1 at*
    generalize bestV (kerf-1) l w ht=B2 at*
    clear TAIL
    refine yM ?_;refine yE ?_;refine yE ?_;refine yM ?_;refine yM ?_;refine y3 ?_;refine wE_seq ?_
    refine y4 ?_;refine yM ?_;refine yt ?_;refine yM ?_;refine yO ?_;refine yF ?_;refine yO ?_
    refine yL ?_;refine yO ?_;refine yt ?_
    refine yT ?_;refine y3 ?_;refine yY ?_;refine y4 ?_
    refine yN ?_;refine wO_val a_new ?_
    refine yS ?_;refine y3 ?_;refine y4 ?_;refine yF ?_
    refine yL ?_;refine ysub ?_
    refine yF ?_
    refine yS ?_;refine y3 ?_;refine y4 ?_
    refine yN ?_;refine yM ?_
    refine yM ?_
    refine WO.gen ?_
    intro hA' hAe
    have hxA:Ext h hA':=by rw[hAe];exact((hx.push _).wr (by(simp only[z1,z2];omega)) (by(simp only[z1,z2];omega))).wr (by(simp only[z1,z2];omega)) (by(simp only[z1,z2];omega))
    have g5:hA'.get h.next=some (.cells [.slice a l.length c, .int .i64 kerf] true 1):=by rw[hAe];(simp(disch:=first|omega|(simp only[z1,z2];omega))only[z3,z4,z5,z6,z7,z1,z2, *];done)
    have g8:hA'.get (h.next+1)=some (.cells (us pl) true 1):=by rw[hAe];(simp(disch:=first|omega|(simp only[z1,z2];omega)|(simp only[z1,z2];done)|fail)only[z8,z4,z5,z9,z7,z1,z2, *];done)
    have g9:hA'.get (h.next+2)=some (.cells (kc k) true 1):=by rw[hAe];(simp(disch:=first|omega|(simp only[z1,z2];omega)|(simp only[z1,z2];done)|fail)only[z8,z4,z5,z9,z7,z1,z2, *];done)
    have gt:hA'.get (h.next+3)=some (.cells [.slice a l.length c, .int .i64 (kerf-1)] true 1):=by rw[hAe];(simp(disch:=first|omega|(simp only[z1,z2];omega)|(simp only[z1,z2];done)|fail)only[z8,z4,z5,z9,z7,z1,z2, *];exact rfl)
    have hwA:=hxA.wf hr.wf
    have TAIL:=kerf_tail F (base:=h.next) (p5:=h.next) (p8:=h.next+1) (p9:=h.next+2) hwA (hxA.log.trans hr.log) hxA.next (k:=k) g5 g8 g9 (hs.ext hxA) hfew hl hp
    unfold tail17 at TAIL
    simp only[cR,codeOf,f17]at TAIL
    clear hAe
    skip
    refine yC ?_
    refine FW.pu (C2 (.of hwA) ((hs.ext hxA).log [])) ?_
    refine yM ?_;refine yE ?_;refine yE ?_;refine yM ?_;refine yM ?_;refine y3 ?_;refine y4 ?_;refine yM ?_;refine yf ?_;refine yM ?_;refine yO ?_;refine yM ?_;refine yO ?_;refine yM ?_;refine yO ?_
    refine yf ?_;refine yU ?_;refine y3 ?_;refine yX ?_;refine wE_skip ?_;refine kS_n ?_;exact TAIL _ rfl rfl rfl
   ·generalize bestV kerf l w ht=B1 at*
    refine yM ?_;refine yE ?_;refine yE ?_;refine yM ?_;refine yM ?_;refine y3 ?_;refine wE_seq ?_
    refine y4 ?_;refine yM ?_;refine yt ?_;refine yM ?_;refine yO ?_;refine yF ?_;refine yO ?_
    refine yL ?_;refine yO ?_;refine yf ?_
    refine yT ?_;refine y3 ?_;refine yX ?_;refine wE_skip ?_;refine kS_n ?_;exact TAIL _ rfl rfl rfl
  ·rw[bestR_no hA]at C1
   refine FW.pu C1 ?_
   generalize asked kerf l (OnB w ht)=E0 at*
   refine yM ?_;refine yE ?_;refine yE ?_;refine yM ?_;refine yM ?_;refine y3 ?_;refine wE_seq ?_
   refine y4 ?_;refine yM ?_;refine yf ?_;refine yM ?_;refine yP ?_;refine yP ?_;refine yP ?_
   refine yU ?_;refine y3 ?_;refine yX ?_;refine wE_skip ?_;refine kS_n ?_;exact TAIL _ rfl rfl rfl
 ·rw[decide_eq_false hfew]
  refine yA ?_;refine y3 ?_;refine yY ?_;refine y4 ?_
  refine yC ?_
  refine FW.pu (F.c19 (.of (hx.wf hr.wf))) ?_
  refine yM ?_;refine y3 ?_;refine wE_ret ?_;refine kS_r ?_
  exact endP_ret (hx.log.trans hr.log) rfl rfl
end Go.A.Pk
end
section
set_option maxRecDepth 100000
open Go Go.A Go.Proofs Go.RowKit
namespace Go.A.Pk
theorem c17:compF Tryz.prog Tryz.f17 [[1,2,5,8,9],[1,2,5,8,9,26],[10],[1,2,5,8,9,11,12],[1,2,5,8,9,11,41],[1,2,5,8,9,11,13],[1,2,5,8,9,11,13],[5,8,9,11,14,15],[5,8,9,60],[10],[5,8,9,16,17,18],[8,16,17,18,19,20],[8,16,17,19,79],[10],[8,16,17,22,23],[10]]=some f17:=by kernel_rfl
theorem c69:compF Tryz.prog Tryz.f69 [[2,3,4,5],[3,4,5,6,7],[3,4,5,6,7,23],[4,5,6],[4,5,7,26,27,28],[4,5,7,26,27,28,29],[4,5,7,9,26,27,28],[4,5,7,9,10,26,27,28],[4,5,7,9,10,26,27,28,36,37,38],[4,5,7,9,10,26,27,28,36,37,38,39],[4,5,7,9,10,11,12,26,27,28,36,37,38],[4,5,7,9,10,11,26,27,28,36,37,38,63],[4,5,7,9,10,26,27,28,36,37,38],[4,5,7,9,10,26,27,28,36,37,38],[4,5,7,10,26,27,28,67],[4,5,6],[4,5,7,26,27,28],[4,5,7,26,27,28],[4,5,6]]=some f69:=by kernel_rfl
theorem c72:compF Tryz.prog Tryz.f72 [[1],[1,3],[1,3,4,5],[3,4,5,13,14],[3,4,5,13,14,15],[3,4,5,6,7,13,14],[3,4,5,6,7,13,14,19],[3,4,6,13,14],[3,4,5,6,13,14],[3,4,5,6,13,14,25],[3,4,5,13,14],[3,4,5,13,14],[3,4,5,29],[2],[3,4,5,8,9],[3,4,5,8,9,32],[3,4,5,8,9,32,33],[3,4,5,8,9,10,32],[3,4,5,8,9,10,32,39],[3,4,5,8,9,32,44,45],[3,4,5,8,9,32,44,45,46],[3,4,5,8,9,11,12,32,44,45],[3,4,5,8,9,32,44,45],[3,4,5,8,9,32,44,45],[3,4,5,8,9,32],[2]]=some f72:=by kernel_rfl
theorem c120:compF Tryz.prog Tryz.f120 [[2,3],[4]]=some f120:=by kernel_rfl
theorem c121:compF Tryz.prog Tryz.f121 [[0,1],[0,1,10],[0,1],[0,5,6],[0,6,26],[0,6],[0,7],[7,8],[7,8,37],[7,8],[4]]=some f121:=by kernel_rfl
theorem c148:compF Tryz.prog Tryz.f148 [[0,1],[6,7],[4,5],[8,9],[4,5]]=some f148:=by kernel_rfl
theorem c175:compF Tryz.prog Tryz.f175 [[0,1],[0,1,6],[0,1,6,7],[0,1,6,7,8],[0,1,6,7,8,9],[0,1,6,7,8,9,10],[0,1,6,7,9,11],[0,1,6,7,9,11,12],[0,1,6,7,9,12,13],[0,1,7,9,12,13],[0,1,4],[4,5]]=some f175:=by kernel_rfl
def tree17:Tr:=(.node (.node (.node (.node (.node (.node .nil 17 f17 .nil) 18 f18 .nil) 19 (.prim (pConst (.bool true))) (.node .nil 32 f32 .nil)) 39 f39 (.node (.node (.node .nil 59 f59 .nil) 60 f60 .nil) 61 f61 (.node .nil 66 f66 .nil))) 69 f69 (.node (.node (.node (.node .nil 72 f72 .nil) 75 f75 .nil) 76 f76 (.node .nil 77 f77 .nil)) 83 f83 (.node (.node .nil 94 f94 .nil) 96 f96 (.node .nil 97 f97 .nil)))) 104 f104 (.node (.node (.node (.node (.node .nil 105 f105 .nil) 106 f106 .nil) 113 f113 (.node .nil 114 f114 .nil)) 117 f117 (.node (.node .nil 118 f118 .nil) 119 f119 (.node .nil 120 f120 .nil))) 121 f121 (.node (.node (.node (.node .nil 122 f122 .nil) 136 f136 .nil) 140 f140 (.node .nil 141 f141 .nil)) 147 f147 (.node (.node .nil 148 f148 .nil) 149 f149 (.node .nil 175 f175 .nil)))))
def T17:Nat→Option AFunc:=tree17.get
theorem all17:tree17.all (Entry Tryz.prog):=by
 unfold tree17
 exact(Tr.all_node (Tr.all_node (Tr.all_node (Tr.all_node (Tr.all_node (Tr.all_node Tr.all_nil (.of Tryz.func17 c17) Tr.all_nil) (.of Tryz.func18 c18) Tr.all_nil) ok19 (Tr.all_node Tr.all_nil (.of Tryz.func32 c32) Tr.all_nil)) (.of Tryz.func39 c39) (Tr.all_node (Tr.all_node (Tr.all_node Tr.all_nil (.of Tryz.func59 c59) Tr.all_nil) (.of Tryz.func60 c60) Tr.all_nil) (.of Tryz.func61 c61) (Tr.all_node Tr.all_nil (.of Tryz.func66 c66) Tr.all_nil))) (.of Tryz.func69 c69) (Tr.all_node (Tr.all_node (Tr.all_node (Tr.all_node Tr.all_nil (.of Tryz.func72 c72) Tr.all_nil) (.of Tryz.func75 c75) Tr.all_nil) (.of Tryz.func76 c76) (Tr.all_node Tr.all_nil (.of Tryz.func77 c77) Tr.all_nil)) (.of Tryz.func83 c83) (Tr.all_node (Tr.all_node Tr.all_nil (.of Tryz.func94 c94) Tr.all_nil) (.of Tryz.func96 c96) (Tr.all_node Tr.all_nil (.of Tryz.func97 c97) Tr.all_nil)))) (.of Tryz.func104 c104) (Tr.all_node (Tr.all_node (Tr.all_node (Tr.all_node (Tr.all_node Tr.all_nil (.of Tryz.func105 c105) Tr.all_nil) (.of Tryz.func106 c106) Tr.all_nil) (.of Tryz.func113 c113) (Tr.all_node Tr.all_nil (.of Tryz.func114 c114) Tr.all_nil)) (.of Tryz.func117 c117) (Tr.all_node (Tr.all_node Tr.all_nil (.of Tryz.func118 c118) Tr.all_nil) (.of Tryz.func119 c119) (Tr.all_node Tr.all_nil (.of Tryz.func120 c120) Tr.all_nil))) (.of Tryz.func121 c121) (Tr.all_node (Tr.all_node (Tr.all_node (Tr.all_node Tr.all_nil (.of Tryz.func122 c122) Tr.all_nil) (.of Tryz.func136 c136) Tr.all_nil) (.of Tryz.func140 c140) (Tr.all_node Tr.all_nil (.of Tryz.func141 c141) Tr.all_nil)) (.of Tryz.func147 c147) (Tr.all_node (Tr.all_node Tr.all_nil (.of Tryz.func148 c148) Tr.all_nil) (.of Tryz.func149 c149) (Tr.all_node Tr.all_nil (.of Tryz.func175 c175) Tr.all_nil)))))
theorem sound17:SoundT Tryz.prog T17:=soundT_of (by kernel_rfl) all17
theorem fnsA17:FnsA T17:={p:=sound17.primAS,f77:=by kernel_rfl,f117:=by kernel_rfl,f119:=by kernel_rfl,f147:=by kernel_rfl,f118:=by kernel_rfl,f66:=by kernel_rfl}
theorem fnsC17:FnsC T17:={p:=sound17.primAS,f18:=by kernel_rfl,f77:=by kernel_rfl,f97:=by kernel_rfl,f122:=by kernel_rfl,f149:=by kernel_rfl}
theorem fnsE17:FnsE T17:={fnsA17,fnsC17 with f75:=by kernel_rfl,f96:=by kernel_rfl,f113:=by kernel_rfl}
theorem fnsV17:FnsV T17:={p:=sound17.primAS,f94:=by kernel_rfl,f104:=by kernel_rfl,f105:=by kernel_rfl,f106:=by kernel_rfl,f136:=by kernel_rfl,f140:=by kernel_rfl,f141:=by kernel_rfl,f83:=by kernel_rfl}
theorem fnsW17:FnsW T17:={fnsE17,fnsV17 with f76:=by kernel_rfl,f32:=by kernel_rfl}
theorem pu19K{h:Heap}:Pu T17 19 [] h (.bool true):= .prim (p:=pConst (.bool true)) (by kernel_rfl) rfl ⟨rfl,rfl⟩
theorem fnsH17:FnsH T17:={fnsE17 with f59:=by kernel_rfl,f60:=by kernel_rfl,f61:=by kernel_rfl,f114:=by kernel_rfl,f39:=by kernel_rfl}
theorem fnsK17:FnsK T17:={p:=sound17.primAS,f121:=by kernel_rfl,f148:=by kernel_rfl,f175:=by kernel_rfl}
theorem fnsZ17:FnsZ T17:={fnsK17 with f72:=by kernel_rfl}
theorem fnsTi17:FnsTi T17:={fnsE17,fnsZ17 with f69:=by kernel_rfl,f120:=by kernel_rfl}
theorem fnsKf:FnsKf T17:={fnsW17,fnsH17,fnsTi17 with f17:=by kernel_rfl,c19:=fun _=>pu19K}
theorem noRef_us(pl:List Nat):noRef (.agg (us pl).toArray)=true:=by
 have:scalL (us pl)=true:=by
  induction pl with
  |nil=>rfl
  |cons p pl ih=>exact ih
 simp[noRef,flatL,flat,this,List.toList_toArray]
theorem kerf_calls{W:World}{sl:Value}{l:List Kd}(hk:KindsAt W sl l)(kerf w ht:Int){pl:List Nat}(hl:pl.length=8)(hp:∀x∈pl,x<18446744073709551616)(k:Kd):Calls Tryz.prog 17 #[.agg #[sl, .int .i64 kerf], .int .i64 w, .int .i64 ht, .agg (us pl).toArray, .agg (kc k).toArray] W fun e W'=>e= .returned (.bool true)∧Below W.heap.size W W':=by
 obtain⟨h,μ,u,n,c,a,L⟩:=hk.laid
 obtain⟨r,h',⟨m,hm⟩,rfl,rfl⟩:=law17 fnsKf L.rdy L.at' kerf w ht hl hp k
 have hrun:=hm m (Nat.le_refl _)
 have hu:VR μ (.slice a n c) sl:=L.form▸L.val
 have ha:LR μ [.agg #[.slice a n c, .int .i64 kerf], .int .i64 w, .int .i64 ht, .agg (us pl).toArray, .agg (kc k).toArray] [.agg #[sl, .int .i64 kerf], .int .i64 w, .int .i64 ht, .agg (us pl).toArray, .agg (kc k).toArray]:=
  .cons (VR.aggL (.cons hu (.cons (.int _ _) .nil))) (.cons (.int _ _) (.cons (.int _ _) (.cons (VR.noRef (noRef_us pl)).1 (.cons (VR.noRef (noRef_kc k)).1 .nil))))
 refine(acall_calls sound17 hrun L.rdy.log (by kernel_rfl) L.rel ha).mono fun e W' hq=> ?_
 obtain⟨μ',q1,q2,q3⟩:=hq
 cases e with
 |returned v'=>
  have hv:VR μ' (.bool true) v':=q1
  cases hv
  exact⟨rfl,St.below q3 L.ro⟩
 |panicked _=>exact q1.elim
 |outgrown=>exact q1.elim
end Go.A.Pk
end
