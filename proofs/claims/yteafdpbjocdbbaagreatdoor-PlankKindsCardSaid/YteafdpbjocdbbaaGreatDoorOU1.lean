/- Walks of functions, plain laws, the table. -/
import Derived.Test.YteafdpbjocdbbaaGreatDoorOU0
import Derived.Test.YteafdpbjocdbbaaGreatDoorOD
import Derived.Test.YteafdpbjocdbbaaGreatDoorOF
set_option linter.all false
section
set_option maxRecDepth 100000
namespace Go.A.Pk
variable {T:Nat→Option AFunc}
theorem a_idxA{base:Nat}{h:Heap}{e:Env}{len size i:Nat}{k:IntKind}{x y:Operand}{cs:Array Value}{v:Value}(hx:ev h e x=some (.agg cs))(hy:ev h e y=some (.int k (i:Nat)))(hi:i<len)(hv:lget cs.toList (i*size)=some v):aop h base e (.idxA len size none x y)=some (.val v h):=by
 have e0:(.int k (i:Nat):Value)= .int k (Int.ofNat i):=rfl
 rw[e0]at hy
 simp only[aop,hx,hy,nblt_of hi,cond_true,hv,bindV]
theorem cuts_mem3{a b j:Nat}(hj:j<a-1):(3,j+1)∈cutsL a b:=List.mem_append_left _ (row_mem hj)
theorem cuts_mem4{a b j:Nat}(hj:j<b-1):(4,j+1)∈cutsL a b:=List.mem_append_right _ (row_mem hj)
set_option maxHeartbeats 8000000 in
theorem cuts141(hp:primAS T)(hf:T 141=some f141){h:Heap}(hr:Rdy h){bx l N lo a b:Nat}{P:List (Nat×Nat)→Heap→Prop}(hN:N≤h.next)(hlo:lo≤h.next)(ha:a<1000)(hb:b<1000)(Y:Yld T lo N l nodeV (cutsL a b) P)
 (hbx:∀d H,P d H→H.get bx=some (.cells [.int .i64 a, .int .i64 b] true 1))(h0:P [] h):
 Gr T 141 [.func (.yield l) #[] #[], .pointer (some ⟨bx,0,none⟩)] h lo fun v h'=>v= .tuple #[]∧P (cutsL a b) h':=by
 refine Gr.of hp hf hlo (fun v h1 h2 _ hn ha q=>unit_gc Y.stable hN hn ha q) ?_
 refine y4 ?_;refine wO_val (a_build (by exact rfl)) ?_;refine yM ?_;refine y3 ?_;refine wE_block ?_
 refine wE_loop (fun k e ds h'=>∃i:Nat,i≤2∧k=2-i∧e=[(0, .func (.yield l) #[] #[]),(1, .pointer (some ⟨bx,0,none⟩)),(6, .agg (List.toArray [.int .u8 3, .int .u8 4])),(7, .int .i64 i)]∧ds=[]∧Lk lo h h'∧P (if i=0 then []else if i=1 then row 3 (a-1)else cutsL a b) h')
  ⟨0,Nat.zero_le _,rfl,rfl,rfl, .refl _ _,h0⟩ ?_
 rintro k e ds h' ⟨i,hi,rfl,rfl,rfl,hk,hP⟩
 obtain rfl|rfl|rfl:i=0∨i=1∨i=2:=by omega
 ·replace hP:P ([]) h':=hP
  refine y4 ?_;refine yt ?_;refine y3 ?_;refine wE_seq ?_;refine yY ?_;refine wE_skip ?_;refine kS_n ?_;refine wE_seq ?_;refine wE_block ?_;refine y4 ?_;refine yM ?_
  refine wO_val (a_idxA (i:=0) (v:= .int .u8 3) (by exact rfl) (by exact rfl) (by omega) rfl) ?_
  refine yM ?_;refine yM ?_;refine y3 ?_;refine y4 ?_;refine yM ?_;refine y3 ?_;refine wE_block ?_
  refine wE_loop (fun k e ds h''=>∃j:Nat,j≤a-1∧k=a-1-j∧e=[(0, .func (.yield l) #[] #[]),(1, .pointer (some ⟨bx,0,none⟩)),(3, .int .i64 (0:Nat)),(4, .int .u8 3),(5, .int .i64 (j+1:Nat)),(6, .agg (List.toArray [.int .u8 3, .int .u8 4])),(7, .int .i64 (0:Nat))]∧ds=[]∧Lk lo h h''∧P (row 3 j) h'')
   ⟨0,Nat.zero_le _,rfl,rfl,rfl,hk,by simpa[row]using hP⟩ ?_
  clear hP hk h'
  rintro k e ds h' ⟨j,hj,rfl,rfl,rfl,hk,hP⟩
  have g2:=hbx _ _ hP
  by_cases hjt:j<a-1
  ·refine wE_seq ?_;refine y4 ?_;refine yM ?_;refine yM ?_;refine wO_val (a_iaddrA (i:=0) (by exact rfl) (by exact rfl) (by omega)) ?_;refine yL ?_;refine yt ?_;refine y3 ?_;refine yY ?_;refine wE_skip ?_;refine kS_n ?_;refine wE_seq ?_;refine wE_block ?_;refine y4 ?_;refine yM ?_;refine yM ?_;refine yM ?_
   refine wO_val (a_build (by exact rfl)) ?_
   refine wO_call (fn:= .yield l) (args:=[nodeV (3,j+1)]) (by rfl) ?_
   refine Y.call hp (cuts_mem3 hjt) (hk.wf hr.wf) (Nat.le_trans hlo hk.next) (Nat.le_trans hN hk.next) hP ?_
   intro h2 hk2 _ hP2
   rw[←row_succ]at hP2
   refine yA ?_;refine y3 ?_;refine yX ?_;refine wE_skip ?_;refine kB_n ?_;refine kS_n ?_;refine wE_region ?_;refine yM ?_
   refine yinc ?_;refine yM ?_;refine y3 ?_
   exact⟨a-1-(j+1),by omega,j+1,by omega,rfl,rfl,rfl,hk.trans hk2,hP2⟩
  ·obtain rfl:j=a-1:=by omega
   refine wE_seq ?_;refine y4 ?_;refine yM ?_;refine yM ?_;refine wO_val (a_iaddrA (i:=0) (by exact rfl) (by exact rfl) (by omega)) ?_;refine yL ?_;refine yf ?_;refine y3 ?_;refine yX ?_;refine wE_exit ?_;refine kS_e ?_;refine kS_e ?_;refine kB_e ?_;refine kB_n ?_;refine kS_n ?_;refine wE_region ?_;refine yinc ?_;refine yM ?_
   refine y3 ?_
   exact⟨2-1,by omega,1,by omega,rfl,rfl,rfl,hk,hP⟩
 ·replace hP:P (row 3 (a-1)) h':=hP
  refine y4 ?_;refine yt ?_;refine y3 ?_;refine wE_seq ?_;refine yY ?_;refine wE_skip ?_;refine kS_n ?_;refine wE_seq ?_;refine wE_block ?_;refine y4 ?_;refine yM ?_
  refine wO_val (a_idxA (i:=1) (v:= .int .u8 4) (by exact rfl) (by exact rfl) (by omega) rfl) ?_
  refine yM ?_;refine yM ?_;refine y3 ?_;refine y4 ?_;refine yM ?_;refine y3 ?_;refine wE_block ?_
  refine wE_loop (fun k e ds h''=>∃j:Nat,j≤b-1∧k=b-1-j∧e=[(0, .func (.yield l) #[] #[]),(1, .pointer (some ⟨bx,0,none⟩)),(3, .int .i64 (1:Nat)),(4, .int .u8 4),(5, .int .i64 (j+1:Nat)),(6, .agg (List.toArray [.int .u8 3, .int .u8 4])),(7, .int .i64 (1:Nat))]∧ds=[]∧Lk lo h h''∧P (row 3 (a-1)++row 4 j) h'')
   ⟨0,Nat.zero_le _,rfl,rfl,rfl,hk,by simpa[row]using hP⟩ ?_
  clear hP hk h'
  rintro k e ds h' ⟨j,hj,rfl,rfl,rfl,hk,hP⟩
  have g2:=hbx _ _ hP
  by_cases hjt:j<b-1
  ·refine wE_seq ?_;refine y4 ?_;refine yM ?_;refine yM ?_;refine wO_val (a_iaddrA (i:=1) (by exact rfl) (by exact rfl) (by omega)) ?_;refine yL ?_;refine yt ?_;refine y3 ?_;refine yY ?_;refine wE_skip ?_;refine kS_n ?_;refine wE_seq ?_;refine wE_block ?_;refine y4 ?_;refine yM ?_;refine yM ?_;refine yM ?_
   refine wO_val (a_build (by exact rfl)) ?_
   refine wO_call (fn:= .yield l) (args:=[nodeV (4,j+1)]) (by rfl) ?_
   refine Y.call hp (cuts_mem4 hjt) (hk.wf hr.wf) (Nat.le_trans hlo hk.next) (Nat.le_trans hN hk.next) hP ?_
   intro h2 hk2 _ hP2
   rw[List.append_assoc,←row_succ]at hP2
   refine yA ?_;refine y3 ?_;refine yX ?_;refine wE_skip ?_;refine kB_n ?_;refine kS_n ?_;refine wE_region ?_;refine yM ?_
   refine yinc ?_;refine yM ?_;refine y3 ?_
   exact⟨b-1-(j+1),by omega,j+1,by omega,rfl,rfl,rfl,hk.trans hk2,hP2⟩
  ·obtain rfl:j=b-1:=by omega
   refine wE_seq ?_;refine y4 ?_;refine yM ?_;refine yM ?_;refine wO_val (a_iaddrA (i:=1) (by exact rfl) (by exact rfl) (by omega)) ?_;refine yL ?_;refine yf ?_;refine y3 ?_;refine yX ?_;refine wE_exit ?_;refine kS_e ?_;refine kS_e ?_;refine kB_e ?_;refine kB_n ?_;refine kS_n ?_;refine wE_region ?_;refine yinc ?_;refine yM ?_
   refine y3 ?_
   exact⟨2-2,by omega,2,by omega,rfl,rfl,rfl,hk,hP⟩
 ·replace hP:P (cutsL a b) h':=hP
  refine y4 ?_;refine yf ?_;refine y3 ?_;refine wE_seq ?_;refine yX ?_;refine wE_exit ?_;refine kS_e ?_;refine kS_e ?_;refine kB_e ?_
  exact endG_end (hk.log (by rw[hr.log];exact LogGe.nil _)) rfl ⟨rfl,hP⟩
def leafAt(k:Kd)(i a b:Nat):List (Nat×Nat):=(if(a:Int)=k.w∧(b:Int)=k.h then [(1,i)]else [])++(if k.turn=true∧(a:Int)=k.h∧(b:Int)=k.w then [(2,i)]else [])
def leavesL(a b:Nat):List Kd→Nat→List (Nat×Nat)
 |[],_=>[]
 |k::l,i=>leafAt k i a b++leavesL a b l (i+1)
theorem leavesL_append(a b:Nat):∀(l m:List Kd) (i:Nat),leavesL a b (l++m) i=leavesL a b l i++leavesL a b m (i+l.length)
 |[],m,i=>by simp[leavesL]
 |k::l,m,i=>by
  simp only[List.cons_append,leavesL,List.append_assoc,List.length_cons]
  rw[leavesL_append a b l m (i+1),show i+1+l.length=i+(l.length+1)by omega]
theorem leaves_succ{a b:Nat}{l:List Kd}{i:Nat}{k:Kd}(h:l[i]? =some k):leavesL a b (l.take (i+1)) 0=leavesL a b (l.take i) 0++leafAt k i a b:=by
 have hi:i<l.length:=(List.getElem?_eq_some_iff.1 h).1
 rw[List.take_add_one,h,leavesL_append]
 simp only[Option.toList,leavesL,List.append_nil,List.length_take,Nat.min_eq_left (Nat.le_of_lt hi),Nat.zero_add]
theorem leaves_mem{a b:Nat}{l:List Kd}{i:Nat}{k:Kd}(h:l[i]? =some k):∀x∈leafAt k i a b,x∈leavesL a b l 0:=by
 intro x hx
 have h1:leavesL a b l 0=leavesL a b (l.take (i+1)) 0++leavesL a b (l.drop (i+1)) (0+(l.take (i+1)).length):=by
  rw[←leavesL_append,List.take_append_drop]
 rw[h1,leaves_succ h]
 simp[hx]
theorem leaves2(x y z u:Int):leavesEq [.i .i64, .i .i64] [.int .i64 x, .int .i64 y] [.int .i64 z, .int .i64 u]=some (decide (x=z∧y=u)):=by
 by_cases h1:x=z
 ·by_cases h2:y=u
  ·subst h1;subst h2
   simp[leavesEq,leafEq]
  ·have e1:(x==z)=true:=by simpa using h1
   have e2:(y==u)=false:=by simpa using h2
   simp only[leavesEq,leafEq, ↓reduceIte,e1,e2,h2,and_false,decide_false]
 ·by_cases h2:y=u
  ·have e1:(x==z)=false:=by simpa using h1
   have e2:(y==u)=true:=by simpa using h2
   simp only[leavesEq,leafEq, ↓reduceIte,e1,e2,h1,false_and,decide_false]
  ·have e1:(x==z)=false:=by simpa using h1
   have e2:(y==u)=false:=by simpa using h2
   simp only[leavesEq,leafEq, ↓reduceIte,e1,e2,h1,false_and,decide_false]
end Go.A.Pk
end
section
set_option maxRecDepth 100000
namespace Go.A.Pk
variable {T:Nat→Option AFunc}
theorem WF.get_lt{h:Heap}(w:WF h){x:Nat}{o:AObj}(hx:h.get x=some o):x<h.next:=by
 refine w.lt x (Classical.byContradiction fun hn=> ?_)
 have:=getO_none hn
 rw[show getO h.objs x=h.get x from rfl,hx]at this
 cases this
set_option maxHeartbeats 8000000 in
theorem leaves140(hp:primAS T)(hf:T 140=some f140){h:Heap}(hr:Rdy h){pb bb px l' N lo a b n c:Nat}{sa:Option Addr}{l:List Kd}{v1 v2:Value}{P:List (Nat×Nat)→Heap→Prop}(hN:N≤h.next)(hlo:lo≤h.next)(hn:n<1000)(Y:Yld T lo N l' nodeV (leavesL a b l 0) P)
 (hpb:h.get pb=some (.cells [.pointer (some ⟨bb,0,none⟩)] true 1))(hbb:h.get bb=some (.cells [.slice sa n c,v1,v2] true 1))
 (hks:∀d H,P d H→SliceOf H 5 (.slice sa n c) n (kcs l))(hpx:∀d H,P d H→H.get px=some (.cells [.int .i64 a, .int .i64 b] true 1))(h0:P [] h):
 Gr T 140 [.func (.yield l') #[] #[], .pointer (some ⟨pb,0,none⟩), .pointer (some ⟨px,0,none⟩)] h lo fun v h'=>v= .tuple #[]∧P (leavesL a b l 0) h':=by
 refine Gr.of hp hf hlo (fun v h1 h2 _ hn ha q=>unit_gc Y.stable hN hn ha q) ?_
 have hlen:l.length=n:=by have:=(hks _ _ h0).len;rw[kcs_length]at this;omega
 refine y4 ?_;refine yL ?_;refine wO_val (a_nilchk (by exact rfl)) ?_;refine yF ?_;refine yF ?_;refine yL ?_;refine yD ?_;refine yM ?_
 refine y3 ?_;refine wE_block ?_
 refine wE_loop (fun k e ds h'=>∃i:Nat,i≤n∧k=n-i∧e=[(0, .func (.yield l') #[] #[]),(2, .pointer (some ⟨px,0,none⟩)),(10, .slice sa n c),(11, .int .i64 n),(12, .int .i64 i)]∧ds=[]∧Lk lo h h'∧P (leavesL a b (l.take i) 0) h')
  ⟨0,Nat.zero_le _,rfl,rfl,rfl, .refl _ _,by simpa[leavesL]using h0⟩ ?_
 clear hpb hbb
 rintro k e ds h' ⟨i,hi,rfl,rfl,rfl,hk,hP⟩
 by_cases hlt:i<n
 ·obtain⟨x,hxl⟩:∃x,l[i]? =some x:=⟨l[i]'(by omega),List.getElem?_eq_getElem (by omega)⟩
  have hsl:=hks _ _ hP
  rcases hsl.inv with⟨_,_,hz,_⟩|⟨b0,o0,cap,hv,s,hcap⟩
  ·omega
  ·cases hv
   obtain⟨vs,own,t0,g5,g6⟩:=slice_elem s hxl
   have hpx':=hpx _ _ hP
   refine y4 ?_;refine yt ?_;refine y3 ?_;refine wE_seq ?_;refine yY ?_;refine wE_skip ?_;refine kS_n ?_;refine wE_seq ?_;refine wE_block ?_;refine y4 ?_;refine yM ?_
   refine wO_val (a_iaddrS (by exact rfl) (by exact rfl) hlt) ?_
   refine wO_val (a_loadN (by exact rfl) g5 g6 (by exact rfl)) ?_
   have hpxl:px<h'.next:=WF.get_lt (hk.wf hr.wf) hpx'
   refine wO_val a_new ?_;refine yM ?_;refine yS ?_;refine y3 ?_;refine wE_seq ?_;refine y4 ?_
   refine yN ?_;refine yF ?_
   refine yL ?_;refine yF ?_
   refine yL ?_;refine wO_val (a_build (by exact rfl)) ?_
   have hN':N≤h'.next:=Nat.le_trans hN hk.next
   have hlo':lo≤h'.next:=Nat.le_trans hlo hk.next
   have hkq:Lk lo h' ((h'.push (.cells [.int .i64 0, .int .i64 0, .int .i64 0, .int .i64 0, .bool false] true 1)).wr h.next h'.next (.cells (kc x) true 1)):=((Lk.refl lo h').push hlo' _).wr hlo'
   have gk:(((h'.push (.cells [.int .i64 0, .int .i64 0, .int .i64 0, .int .i64 0, .bool false] true 1)).wr h.next h'.next (.cells (kc x) true 1))).get h'.next=some (.cells (kc x) true 1):=by(simp(disch:=first|omega|(simp only[z1,z2];omega))only[z3,z4,z5,z6,z7,z1,z2, *];done)
   have gp:(((h'.push (.cells [.int .i64 0, .int .i64 0, .int .i64 0, .int .i64 0, .bool false] true 1)).wr h.next h'.next (.cells (kc x) true 1))).get px=some (.cells [.int .i64 a, .int .i64 b] true 1):=by(simp(disch:=first|omega|(simp only[z1,z2];omega))only[z3,z4,z5,z6,z7,z1,z2, *];done)
   have hPq:P (leavesL a b (l.take i) 0) ((h'.push (.cells [.int .i64 0, .int .i64 0, .int .i64 0, .int .i64 0, .bool false] true 1)).wr h.next h'.next (.cells (kc x) true 1)):=Y.stable _ _ _ hP (Nat.le_succ_of_le hN') fun z hz=>(z5 (by omega)).trans (z4 (by omega))
   have hqn:h'.next<(((h'.push (.cells [.int .i64 0, .int .i64 0, .int .i64 0, .int .i64 0, .bool false] true 1)).wr h.next h'.next (.cells (kc x) true 1))).next:=Nat.lt_succ_self _
   have hmem:=leaves_mem (a:=a) (b:=b) hxl
   have hsucc:=leaves_succ (a:=a) (b:=b) hxl
   change WO T _ _ _ _ _ _ ((h'.push (.cells [.int .i64 0, .int .i64 0, .int .i64 0, .int .i64 0, .bool false] true 1)).wr h.next h'.next (.cells (kc x) true 1))
   generalize hH:Heap.wr (Heap.push h' _) _ _ _=H at*
   clear hH g5 g6 s hpx' hsl hP hpxl
   have hkH:=hk.trans hkq
   by_cases c1:(a:Int)=x.w∧(b:Int)=x.h
   ·have L1:leavesEq [.i .i64, .i .i64] [.int .i64 a, .int .i64 b] [.int .i64 x.w, .int .i64 x.h]=some true:=by rw[leaves2,decide_eq_true c1]
    refine wO_val (a_agg (b:=true) (by exact rfl) (by exact rfl) L1) ?_
    refine yM ?_;refine yO ?_;refine yM ?_;refine yO ?_;refine yM ?_;refine yO ?_;refine wO_val (a_build (by exact rfl)) ?_;refine yO ?_
    refine wO_call (fn:= .yield l') (args:=[nodeV (1,i)]) (by rfl) ?_
    refine Y.call hp (hmem _ (by simp[leafAt,c1])) (hkH.wf hr.wf) (Nat.le_trans hlo hkH.next) (Nat.le_trans hN hkH.next) hPq ?_
    intro h2 hk2 hm2 hP2
    have gk2:=(hm2 h'.next hN' hqn).trans gk
    have gp2:=hpx _ _ hP2
    have hk3:=hkH.trans hk2
    by_cases c2:x.turn=true
    ·have ga:(h2).get h'.next=some (.cells [.int .i64 x.id, .int .i64 x.w, .int .i64 x.h, .int .i64 x.worth, .bool true] true 1):=by rw[gk2,kc,c2]
     clear gk gk2
     refine yO ?_;refine yA ?_;refine yT ?_;refine y3 ?_;refine yX ?_;refine wE_skip ?_;refine kS_n ?_;refine y4 ?_
     refine yF ?_;refine yL ?_;refine yM ?_;refine yO ?_;refine yN ?_;refine yO ?_;refine yF ?_;refine yO ?_
     refine yL ?_;refine yO ?_;refine yF ?_;refine yO ?_;refine yL ?_;refine yO ?_;refine wO_val (a_build (by exact rfl)) ?_;refine yO ?_
     by_cases c3:(a:Int)=x.h∧(b:Int)=x.w
     ·have L2:leavesEq [.i .i64, .i .i64] [.int .i64 a, .int .i64 b] [.int .i64 x.h, .int .i64 x.w]=some true:=by rw[leaves2,decide_eq_true c3]
      refine wO_val (a_agg (b:=true) (by exact rfl) (by exact rfl) L2) ?_
      refine yT ?_;refine yM ?_;refine yO ?_;refine yM ?_;refine yO ?_;refine yM ?_;refine yO ?_;refine wO_val (a_build (by exact rfl)) ?_;refine yO ?_
      refine wO_call (fn:= .yield l') (args:=[nodeV (2,i)]) (by rfl) ?_
      refine Y.call hp (hmem _ (by simp[leafAt,c2,c3])) (hk3.wf hr.wf) (Nat.le_trans hlo hk3.next) (Nat.le_trans hN hk3.next) hP2 ?_
      intro h4 hk4 _ hP4
      refine yO ?_;refine yA ?_;refine yT ?_;refine y3 ?_;refine yX ?_;refine wE_skip ?_;refine kB_n ?_;refine kS_n ?_;refine wE_region ?_
      refine yinc ?_;refine yM ?_;refine y3 ?_
      refine⟨n-(i+1),by omega,i+1,by omega,rfl,rfl,rfl,hk3.trans hk4,?_⟩
      have hl:leafAt x i a b=[(1,i)]++[(2,i)]:=by unfold leafAt;rw[if_pos c1,if_pos ⟨c2,c3⟩]
      rw[hsucc,hl,←List.append_assoc];exact hP4
     ·have L2:leavesEq [.i .i64, .i .i64] [.int .i64 a, .int .i64 b] [.int .i64 x.h, .int .i64 x.w]=some false:=by rw[leaves2,decide_eq_false c3]
      refine wO_val (a_agg (b:=false) (by exact rfl) (by exact rfl) L2) ?_
      refine yT ?_;refine yM ?_;refine yP ?_;refine yP ?_;refine yP ?_;refine yP ?_;refine yP ?_;refine yU ?_
      refine y3 ?_;refine yX ?_;refine wE_skip ?_;refine kB_n ?_;refine kS_n ?_;refine wE_region ?_;refine yinc ?_;refine yM ?_;refine y3 ?_
      refine⟨n-(i+1),by omega,i+1,by omega,rfl,rfl,rfl,hk3,?_⟩
      have hl:leafAt x i a b=[(1,i)]++[]:=by unfold leafAt;rw[if_pos c1,if_neg (fun q=>c3 q.2)]
      rw[hsucc,hl,List.append_nil];exact hP2
    ·have c2:x.turn=false:=by simpa using c2
     have ga:(h2).get h'.next=some (.cells [.int .i64 x.id, .int .i64 x.w, .int .i64 x.h, .int .i64 x.worth, .bool false] true 1):=by rw[gk2,kc,c2]
     clear gk gk2
     refine yO ?_;refine yA ?_;refine yT ?_;refine y3 ?_;refine yX ?_;refine wE_skip ?_;refine kS_n ?_;refine y4 ?_
     refine yF ?_;refine yL ?_;refine yM ?_;refine yP ?_;refine yP ?_;refine yP ?_;refine yP ?_;refine yP ?_
     refine yP ?_;refine yP ?_;refine yU ?_;refine yM ?_;refine yP ?_;refine yP ?_;refine yP ?_;refine yP ?_
     refine yP ?_;refine yU ?_;refine y3 ?_;refine yX ?_;refine wE_skip ?_;refine kB_n ?_;refine kS_n ?_;refine wE_region ?_
     refine yinc ?_;refine yM ?_;refine y3 ?_
     refine⟨n-(i+1),by omega,i+1,by omega,rfl,rfl,rfl,hk3,?_⟩
     have hl:leafAt x i a b=[(1,i)]++[]:=by unfold leafAt;rw[if_pos c1,if_neg (fun q=>by rw[c2]at q;cases q.1)]
     rw[hsucc,hl,List.append_nil];exact hP2
   ·have L1:leavesEq [.i .i64, .i .i64] [.int .i64 a, .int .i64 b] [.int .i64 x.w, .int .i64 x.h]=some false:=by rw[leaves2,decide_eq_false c1]
    refine wO_val (a_agg (b:=false) (by exact rfl) (by exact rfl) L1) ?_
    by_cases c2:x.turn=true
    ·have ga:(H).get h'.next=some (.cells [.int .i64 x.id, .int .i64 x.w, .int .i64 x.h, .int .i64 x.worth, .bool true] true 1):=by rw[gk,kc,c2]
     clear gk
     refine yM ?_;refine yP ?_;refine yP ?_;refine yP ?_;refine yP ?_;refine yP ?_;refine yU ?_;refine y3 ?_;refine yX ?_;refine wE_skip ?_;refine kS_n ?_;refine y4 ?_;refine yF ?_;refine yL ?_;refine yM ?_
     refine yO ?_;refine yN ?_;refine yO ?_;refine yF ?_;refine yO ?_;refine yL ?_;refine yO ?_;refine yF ?_
     refine yO ?_;refine yL ?_;refine yO ?_;refine wO_val (a_build (by exact rfl)) ?_;refine yO ?_
     by_cases c3:(a:Int)=x.h∧(b:Int)=x.w
     ·have L2:leavesEq [.i .i64, .i .i64] [.int .i64 a, .int .i64 b] [.int .i64 x.h, .int .i64 x.w]=some true:=by rw[leaves2,decide_eq_true c3]
      refine wO_val (a_agg (b:=true) (by exact rfl) (by exact rfl) L2) ?_
      refine yT ?_;refine yM ?_;refine yO ?_;refine yM ?_;refine yO ?_;refine yM ?_;refine yO ?_;refine wO_val (a_build (by exact rfl)) ?_;refine yO ?_
      refine wO_call (fn:= .yield l') (args:=[nodeV (2,i)]) (by rfl) ?_
      refine Y.call hp (hmem _ (by simp[leafAt,c2,c3])) (hkH.wf hr.wf) (Nat.le_trans hlo hkH.next) (Nat.le_trans hN hkH.next) hPq ?_
      intro h4 hk4 _ hP4
      refine yO ?_;refine yA ?_;refine yT ?_;refine y3 ?_;refine yX ?_;refine wE_skip ?_;refine kB_n ?_;refine kS_n ?_;refine wE_region ?_
      refine yinc ?_;refine yM ?_;refine y3 ?_
      refine⟨n-(i+1),by omega,i+1,by omega,rfl,rfl,rfl,hkH.trans hk4,?_⟩
      have hl:leafAt x i a b=[]++[(2,i)]:=by unfold leafAt;rw[if_neg c1,if_pos ⟨c2,c3⟩]
      rw[hsucc,hl,List.nil_append];exact hP4
     ·have L2:leavesEq [.i .i64, .i .i64] [.int .i64 a, .int .i64 b] [.int .i64 x.h, .int .i64 x.w]=some false:=by rw[leaves2,decide_eq_false c3]
      refine wO_val (a_agg (b:=false) (by exact rfl) (by exact rfl) L2) ?_
      refine yT ?_;refine yM ?_;refine yP ?_;refine yP ?_;refine yP ?_;refine yP ?_;refine yP ?_;refine yU ?_
      refine y3 ?_;refine yX ?_;refine wE_skip ?_;refine kB_n ?_;refine kS_n ?_;refine wE_region ?_;refine yinc ?_;refine yM ?_;refine y3 ?_
      refine⟨n-(i+1),by omega,i+1,by omega,rfl,rfl,rfl,hkH,?_⟩
      have hl:leafAt x i a b=[]++[]:=by unfold leafAt;rw[if_neg c1,if_neg (fun q=>c3 q.2)]
      rw[hsucc,hl,List.append_nil,List.append_nil];exact hPq
    ·have c2:x.turn=false:=by simpa using c2
     have ga:(H).get h'.next=some (.cells [.int .i64 x.id, .int .i64 x.w, .int .i64 x.h, .int .i64 x.worth, .bool false] true 1):=by rw[gk,kc,c2]
     clear gk
     refine yM ?_;refine yP ?_;refine yP ?_;refine yP ?_;refine yP ?_;refine yP ?_;refine yU ?_;refine y3 ?_;refine yX ?_;refine wE_skip ?_;refine kS_n ?_;refine y4 ?_;refine yF ?_;refine yL ?_;refine yM ?_
     refine yP ?_;refine yP ?_;refine yP ?_;refine yP ?_;refine yP ?_;refine yP ?_;refine yP ?_;refine yU ?_
     refine yM ?_;refine yP ?_;refine yP ?_;refine yP ?_;refine yP ?_;refine yP ?_;refine yU ?_;refine y3 ?_;refine yX ?_;refine wE_skip ?_;refine kB_n ?_;refine kS_n ?_;refine wE_region ?_;refine yinc ?_;refine yM ?_;refine y3 ?_
     refine⟨n-(i+1),by omega,i+1,by omega,rfl,rfl,rfl,hkH,?_⟩
     have hl:leafAt x i a b=[]++[]:=by unfold leafAt;rw[if_neg c1,if_neg (fun q=>by rw[c2]at q;cases q.1)]
     rw[hsucc,hl,List.append_nil,List.append_nil];exact hPq
 ·obtain rfl:i=n:=by omega
  have hfull:l.take i=l:=List.take_of_length_le (by omega)
  rw[hfull]at hP
  refine y4 ?_;refine yf ?_;refine y3 ?_;refine wE_seq ?_;refine yX ?_;refine wE_exit ?_;refine kS_e ?_;refine kS_e ?_;refine kB_e ?_
  exact endG_end (hk.log (by rw[hr.log];exact LogGe.nil _)) rfl ⟨rfl,hP⟩
end Go.A.Pk
end
section
set_option maxRecDepth 100000
namespace Go.A.Pk
variable {T:Nat→Option AFunc}
def fn2(f p q:Nat):Value:= .func (.func f) #[] #[.pointer (some ⟨p,0,none⟩), .pointer (some ⟨q,0,none⟩)]
def fn1(f p:Nat):Value:= .func (.func f) #[] #[.pointer (some ⟨p,0,none⟩)]
theorem boards94(hp:primAS T)(hf:T 94=some f94){h:Heap}(hr:Rdy h)(w ht:Int):Al T 94 [.int .i64 w, .int .i64 ht] h fun v h'=>v=fn2 136 h.next (h.next+1)∧h'.next=h.next+2∧h'.get h.next=some (.cells [.int .i64 w] true 1)∧h'.get (h.next+1)=some (.cells [.int .i64 ht] true 1):=by
 refine .of hp hf hr (fun v h1 hv q=>by rw[q.1]at hv;cases hv) ?_
 refine y4 ?_;refine yB ?_;refine yB ?_;refine yM ?_;refine y3 ?_;refine y4 ?_
 refine wO_val (a_mkFunc (by exact rfl) (by exact rfl)) ?_;refine yM ?_;refine y3 ?_;refine wE_ret ?_
 exact endA_ret hr.log (by rfl) ⟨rfl,rfl,by(simp(disch:=first|omega|(simp only[z1,z2];omega))only[z3,z4,z5,z6,z7,z1,z2, *];exact rfl),by(simp(disch:=first|omega|(simp only[z1,z2];omega)|(simp only[z1,z2];done)|fail)only[z8,z4,z5,z9,z7,z1,z2, *];exact rfl)⟩
theorem leaves104(hp:primAS T)(hf:T 104=some f104){h:Heap}(hr:Rdy h)(bb:Nat)(a b:Int):Al T 104 [.pointer (some ⟨bb,0,none⟩), .agg #[.int .i64 a, .int .i64 b]] h fun v h'=>v=fn2 140 h.next (h.next+1)∧h'.next=h.next+2∧h'.get h.next=some (.cells [.pointer (some ⟨bb,0,none⟩)] true 1)∧h'.get (h.next+1)=some (.cells [.int .i64 a, .int .i64 b] true 1):=by
 refine .of hp hf hr (fun v h1 hv q=>by rw[q.1]at hv;cases hv) ?_
 refine y4 ?_;refine yB ?_;refine yB ?_;refine yM ?_;refine y3 ?_;refine y4 ?_
 refine wO_val (a_mkFunc (by exact rfl) (by exact rfl)) ?_;refine yM ?_;refine y3 ?_;refine wE_ret ?_
 exact endA_ret hr.log (by rfl) ⟨rfl,rfl,by(simp(disch:=first|omega|(simp only[z1,z2];omega))only[z3,z4,z5,z6,z7,z1,z2, *];exact rfl),by(simp(disch:=first|omega|(simp only[z1,z2];omega)|(simp only[z1,z2];done)|fail)only[z8,z4,z5,z9,z7,z1,z2, *];exact rfl)⟩
theorem cuts105(hp:primAS T)(hf:T 105=some f105){h:Heap}(hr:Rdy h)(bb:Value)(a b:Int):Al T 105 [bb, .agg #[.int .i64 a, .int .i64 b]] h fun v h'=>v=fn1 141 h.next∧h'.next=h.next+1∧h'.get h.next=some (.cells [.int .i64 a, .int .i64 b] true 1):=by
 refine .of hp hf hr (fun v h1 hv q=>by rw[q.1]at hv;cases hv) ?_
 refine y4 ?_;refine yB ?_;refine yM ?_;refine y3 ?_;refine y4 ?_;refine wO_val (a_mkFunc (by exact rfl) (by exact rfl)) ?_
 refine yM ?_;refine y3 ?_;refine wE_ret ?_
 exact endA_ret hr.log (by rfl) ⟨rfl,rfl,by(simp(disch:=first|omega|(simp only[z1,z2];omega))only[z3,z4,z5,z6,z7,z1,z2, *];exact rfl)⟩
def oneB(x:Nat×Nat)(a b:Nat):Int×Int:=if x.1=3 then(x.2,b)else(a,x.2)
def twoB(kerf:Int)(x:Nat×Nat)(a b:Nat):Int×Int:=if x.1=3 then((a:Int)-x.2-kerf,b)else(a,(b:Int)-x.2-kerf)
def pairV(x:Int×Int):Value:= .agg #[.int .i64 x.1, .int .i64 x.2]
set_option maxHeartbeats 4000000 in
theorem split106(hp:primAS T)(hf:T 106=some f106){h:Heap}(hr:Rdy h){bb:Nat}{s ws:Value}{own:Bool}{kerf:Int}(hb:h.get bb=some (.cells [s, .int .i64 kerf,ws] own 1))(hlt:bb<h.next)(hk:0≤kerf∧kerf≤100){x:Nat×Nat}{a b:Nat}(hx:x.1=3∨x.1=4)(hx2:x.2<1000)(ha:a<1000)(hbb:b<1000):
 Pu T 106 [.pointer (some ⟨bb,0,none⟩),boardV (a,b),nodeV x] h (.tuple #[pairV (oneB x a b),pairV (twoB kerf x a b)]):=by
 refine .of hp hf hr rfl ?_
 obtain⟨x1,x2⟩:=x
 unfold boardV nodeV
 simp only at hx hx2
 rcases hx with rfl|rfl
 ·refine y4 ?_;refine yB ?_;refine yB ?_;refine wO_val a_new ?_;refine wO_val a_new ?_;refine y3 ?_;refine wE_seq ?_;refine y4 ?_
  refine yF ?_;refine yL ?_
  refine yt ?_;refine y3 ?_;refine yY ?_;refine wE_seq ?_;refine wE_draw ?_;refine qF ?_
  refine qL ?_
  refine wD_quiet rfl rfl rfl (by exact rfl) (by exact rfl) (by exact rfl) (a_iaddrA (i:=1) (by exact rfl) (by exact rfl) (by omega)) ?_
  refine qL ?_
  refine wD_quiet rfl rfl rfl (by exact rfl) (by exact rfl) (by exact rfl) (a_build (by exact rfl)) ?_;refine wD_quiet rfl rfl rfl (by exact rfl) (by exact rfl) (by exact rfl) (a_iaddrA (i:=0) (by exact rfl) (by exact rfl) (by omega)) ?_
  refine qL ?_
  refine qF ?_
  refine qL ?_
  refine wD_quiet rfl rfl rfl (by exact rfl) (by exact rfl) (by exact rfl) (a_num (by exact rfl) (by exact rfl) (by exact m_sub (wrapA_i64 (by omega) (by omega)))) ?_;refine qM ?_;refine wD_quiet rfl rfl rfl (by exact rfl) (by exact rfl) (by exact rfl) (a_nilchk (by exact rfl)) ?_
  refine qF ?_;refine qF ?_
  refine qL ?_
  refine wD_quiet rfl rfl rfl (by exact rfl) (by exact rfl) (by exact rfl) (a_num (by exact rfl) (by exact rfl) (by exact m_sub (wrapA_i64 (by omega) (by omega)))) ?_;refine wD_quiet rfl rfl rfl (by exact rfl) (by exact rfl) (by exact rfl) (a_iaddrA (i:=1) (by exact rfl) (by exact rfl) (by omega)) ?_
  refine qL ?_
  refine wD_quiet rfl rfl rfl (by exact rfl) (by exact rfl) (by exact rfl) (a_build (by exact rfl)) ?_
  refine wD_store rfl rfl rfl (by exact rfl) (by exact rfl) (by exact rfl) (by(simp(disch:=first|omega|(simp only[z1,z2];omega)|(simp only[z1,z2];done)|fail)only[z8,z4,z5,z9,z7,z1,z2, *];exact rfl)) (by exact rfl) (by exact rfl) (by(simp only[z1,z2];omega)) (by(simp only[z1,z2];omega)) (by apply ra_keepC rfl (rq_quiet rfl (a_build (by exact rfl)) (by exact sv_agg (by refine sl_cons (s1_int _ _) ?_;refine sl_cons (s1_int _ _) ?_;exact sl_nil))) rfl;apply ra_keepC rfl (rq_quiet rfl (a_load (by exact rfl) (by(simp(disch:=first|omega|(simp only[z1,z2];omega))only[z3,z4,z5,z6,z7,z1,z2, *];exact rfl)) (by exact rfl)) (by exact sv_int _ _)) rfl;apply ra_keepC rfl (rq_quiet rfl (a_iaddrA (i:=1) (by exact rfl) (by exact rfl) (by omega)) (by exact sv_ptr _)) rfl;apply ra_keepC rfl (rq_quiet rfl (a_num (by exact rfl) (by exact rfl) (by exact m_sub (wrapA_i64 (by omega) (by omega)))) (by exact sv_int _ _)) rfl;apply ra_keepC rfl (rq_quiet rfl (a_load (by exact rfl) (by(simp(disch:=first|omega|(simp only[z1,z2];omega))only[z3,z4,z5,z6,z7,z1,z2, *];exact rfl)) (by exact rfl)) (by exact sv_int _ _)) rfl;apply ra_keepC rfl (rq_quiet rfl (a_faddr (by exact rfl)) (by exact sv_ptr _)) rfl;apply ra_keepC rfl (rq_quiet rfl (a_faddr (by exact rfl)) (by exact sv_ptr _)) rfl;apply ra_keepC rfl (rq_quiet rfl (a_nilchk (by exact rfl)) (by exact sv_ptr _)) rfl;apply ra_keepC rfl (rq_quiet rfl (a_mov (by exact rfl)) (by exact sv_ptr _)) rfl;apply ra_keepC rfl (rq_quiet rfl (a_num (by exact rfl) (by exact rfl) (by exact m_sub (wrapA_i64 (by omega) (by omega)))) (by exact sv_int _ _)) rfl;apply ra_keepC rfl (rq_quiet rfl (a_load (by exact rfl) (by(simp(disch:=first|omega|(simp only[z1,z2];omega)|(simp only[z1,z2];done)|fail)only[z8,z4,z5,z9,z7,z1,z2, *];exact rfl)) (by exact rfl)) (by exact sv_int _ _)) rfl;apply ra_keepC rfl (rq_quiet rfl (a_faddr (by exact rfl)) (by exact sv_ptr _)) rfl;apply ra_keepC rfl (rq_quiet rfl (a_load (by exact rfl) (by(simp(disch:=first|omega|(simp only[z1,z2];omega))only[z3,z4,z5,z6,z7,z1,z2, *];exact rfl)) (by exact rfl)) (by exact sv_int _ _)) rfl;apply ra_keepC rfl (rq_quiet rfl (a_iaddrA (i:=0) (by exact rfl) (by exact rfl) (by omega)) (by exact sv_ptr _)) rfl;apply ra_dropC rfl;apply ra_dropC rfl;apply ra_dropC rfl;apply ra_dropC rfl;apply ra_dropC rfl;exact ra_nil) ?_
  refine wD_store rfl rfl rfl (by exact rfl) (by exact rfl) (by exact rfl) (by(simp(disch:=first|omega|(simp only[z1,z2];omega)|(simp only[z1,z2];done)|fail)only[z8,z4,z5,z9,z7,z1,z2, *];exact rfl)) (by exact rfl) (by exact rfl) (by(simp only[z1,z2];omega)) (by(simp only[z1,z2];omega)) (by apply ra_dropC rfl;apply ra_dropC rfl;apply ra_dropC rfl;apply ra_dropC rfl;apply ra_dropC rfl;apply ra_dropC rfl;apply ra_dropC rfl;apply ra_dropC rfl;apply ra_dropC rfl;apply ra_dropC rfl;apply ra_dropC rfl;apply ra_dropC rfl;apply ra_dropC rfl;apply ra_dropC rfl;exact ra_nil) ?_
  refine wD_nil ?_;refine y1 ?_;refine kS_n ?_;refine wE_ret ?_;refine kS_r ?_
  refine endP_ret ((Heap.log_wr_new (by(simp only[z1,z2];omega))).trans ((Heap.log_wr_new (by(simp only[z1,z2];omega))).trans hr.log)) (vs:=[pairV (oneB (3,x2) a b),pairV (twoB kerf (3,x2) a b)]) ?_ rfl
  refine res_cells (b:=h.next+2) rfl (by(simp(disch:=first|omega|(simp only[z1,z2];omega)|(simp only[z1,z2];done)|fail)only[z8,z4,z5,z9,z7,z1,z2, *];exact rfl)) rfl rfl (res_cells (b:=h.next+3) rfl (by(simp(disch:=first|omega|(simp only[z1,z2];omega)|(simp only[z1,z2];done)|fail)only[z8,z4,z5,z9,z7,z1,z2, *];exact rfl)) rfl rfl res_nil)
 ·refine y4 ?_;refine yB ?_;refine yB ?_;refine wO_val a_new ?_;refine wO_val a_new ?_;refine y3 ?_;refine wE_seq ?_;refine y4 ?_
  refine yF ?_;refine yL ?_
  refine yf ?_;refine y3 ?_;refine yX ?_;refine wE_skip ?_;refine kS_n ?_;refine wE_seq ?_;refine wE_draw ?_
  refine wD_quiet rfl rfl rfl (by exact rfl) (by exact rfl) (by exact rfl) (a_iaddrA (i:=0) (by exact rfl) (by exact rfl) (by omega)) ?_
  refine qL ?_
  refine qF ?_
  refine qL ?_
  refine wD_quiet rfl rfl rfl (by exact rfl) (by exact rfl) (by exact rfl) (a_build (by exact rfl)) ?_;refine wD_quiet rfl rfl rfl (by exact rfl) (by exact rfl) (by exact rfl) (a_iaddrA (i:=0) (by exact rfl) (by exact rfl) (by omega)) ?_
  refine qL ?_
  refine wD_quiet rfl rfl rfl (by exact rfl) (by exact rfl) (by exact rfl) (a_iaddrA (i:=1) (by exact rfl) (by exact rfl) (by omega)) ?_
  refine qL ?_
  refine qF ?_
  refine qL ?_
  refine wD_quiet rfl rfl rfl (by exact rfl) (by exact rfl) (by exact rfl) (a_num (by exact rfl) (by exact rfl) (by exact m_sub (wrapA_i64 (by omega) (by omega)))) ?_;refine qM ?_;refine wD_quiet rfl rfl rfl (by exact rfl) (by exact rfl) (by exact rfl) (a_nilchk (by exact rfl)) ?_
  refine qF ?_;refine qF ?_
  refine qL ?_
  refine wD_quiet rfl rfl rfl (by exact rfl) (by exact rfl) (by exact rfl) (a_num (by exact rfl) (by exact rfl) (by exact m_sub (wrapA_i64 (by omega) (by omega)))) ?_;refine wD_quiet rfl rfl rfl (by exact rfl) (by exact rfl) (by exact rfl) (a_build (by exact rfl)) ?_
  refine wD_store rfl rfl rfl (by exact rfl) (by exact rfl) (by exact rfl) (by(simp(disch:=first|omega|(simp only[z1,z2];omega)|(simp only[z1,z2];done)|fail)only[z8,z4,z5,z9,z7,z1,z2, *];exact rfl)) (by exact rfl) (by exact rfl) (by(simp only[z1,z2];omega)) (by(simp only[z1,z2];omega)) (by apply ra_keepC rfl (rq_quiet rfl (a_build (by exact rfl)) (by exact sv_agg (by refine sl_cons (s1_int _ _) ?_;refine sl_cons (s1_int _ _) ?_;exact sl_nil))) rfl;apply ra_keepC rfl (rq_quiet rfl (a_num (by exact rfl) (by exact rfl) (by exact m_sub (wrapA_i64 (by omega) (by omega)))) (by exact sv_int _ _)) rfl;apply ra_keepC rfl (rq_quiet rfl (a_load (by exact rfl) (by(simp(disch:=first|omega|(simp only[z1,z2];omega))only[z3,z4,z5,z6,z7,z1,z2, *];exact rfl)) (by exact rfl)) (by exact sv_int _ _)) rfl;apply ra_keepC rfl (rq_quiet rfl (a_faddr (by exact rfl)) (by exact sv_ptr _)) rfl;apply ra_keepC rfl (rq_quiet rfl (a_faddr (by exact rfl)) (by exact sv_ptr _)) rfl;apply ra_keepC rfl (rq_quiet rfl (a_nilchk (by exact rfl)) (by exact sv_ptr _)) rfl;apply ra_keepC rfl (rq_quiet rfl (a_mov (by exact rfl)) (by exact sv_ptr _)) rfl;apply ra_keepC rfl (rq_quiet rfl (a_num (by exact rfl) (by exact rfl) (by exact m_sub (wrapA_i64 (by omega) (by omega)))) (by exact sv_int _ _)) rfl;apply ra_keepC rfl (rq_quiet rfl (a_load (by exact rfl) (by(simp(disch:=first|omega|(simp only[z1,z2];omega)|(simp only[z1,z2];done)|fail)only[z8,z4,z5,z9,z7,z1,z2, *];exact rfl)) (by exact rfl)) (by exact sv_int _ _)) rfl;apply ra_keepC rfl (rq_quiet rfl (a_faddr (by exact rfl)) (by exact sv_ptr _)) rfl;apply ra_keepC rfl (rq_quiet rfl (a_load (by exact rfl) (by(simp(disch:=first|omega|(simp only[z1,z2];omega))only[z3,z4,z5,z6,z7,z1,z2, *];exact rfl)) (by exact rfl)) (by exact sv_int _ _)) rfl;apply ra_keepC rfl (rq_quiet rfl (a_iaddrA (i:=1) (by exact rfl) (by exact rfl) (by omega)) (by exact sv_ptr _)) rfl;apply ra_keepC rfl (rq_quiet rfl (a_load (by exact rfl) (by(simp(disch:=first|omega|(simp only[z1,z2];omega))only[z3,z4,z5,z6,z7,z1,z2, *];exact rfl)) (by exact rfl)) (by exact sv_int _ _)) rfl;apply ra_keepC rfl (rq_quiet rfl (a_iaddrA (i:=0) (by exact rfl) (by exact rfl) (by omega)) (by exact sv_ptr _)) rfl;apply ra_dropC rfl;apply ra_dropC rfl;apply ra_dropC rfl;apply ra_dropC rfl;apply ra_dropC rfl;exact ra_nil) ?_
  refine wD_store rfl rfl rfl (by exact rfl) (by exact rfl) (by exact rfl) (by(simp(disch:=first|omega|(simp only[z1,z2];omega)|(simp only[z1,z2];done)|fail)only[z8,z4,z5,z9,z7,z1,z2, *];exact rfl)) (by exact rfl) (by exact rfl) (by(simp only[z1,z2];omega)) (by(simp only[z1,z2];omega)) (by apply ra_dropC rfl;apply ra_dropC rfl;apply ra_dropC rfl;apply ra_dropC rfl;apply ra_dropC rfl;apply ra_dropC rfl;apply ra_dropC rfl;apply ra_dropC rfl;apply ra_dropC rfl;apply ra_dropC rfl;apply ra_dropC rfl;apply ra_dropC rfl;apply ra_dropC rfl;apply ra_dropC rfl;exact ra_nil) ?_
  refine wD_nil ?_;refine y1 ?_;refine kS_n ?_;refine wE_ret ?_
  refine endP_ret ((Heap.log_wr_new (by(simp only[z1,z2];omega))).trans ((Heap.log_wr_new (by(simp only[z1,z2];omega))).trans hr.log)) (vs:=[pairV (oneB (4,x2) a b),pairV (twoB kerf (4,x2) a b)]) ?_ rfl
  refine res_cells (b:=h.next+2) rfl (by(simp(disch:=first|omega|(simp only[z1,z2];omega)|(simp only[z1,z2];done)|fail)only[z8,z4,z5,z9,z7,z1,z2, *];exact rfl)) rfl rfl (res_cells (b:=h.next+3) rfl (by(simp(disch:=first|omega|(simp only[z1,z2];omega)|(simp only[z1,z2];done)|fail)only[z8,z4,z5,z9,z7,z1,z2, *];exact rfl)) rfl rfl res_nil)
end Go.A.Pk
end
section
set_option maxRecDepth 100000
namespace Go.A.Pk
variable {T:Nat→Option AFunc}
def asgO:ACode:=(.region [g 8 (.new [(.int .i64 0),(.int .i64 0)]),⟨none, .store 2 (t 8) (t 18),none⟩] [3,7,8])
def bodyO:ACode:=(.block 1 (.seq (.region [g 9 (.new [(.int .i64 0)]),⟨none, .store 1 (t 9) (.const (.int .i64 0)),none⟩] [3,7,8,9])
 (.seq (.seq (.region [g 19 (.load none (t 3)),g 20 (.load (some 2) (t 8)),g 21 (.call (.func 104) [(t 19),(t 20)])] [3,7,8,9,21])
 (.block 2 (.rangeFunc (t 21) [22] (.region [g 10 (.new [(.int .u8 0),(.int .i64 0)]),⟨none, .store 2 (t 10) (t 22),none⟩] [3,9,10]) (.block 3 (.draw [g 23 (.load none (t 9)),g 24 (.load none (t 3)),g 25 (.nilchk (t 24)),g 26 (.faddr 2 (t 25)),g 27 (.load none (t 26)),g 28 (.faddr 1 (t 10)),g 29 (.load none (t 28)),g 30 (.iaddrS 1 (t 27) (t 29)),g 31 (.load none (t 30)),g 32 (.minmax true [(t 23),(t 31)]),⟨none, .store 1 (t 9) (t 32),none⟩] [0,1,2,3,4,5,6,7,8,9,10] [0,0,2,6,14,0,32,126,254,511,1023] [])))))
 (.seq (.seq (.region [g 33 (.load none (t 3)),g 34 (.load (some 2) (t 8)),g 35 (.call (.func 105) [(t 33),(t 34)])] [3,7,8,9,35])
 (.block 4 (.rangeFunc (t 35) [36] (.region [g 11 (.new [(.int .u8 0),(.int .i64 0)]),⟨none, .store 2 (t 11) (t 36),none⟩] [3,7,8,9,11]) (.block 5 (.seq (.region [g 38 (.load none (t 3)),g 39 (.load (some 2) (t 8)),g 40 (.load (some 2) (t 11)),g 41 (.call (.func 106) [(t 38),(t 39),(t 40)]),g 37 (.mov (t 41)),g 42 (.extract (t 37) 0),g 43 (.extract (t 37) 1),g 12 (.new [(.int .i64 0),(.int .i64 0)]),g 13 (.new [(.int .i64 0),(.int .i64 0)]),⟨none, .store 2 (t 12) (t 42),none⟩,⟨none, .store 2 (t 13) (t 43),none⟩] [7,9,12,13])
 (.draw [g 44 (.load none (t 9)),g 45 (.load none (t 7)),g 46 (.load (some 2) (t 12)),g 47 (.lookup true [.i .i64, .i .i64] (.int .i64 0) false (t 45) (t 46)),g 48 (.load none (t 7)),g 49 (.load (some 2) (t 13)),g 50 (.lookup true [.i .i64, .i .i64] (.int .i64 0) false (t 48) (t 49)),g 51 (.bin (.num .add) (t 47) (t 50)),g 52 (.minmax true [(t 44),(t 51)]),⟨none, .store 1 (t 9) (t 52),none⟩] [0,1,2,3,4,5,6,7,8,9] [0,0,0,6,0,0,48,126,255,511] []))))))
 (.region [g 53 (.load none (t 7)),g 54 (.load (some 2) (t 8)),g 55 (.load none (t 9)),⟨none, .mapUp true [.i .i64, .i .i64] (t 53) (t 54) (t 55),none⟩] [])))))
def asgL:ACode:=(.region [g 10 (.new [(.int .u8 0),(.int .i64 0)]),⟨none, .store 2 (t 10) (t 22),none⟩] [3,9,10])
def bodyL:ACode:=(.block 3 (.draw [g 23 (.load none (t 9)),g 24 (.load none (t 3)),g 25 (.nilchk (t 24)),g 26 (.faddr 2 (t 25)),g 27 (.load none (t 26)),g 28 (.faddr 1 (t 10)),g 29 (.load none (t 28)),g 30 (.iaddrS 1 (t 27) (t 29)),g 31 (.load none (t 30)),g 32 (.minmax true [(t 23),(t 31)]),⟨none, .store 1 (t 9) (t 32),none⟩] [0,1,2,3,4,5,6,7,8,9,10] [0,0,2,6,14,0,32,126,254,511,1023] []))
def asgC:ACode:=(.region [g 11 (.new [(.int .u8 0),(.int .i64 0)]),⟨none, .store 2 (t 11) (t 36),none⟩] [3,7,8,9,11])
def bodyC:ACode:=(.block 5 (.seq (.region [g 38 (.load none (t 3)),g 39 (.load (some 2) (t 8)),g 40 (.load (some 2) (t 11)),g 41 (.call (.func 106) [(t 38),(t 39),(t 40)]),g 37 (.mov (t 41)),g 42 (.extract (t 37) 0),g 43 (.extract (t 37) 1),g 12 (.new [(.int .i64 0),(.int .i64 0)]),g 13 (.new [(.int .i64 0),(.int .i64 0)]),⟨none, .store 2 (t 12) (t 42),none⟩,⟨none, .store 2 (t 13) (t 43),none⟩] [7,9,12,13])
 (.draw [g 44 (.load none (t 9)),g 45 (.load none (t 7)),g 46 (.load (some 2) (t 12)),g 47 (.lookup true [.i .i64, .i .i64] (.int .i64 0) false (t 45) (t 46)),g 48 (.load none (t 7)),g 49 (.load (some 2) (t 13)),g 50 (.lookup true [.i .i64, .i .i64] (.int .i64 0) false (t 48) (t 49)),g 51 (.bin (.num .add) (t 47) (t 50)),g 52 (.minmax true [(t 44),(t 51)]),⟨none, .store 1 (t 9) (t 52),none⟩] [0,1,2,3,4,5,6,7,8,9] [0,0,0,6,0,0,48,126,255,511] [])))
abbrev Tab:=List ((Nat×Nat)×Int)
def ents(t:Tab):List (Value×Value):=t.map fun e=>(boardV e.1, .int .i64 e.2)
def isKey(x:Int×Int)(e:(Nat×Nat)×Int):Bool:=decide (x.1=e.1.1∧x.2=e.1.2)
def look:Tab→Int×Int→Int
 |[],_=>0
 |e::t,x=>if isKey x e then e.2 else look t x
def upd:Tab→Nat×Nat→Int→Tab
 |[],x,v=>[(x,v)]
 |e::t,x,v=>if isKey (x.1,x.2) e then(x,v)::t else e::upd t x v
def mx(a b:Int):Int:=if b>a then b else a
def L2:List Leaf:=[.i .i64, .i .i64]
theorem keyEq_board(x:Int×Int)(e:(Nat×Nat)×Int):keyEq true L2 (pairV x) (boardV e.1)=some (isKey x e):=by
 show leavesEq L2 [.int .i64 x.1, .int .i64 x.2] [.int .i64 e.1.1, .int .i64 e.1.2]=_
 rw[L2,leaves2];rfl
theorem find_look(x:Int×Int):∀(t:Tab) (i:Nat),(findA true L2 (pairV x) i (ents t)=some none∧look t x=0)∨∃j,findA true L2 (pairV x) i (ents t)=some (some (j, .int .i64 (look t x)))
 |[],i=> .inl ⟨rfl,rfl⟩
 |e::t,i=>by
  simp only[ents,List.map_cons,findA,keyEq_board,look]
  cases isKey x e with
  |true=>exact .inr ⟨i,rfl⟩
  |false=>exact find_look x t (i+1)
theorem find_upd(x:Nat×Nat)(v:Int):∀(t:Tab) (i:Nat),(findA true L2 (boardV x) i (ents t)=some none∧upd t x v=t++[(x,v)])∨∃j u,findA true L2 (boardV x) i (ents t)=some (some (i+j,u))∧ents (upd t x v)=lset (ents t) j (boardV x, .int .i64 v)
 |[],i=> .inl ⟨rfl,rfl⟩
 |e::t,i=>by
  have hk:keyEq true L2 (boardV x) (boardV e.1)=some (isKey (x.1,x.2) e):=keyEq_board (x.1,x.2) e
  simp only[ents,List.map_cons,findA,hk,upd]
  cases isKey (x.1,x.2) e with
  |true=>exact .inr ⟨0,_,rfl,rfl⟩
  |false=>
   rcases find_upd x v t (i+1)with⟨h1,h2⟩|⟨j,u,h1,h2⟩
   ·exact .inl ⟨h1,by simp[h2]⟩
   ·refine .inr ⟨j+1,u,?_,?_⟩
    ·rw[show i+(j+1)=i+1+j by omega];exact h1
    ·simp only[ents]at h2
     simp[lset,h2]
theorem keyOk_pair(x:Int×Int):keyOk true L2 (pairV x)=true:=by
 simp[keyOk,pairV,isAggV,cellsOf,L2,leavesEq,leafEq]
theorem keyOk_board(x:Nat×Nat):keyOk true L2 (boardV x)=true:=keyOk_pair (x.1,x.2)
theorem a_lookup{base:Nat}{h:Heap}{e:Env}{m k:Operand}{r:Nat}{t:Tab}{x:Int×Int}(hm:ev h e m=some (.map (some r)))(hk:ev h e k=some (pairV x))(hr:h.get r=some (.map (ents t))):aop h base e (.lookup true [.i .i64, .i .i64] (.int .i64 0) false m k)=some (.val (.int .i64 (look t x)) h):=by
 have e2:([.i .i64, .i .i64]:List Leaf)=L2:=rfl
 rcases find_look x t 0 with⟨h1,h2⟩|⟨j,h1⟩
 ·simp only[aop,hm,hk,hr,e2,keyOk_pair,h1,h2,cond_true,cond_false]
 ·simp only[aop,hm,hk,hr,e2,keyOk_pair,h1,cond_true,cond_false]
theorem a_mapUp{base:Nat}{h:Heap}{e:Env}{m k v:Operand}{r:Nat}{t:Tab}{x:Nat×Nat}{z:Int}(hm:ev h e m=some (.map (some r)))(hk:ev h e k=some (boardV x))(hv:ev h e v=some (.int .i64 z))(hr:h.get r=some (.map (ents t))):aop h base e (.mapUp true [.i .i64, .i .i64] m k v)=some (.val (.tuple #[]) (h.wr base r (.map (ents (upd t x z))))):=by
 have e2:([.i .i64, .i .i64]:List Leaf)=L2:=rfl
 rcases find_upd x z t 0 with⟨h1,h2⟩|⟨j,u,h1,h2⟩
 ·have h3:lcat (ents t) [(boardV x, .int .i64 z)]=ents (upd t x z):=by rw[h2,lcat_eq];simp[ents]
  simp only[aop,hm,hk,hv,hr,e2,keyOk_board,h1,cond_true,h3]
 ·rw[Nat.zero_add]at h1
  simp only[aop,hm,hk,hv,hr,e2,keyOk_board,h1,cond_true,←h2]
theorem a_max{base:Nat}{h:Heap}{e:Env}{x y:Operand}{a b:Int}(hx:ev h e x=some (.int .i64 a))(hy:ev h e y=some (.int .i64 b)):aop h base e (.minmax true [x,y])=some (.val (.int .i64 (mx a b)) h):=by
 simp only[aop,evs,hx,hy,mmA,if_true,bindV,mx]
theorem ne_loop{H:Heap}{a l:Nat}{vs:List Value}{o:Bool}{s:Nat}{e:Env}{ps:List Nat}{ag b:ACode}{st:Nat}{p:AExit}(ha:H.get a=some (.cells vs o s))(hl:H.get l=some (.loop e ps ag b st p)):a≠l:=by
 rintro rfl;rw[ha]at hl;cases hl
theorem ne_map{H:Heap}{a l:Nat}{vs:List (Value×Value)}{e:Env}{ps:List Nat}{ag b:ACode}{st:Nat}{p:AExit}(ha:H.get a=some (.map vs))(hl:H.get l=some (.loop e ps ag b st p)):a≠l:=by
 rintro rfl;rw[ha]at hl;cases hl
theorem ne_cm{H:Heap}{a l:Nat}{vs:List Value}{o:Bool}{s:Nat}{ms:List (Value×Value)}(ha:H.get a=some (.cells vs o s))(hl:H.get l=some (.map ms)):a≠l:=by
 rintro rfl;rw[ha]at hl;cases hl
theorem wD_storeA{base:Nat}{e:Env}{h:Heap}{ops:List AOper}{bf:List Nat}{rs rs':List Rec}{Q:Env→Heap→Prop}{i mask:Nat}{is:List Nat}{dst:Option Nat}{x y:Operand}{n b o sz:Nat}{vs ws:List Value}{v:Value}{g:Option (Nat×Bool)}{er:Env}(ho:lget ops i=some ⟨dst, .store n x y,g⟩)(hm:lget bf i=some mask)
 (he:keepE e (slotsA ⟨dst, .store n x y,g⟩)=er)(hw:wantedA er g=some true)(hx:ev {h with log:=[]} er x=some (.pointer (some ⟨b,o,none⟩)))(hy:ev {h with log:=[]} er y=some v)(hb:h.get b=some (.cells vs true sz))
 (hc:(Nat.beq (llen (cellsOf v)) n&&Nat.ble (o+n) (llen vs)&&ones (cellsOf v))=true)(hws:lputs vs o (cellsOf v)=ws)(hlt:b<h.next)(hrs:recsAfter (h.wr base b (.cells ws true sz)) base [b] mask rs=some rs')
 (H:WD T base ops bf Q is rs' (dstE e dst (.tuple #[])) (h.wr base b (.cells ws true sz))):WD T base ops bf Q (i::is) rs e h:=
 wD_actH ho hm he hw rfl (a_store (h:={h with log:=[]}) hx hy hb hc hws) (eq_wrA hlt _) (lg_wr hlt _) hrs H
theorem log_wr_q{h:Heap}{base q:Nat}{o:AObj}(hl:h.log=[])(hq:q<base):(h.wr base q o).log=[q]:=by
 simp only[Heap.wr,nblt_of hq,hl,lhas,cond_true,cond_false]
def ints(l:List Int):List Value:=l.map fun x=> .int .i64 x
theorem ints_get{l:List Int}{i:Nat}(hi:i<l.length):(ints l)[i]? =some (.int .i64 (l.getD i 0)):=by
 simp[ints,List.getD,List.getElem?_eq_getElem hi]
set_option maxHeartbeats 4000000 in
theorem leaf_round(hp:primAS T){H:Heap}(hr:Rdy H){q p3 bb l2 n wc:Nat}{x7 x8 fv s1 s2:Value}{wa:Option Addr}{own:Bool}{ws:List Int}{m:Int}{x:Nat×Nat}(hx:x.2<n)(gl:H.get l2=some (.loop [(3, .pointer (some ⟨p3,0,none⟩)),(7,x7),(8,x8),(9, .pointer (some ⟨q,0,none⟩)),(21,fv)] [22] asgL bodyL 0 .normal))
 (gq:H.get q=some (.cells [.int .i64 m] true 1))(g3:H.get p3=some (.cells [.pointer (some ⟨bb,0,none⟩)] true 1))(gb:H.get bb=some (.cells [s1,s2, .slice wa n wc] own 1))(hws:SliceOf H 1 (.slice wa n wc) n (ints ws)):
 FW T (.yield l2) [nodeV x] H fun r H'=>r= .ret (.bool true)∧(∀z∈H'.log,q≤z∧z<q+1)∧(∀z,z<H.next→z≠q→H'.get z=H.get z)∧H'.get q=some (.cells [.int .i64 (mx m (ws.getD x.2 0))] true 1):=by
 have hlen:ws.length=n:=by have:=hws.len;simp[ints]at this;omega
 rcases hws.inv with⟨_,_,h0,_⟩|⟨b0,o0,cap,hv,s,hcap⟩
 ·omega
 cases hv
 obtain⟨vs,own',t0,g5,g6⟩:=slice_elem1 s (ints_get (l:=ws) (i:=x.2) (by omega))
 clear s
 have n1:=ne_loop gq gl
 have n2:=ne_loop g3 gl
 have n3:=ne_loop gb gl
 have n4:=ne_loop g5 gl
 have k1:=WF.get_lt hr.wf gq
 have k2:=WF.get_lt hr.wf g3
 have k3:=WF.get_lt hr.wf gb
 have k4:=WF.get_lt hr.wf g5
 have k5:=WF.get_lt hr.wf gl
 refine FW.yieldN hp (R:=fun H'=>(∀z,z<H.next→z≠q→H'.get z=H.get z)∧H'.get q=some (.cells [.int .i64 (mx m (ws.getD x.2 0))] true 1)) gl rfl k5 ?_
 unfold asgL nodeV
 refine wE_region ?_;refine wO_val a_new ?_;refine yS ?_;refine wO_nil ?_
 refine y1 ?_
 refine⟨rfl,by(simp(disch:=first|omega|(simp only[z1,z2];omega))only[z3,z4,z5,z6,z7,z1,z2, *];exact rfl),?_⟩
 unfold bodyL
 refine wE_block ?_;refine wE_draw ?_;refine qL ?_
 refine qL ?_
 refine wD_quiet rfl rfl rfl (by exact rfl) (by exact rfl) (by exact rfl) (a_nilchk (by exact rfl)) ?_;refine qF ?_
 refine qL ?_
 refine qF ?_
 refine qL ?_
 refine wD_quiet rfl rfl rfl (by exact rfl) (by exact rfl) (by exact rfl) (a_iaddrS (by exact rfl) (by exact rfl) hx) ?_
 skip
 refine wD_quiet rfl rfl rfl (by exact rfl) (by exact rfl) (by exact rfl) (a_load (by exact rfl) (by(simp(disch:=first|omega|(simp only[z1,z2];omega))only[z3,z4,z5,z6,z7,z1,z2, *];exact rfl)) g6) ?_
 refine wD_quiet rfl rfl rfl (by exact rfl) (by exact rfl) (by exact rfl) (a_max (by exact rfl) (by exact rfl)) ?_
 refine wD_storeA (ws:=[.int .i64 (mx m (ws.getD x.2 0))]) rfl rfl rfl (by exact rfl) (by exact rfl) (by exact rfl) (by(simp(disch:=first|omega|(simp only[z1,z2];omega))only[z3,z4,z5,z6,z7,z1,z2, *];exact rfl)) (by exact rfl) (by exact rfl) (by(simp only[z1,z2];omega)) (by apply ra_dropC rfl;apply ra_dropC rfl;apply ra_dropC rfl;apply ra_dropC rfl;apply ra_dropC rfl;apply ra_dropC rfl;apply ra_dropC rfl;apply ra_dropC rfl;apply ra_dropC rfl;apply ra_dropC rfl;exact ra_nil) ?_
 refine wD_nil ?_;refine y1 ?_;refine kB_n ?_
 refine⟨rfl,⟨_,by(simp(disch:=first|omega|(simp only[z1,z2];omega))only[z3,z4,z5,z6,z7,z1,z2, *];exact rfl),rfl⟩,?_,?_⟩
 ·intro z hz
  rw[log_wr_q (by exact(Heap.log_wr_new (Nat.zero_le _)).trans ((Heap.log_wr_new (Nat.le_refl _)).trans hr.log)) k1]at hz
  simp at hz;omega
 ·intro h5 hn hag hl5
  refine⟨fun z hz hne=> ?_,(hag q k1 n1).trans (by(simp(disch:=first|omega|(simp only[z1,z2];omega))only[z3,z4,z5,z6,z7,z1,z2, *];done))⟩
  by_cases hz2:z=l2
  ·rw[hz2];exact hl5.trans gl.symm
  ·exact(hag z hz hz2).trans ((z5 hne).trans ((z5 hz2).trans ((z5 (by omega)).trans (z4 hz))))
set_option maxHeartbeats 8000000 in
theorem cut_round(hp:primAS T)(f106:T 106=some f106){H:Heap}(hr:Rdy H){q p3 p7 p8 bb mb l2 a b:Nat}{fv s1 s3:Value}{own:Bool}{kerf m:Int}{t:Tab}{x:Nat×Nat}(hx:x.1=3∨x.1=4)(hx2:x.2<1000)(ha:a<1000)(hb:b<1000)(hk:0≤kerf∧kerf≤100)
 (hsum: -4611686018427387904≤look t (oneB x a b)+look t (twoB kerf x a b)∧look t (oneB x a b)+look t (twoB kerf x a b)≤4611686018427387904)(gl:H.get l2=some (.loop [(3, .pointer (some ⟨p3,0,none⟩)),(7, .pointer (some ⟨p7,0,none⟩)),(8, .pointer (some ⟨p8,0,none⟩)),(9, .pointer (some ⟨q,0,none⟩)),(35,fv)] [36] asgC bodyC 0 .normal))
 (gq:H.get q=some (.cells [.int .i64 m] true 1))(g3:H.get p3=some (.cells [.pointer (some ⟨bb,0,none⟩)] true 1))(g7:H.get p7=some (.cells [.map (some mb)] true 1))(g8:H.get p8=some (.cells [.int .i64 a, .int .i64 b] true 1))(gb:H.get bb=some (.cells [s1, .int .i64 kerf,s3] own 1))(gm:H.get mb=some (.map (ents t)))(h7:p7≠q):
 FW T (.yield l2) [nodeV x] H fun r H'=>r= .ret (.bool true)∧(∀z∈H'.log,q≤z∧z<q+1)∧(∀z,z<H.next→z≠q→H'.get z=H.get z)∧H'.get q=some (.cells [.int .i64 (mx m (look t (oneB x a b)+look t (twoB kerf x a b)))] true 1):=by
 have n1:=ne_loop gq gl
 have n2:=ne_loop g3 gl
 have n3:=ne_loop gb gl
 have n4:=ne_loop g7 gl
 have n5:=ne_loop g8 gl
 have n6:=ne_map gm gl
 have n7:=ne_cm gq gm
 have k1:=WF.get_lt hr.wf gq
 have k2:=WF.get_lt hr.wf g3
 have k3:=WF.get_lt hr.wf gb
 have k4:=WF.get_lt hr.wf g7
 have k5:=WF.get_lt hr.wf gl
 have k6:=WF.get_lt hr.wf g8
 have k7:=WF.get_lt hr.wf gm
 refine FW.yieldN hp (R:=fun H'=>(∀z,z<H.next→z≠q→H'.get z=H.get z)∧H'.get q=some (.cells [.int .i64 (mx m (look t (oneB x a b)+look t (twoB kerf x a b)))] true 1)) gl rfl k5 ?_
 unfold asgC
 refine wE_region ?_;refine wO_val a_new ?_;refine yS ?_;refine wO_nil ?_
 refine y1 ?_
 refine⟨rfl,by(simp(disch:=first|omega|(simp only[z1,z2];omega))only[z3,z4,z5,z6,z7,z1,z2, *];exact rfl),?_⟩
 unfold bodyC
 refine wE_block ?_;refine y4 ?_;refine yL ?_
 refine yN ?_
 refine yN ?_
 refine yC ?_
 have gB:(((H.push (.cells [.int .u8 0, .int .i64 0] true 1)).wr H.next H.next (.cells [.int .u8 x.1, .int .i64 x.2] true 1)).wr 0 l2 (.loop [(3, .pointer (some ⟨p3,0,none⟩)),(7, .pointer (some ⟨p7,0,none⟩)),(8, .pointer (some ⟨p8,0,none⟩)),(9, .pointer (some ⟨q,0,none⟩)),(35,fv)] [36] asgC bodyC 1 .normal)).get bb=some (.cells [s1, .int .i64 kerf,s3] own 1):=by(simp(disch:=first|omega|(simp only[z1,z2];omega))only[z3,z4,z5,z6,z7,z1,z2, *];done)
 have hw:WF (((H.push (.cells [.int .u8 0, .int .i64 0] true 1)).wr H.next H.next (.cells [.int .u8 x.1, .int .i64 x.2] true 1)).wr 0 l2 (.loop [(3, .pointer (some ⟨p3,0,none⟩)),(7, .pointer (some ⟨p7,0,none⟩)),(8, .pointer (some ⟨p8,0,none⟩)),(9, .pointer (some ⟨q,0,none⟩)),(35,fv)] [36] asgC bodyC 1 .normal)):=((hr.wf.push _).as (AS.wr _ _ _ _)).as (AS.wr _ _ _ _)
 refine FW.pu (split106 hp f106 (.of hw) gB (Nat.lt_succ_of_lt k3) hk hx hx2 ha hb) ?_
 refine yM ?_;refine yE ?_;refine yE ?_;refine wO_val a_new ?_;refine wO_val a_new ?_
 refine yS ?_
 refine yS ?_;refine y3 ?_;refine wE_draw ?_
 refine qL ?_
 refine qL ?_
 refine qN ?_
 refine wD_quiet rfl rfl rfl (by exact rfl) (by exact rfl) (by exact rfl) (a_lookup (x:=oneB x a b) (by exact rfl) (by exact rfl) (by(simp(disch:=first|omega|(simp only[z1,z2];omega))only[z3,z4,z5,z6,z7,z1,z2, *];exact rfl))) ?_
 refine qL ?_
 refine qN ?_
 refine wD_quiet rfl rfl rfl (by exact rfl) (by exact rfl) (by exact rfl) (a_lookup (x:=twoB kerf x a b) (by exact rfl) (by exact rfl) (by(simp(disch:=first|omega|(simp only[z1,z2];omega))only[z3,z4,z5,z6,z7,z1,z2, *];exact rfl))) ?_
 refine wD_quiet rfl rfl rfl (by exact rfl) (by exact rfl) (by exact rfl) (a_num (by exact rfl) (by exact rfl) (m_add (wrapA_i64 (by omega) (by omega)))) ?_
 refine wD_quiet rfl rfl rfl (by exact rfl) (by exact rfl) (by exact rfl) (a_max (by exact rfl) (by exact rfl)) ?_
 refine wD_storeA (ws:=[.int .i64 (mx m (look t (oneB x a b)+look t (twoB kerf x a b)))]) rfl rfl rfl (by exact rfl) (by exact rfl) (by exact rfl) (by(simp(disch:=first|omega|(simp only[z1,z2];omega))only[z3,z4,z5,z6,z7,z1,z2, *];exact rfl)) (by exact rfl) (by exact rfl) (by(simp only[z1,z2];omega)) (by apply ra_dropC rfl;apply ra_dropC rfl;apply ra_dropC rfl;apply ra_dropC rfl;apply ra_dropC rfl;apply ra_dropC rfl;apply ra_dropC rfl;apply ra_dropC rfl;apply ra_dropC rfl;exact ra_nil) ?_
 refine wD_nil ?_;refine y1 ?_;refine kB_n ?_
 refine⟨rfl,⟨_,by(simp(disch:=first|omega|(simp only[z1,z2];omega))only[z3,z4,z5,z6,z7,z1,z2, *];exact rfl),rfl⟩,?_,?_⟩
 ·intro z hz
  rw[log_wr_q (by simp(disch:=first|omega|(simp only[z1,z2];omega))only[Heap.log_wr_new,Heap.log_push];exact hr.log) k1]at hz
  simp at hz;omega
 ·intro h5 hn hag hl5
  refine⟨fun z hz hne=> ?_,(hag q k1 n1).trans (by(simp(disch:=first|omega|(simp only[z1,z2];omega))only[z3,z4,z5,z6,z7,z1,z2, *];done))⟩
  by_cases hz2:z=l2
  ·rw[hz2];exact hl5.trans gl.symm
  ·exact(hag z hz hz2).trans (by simp(disch:=first|omega|(simp only[z1,z2];omega))only[z5,z4])
end Go.A.Pk
end
section
set_option maxRecDepth 100000
namespace Go.A.Pk
variable {T:Nat→Option AFunc}
theorem mergeLog_ge{base:Nat}:∀{m l:List Nat},LogGe base m→mergeLog base l m=l
 |[],_,_=>rfl
 |b::m,l,h=>by
  have hb:=h b (List.mem_cons_self ..)
  simp only[mergeLog,nblt_not (show¬b<base by omega),cond_false]
  exact mergeLog_ge fun x hx=>h x (List.mem_cons_of_mem _ hx)
theorem SliceOf.agree{h h':Heap}{sz n:Nat}{v:Value}{cs:List Value}(s:SliceOf h sz v n cs)(hn:h.next≤h'.next)(ha:∀b vs o t,b<h.next→h.get b=some (.cells vs o t)→h'.get b=h.get b):SliceOf h' sz v n cs:=by
 cases s with
 |nil=>exact .nil
 |mem s hc=>
  obtain⟨vs,own,t,h1,h2⟩:=s.obj
  exact .mem ⟨Nat.lt_of_lt_of_le s.lt hn,⟨vs,own,t,(ha _ _ _ _ s.lt h1).trans h1,h2⟩,s.len⟩ hc
theorem PW.yld(hp:primAS T){l2 q:Nat}{H0:Heap}{L:AObj}{O:List (Nat×Nat)→AObj}{V:Nat×Nat→Value}{all:List (Nat×Nat)}(hq:q<l2)
 (hround:∀done x H',x∈all→Rdy H'→l2<H'.next→PW l2 q H0 L O done H'→FW T (.yield l2) [V x] H' fun r H''=>r= .ret (.bool true)∧(∀z∈H''.log,q≤z∧z<q+1)∧(∀z,z<H'.next→z≠q→H''.get z=H'.get z)∧H''.get q=some (O (done++[x]))):
 Yld T q (l2+1) l2 V all (PW l2 q H0 L O)where
 yields:=fun done x H hx hr hN hP=>FW.mono' (FW.withAS hp (hround done x H hx hr hN hP) hr.log) fun r H' ⟨hA,h1,h2,h3,h4⟩=>⟨h1,fun z hz=>by have:=h2 z hz;omega,⟨fun y hy hne=>(h3 y (by omega) hne).trans (hP.old y hy hne),h4,(h3 l2 (by omega) (by omega)).trans hP.loop,Nat.lt_of_lt_of_le hP.nx hA.next⟩⟩
 stable:=fun done H H' p hn h=>PW.stable hq done H H' p hn h
theorem inner_range{base:Nat}{rnd:Option Nat}{e:Env}{ds:Dfs}{Q:XQ}{h1:Heap}{f:Operand}{g q:Nat}{first cap:Array Value}{ps:List Nat}{asg body:ACode}{all:List (Nat×Nat)}{O:List (Nat×Nat)→AObj}(hr:roundA h1 rnd=true)(hf:ev h1 e f=some (.func (.func g) first cap))(hnc:notCode (T g)=false)
 (hB:base≤h1.next)(hq:base≤q)(hlog:h1.log=[])(w1:WF h1)
 (HG:Gr T g (lcat first.toList (lcat [.func (.yield h1.next) #[] #[]] cap.toList)) {h1.push (.loop e ps asg body 0 .normal)with log:=[]} q fun v h'=>v= .tuple #[]∧PW h1.next q h1 (.loop e ps asg body 0 .normal) O all h')(hqn:q<h1.next)
 (K:∀h3,h3.log=[]→WF h3→h1.next≤h3.next→(∀z,z<h1.next→z≠q→h3.get z=h1.get z)→h3.get q=some (O all)→Q .normal e ds h3):WE T base rnd (.rangeFunc f ps asg body) Q e ds h1:=by
 refine wE_range hr hf hnc (CW.mono HG ?_)
 rintro r h2 ⟨hk,v,rfl,rfl,hP⟩
 refine⟨_,rfl,_,_,_,_,_,_,hP.loop,rfl,?_⟩
 have hl2:LogGe base h2.log:=fun z hz=>Nat.le_trans hq (hk.log (LogGe.nil _) z hz)
 refine K _ ?_ ?_ ?_ (fun z hz hne=> ?_) ?_
 ·rw[Heap.log_wr_new hB]
  show mergeLog base h1.log h2.log=[]
  rw[mergeLog_ge hl2,hlog]
 ·exact((hk.wf ((w1.push _).log _)).log _).as (AS.wr _ _ _ _)
 ·have:=hk.next
  have e1:h1.next+1≤h2.next:=this
  show h1.next≤h2.next
  omega
 ·exact(z5 (by omega)).trans (hP.old z hz hne)
 ·exact(z5 (by omega)).trans hP.obj
def leafM(ws:List Int)(xs:List (Nat×Nat))(m:Int):Int:=xs.foldl (fun m x=>mx m (ws.getD x.2 0)) m
def cutM(kerf:Int)(t:Tab)(a b:Nat)(xs:List (Nat×Nat))(m:Int):Int:=xs.foldl (fun m x=>mx m (look t (oneB x a b)+look t (twoB kerf x a b))) m
def val(kerf:Int)(ws:List Int)(kl:List Kd)(t:Tab)(a b:Nat):Int:=cutM kerf t a b (cutsL a b) (leafM ws (leavesL a b kl 0) 0)
theorem leafM_snoc(ws:List Int)(xs:List (Nat×Nat))(x:Nat×Nat)(m:Int):leafM ws (xs++[x]) m=mx (leafM ws xs m) (ws.getD x.2 0):=by simp[leafM]
theorem cutM_snoc(kerf:Int)(t:Tab)(a b:Nat)(xs:List (Nat×Nat))(x:Nat×Nat)(m:Int):cutM kerf t a b (xs++[x]) m=mx (cutM kerf t a b xs m) (look t (oneB x a b)+look t (twoB kerf x a b)):=by simp[cutM]
theorem leafAt_idx{k:Kd}{i a b:Nat}:∀x∈leafAt k i a b,x.2=i:=by
 intro x hx
 unfold leafAt at hx
 simp only[List.mem_append]at hx
 rcases hx with hx|hx<;>split at hx<;>simp at hx<;>rw[hx]
theorem leaves_idx{a b:Nat}:∀{l:List Kd} {i:Nat},∀x∈leavesL a b l i,x.2<i+l.length
 |[],i,x,hx=>by cases hx
 |k::l,i,x,hx=>by
  simp only[leavesL,List.mem_append]at hx
  rcases hx with hx|hx
  ·rw[leafAt_idx x hx];simp
  ·have:=leaves_idx x hx;simp;omega
theorem row_of{c n:Nat}{x:Nat×Nat}(h:x∈row c n):x.1=c∧1≤x.2∧x.2≤n:=by
 simp only[row,List.mem_map,List.mem_range]at h
 obtain⟨i,hi,rfl⟩:=h
 exact⟨rfl,by simp,by simp;omega⟩
theorem cuts_of{a b:Nat}{x:Nat×Nat}(h:x∈cutsL a b):(x.1=3∧1≤x.2∧x.2≤a-1)∨(x.1=4∧1≤x.2∧x.2≤b-1):=by
 simp only[cutsL,List.mem_append]at h
 exact h.imp row_of row_of
theorem WO.gen{base:Nat}{rnd:Option Nat}{Q:XQ}{ops:List AOper}{e:Env}{ds:Dfs}{h:Heap}(hK:∀hA,hA=h→WO T base rnd Q ops e ds hA):WO T base rnd Q ops e ds h:=hK h rfl
structure FnsV (T:Nat→Option AFunc):Prop where
 p:primAS T
 f94:T 94=some f94
 f104:T 104=some f104
 f105:T 105=some f105
 f106:T 106=some f106
 f136:T 136=some f136
 f140:T 140=some f140
 f141:T 141=some f141
 f83:T 83=some f83
set_option maxHeartbeats 8000000 in
theorem best_round(F:FnsV T){H:Heap}(hr:Rdy H){p3 pm mb bb l n c wc a b:Nat}{sa wa:Option Addr}{fv:Value}{kerf:Int}{ws:List Int}{kl:List Kd}{t:Tab}(ha:a<1000)(hb:b<1000)(hn:n<1000)(hk:0≤kerf∧kerf≤100)
 (hsum:∀x∈cutsL a b, -4611686018427387904≤look t (oneB x a b)+look t (twoB kerf x a b)∧look t (oneB x a b)+look t (twoB kerf x a b)≤4611686018427387904)(gl:H.get l=some (.loop [(3, .pointer (some ⟨p3,0,none⟩)),(7, .pointer (some ⟨pm,0,none⟩)),(17,fv)] [18] asgO bodyO 0 .normal))
 (g3:H.get p3=some (.cells [.pointer (some ⟨bb,0,none⟩)] true 1))(gm:H.get pm=some (.cells [.map (some mb)] true 1))(gt:H.get mb=some (.map (ents t)))(gb:H.get bb=some (.cells [.slice sa n c, .int .i64 kerf, .slice wa n wc] true 1))(hks:SliceOf H 5 (.slice sa n c) n (kcs kl))(hws:SliceOf H 1 (.slice wa n wc) n (ints ws)):
 FW T (.yield l) [boardV (a,b)] H fun r H'=>r= .ret (.bool true)∧(∀z∈H'.log,mb≤z∧z<mb+1)∧(∀z,z<H.next→z≠mb→H'.get z=H.get z)∧H'.get mb=some (.map (ents (upd t (a,b) (val kerf ws kl t a b)))):=by
 have n2:=ne_loop g3 gl
 have n3:=ne_loop gb gl
 have n4:=ne_loop gm gl
 have n6:=ne_map gt gl
 have m1:=ne_cm g3 gt
 have m2:=ne_cm gm gt
 have m3:=ne_cm gb gt
 have k2:=WF.get_lt hr.wf g3
 have k3:=WF.get_lt hr.wf gb
 have k4:=WF.get_lt hr.wf gm
 have k5:=WF.get_lt hr.wf gl
 have k7:=WF.get_lt hr.wf gt
 refine FW.yieldN F.p (R:=fun H'=>(∀z,z<H.next→z≠mb→H'.get z=H.get z)∧H'.get mb=some (.map (ents (upd t (a,b) (val kerf ws kl t a b))))) gl rfl k5 ?_
 unfold asgO
 refine wE_region ?_;refine wO_val a_new ?_;refine yS ?_;refine wO_nil ?_
 refine y1 ?_
 refine⟨rfl,by(simp(disch:=first|omega|(simp only[z1,z2];omega))only[z3,z4,z5,z6,z7,z1,z2, *];exact rfl),?_⟩
 unfold bodyO
 refine wE_block ?_;refine y4 ?_;refine wO_val a_new ?_
 refine yS ?_;refine y3 ?_;refine wE_seq ?_;refine y4 ?_
 refine yL ?_
 refine yN ?_
 refine WO.gen ?_
 intro hA hAe
 have A1:∀z,z<H.next→z≠l→hA.get z=H.get z:=fun z hz hne=>by rw[hAe];simp(disch:=first|omega|(simp only[z1,z2];omega))only[z5,z4]
 have A2:hA.get l=some (.loop [(3, .pointer (some ⟨p3,0,none⟩)),(7, .pointer (some ⟨pm,0,none⟩)),(17,fv)] [18] asgO bodyO 1 .normal):=by rw[hAe];(simp(disch:=first|omega|(simp only[z1,z2];omega))only[z3,z4,z5,z6,z7,z1,z2, *];exact rfl)
 have A3:hA.get H.next=some (.cells [.int .i64 a, .int .i64 b] true 1):=by rw[hAe];(simp(disch:=first|omega|(simp only[z1,z2];omega))only[z3,z4,z5,z6,z7,z1,z2, *];exact rfl)
 have A4:hA.get (H.next+1)=some (.cells [.int .i64 0] true 1):=by rw[hAe];(simp(disch:=first|omega|(simp only[z1,z2];omega)|(simp only[z1,z2];done)|fail)only[z8,z4,z5,z9,z7,z1,z2, *];exact rfl)
 have A5:hA.next=H.next+2:=by rw[hAe];rfl
 have A6:hA.log=[]:=by rw[hAe];simp(disch:=first|omega|(simp only[z1,z2];omega))only[Heap.log_wr_new,Heap.log_push];exact hr.log
 have A7:WF hA:=by rw[hAe];exact((((hr.wf.push _).as (AS.wr _ _ _ _)).as (AS.wr _ _ _ _)).push _).as (AS.wr _ _ _ _)
 clear hAe
 refine yC ?_
 refine FW.al (leaves104 F.p F.f104 (.of A7) bb a b) (fun _ _ _ q=>q) ?_
 rintro _ h1 hx1 ⟨rfl,hn1,gp,gx⟩
 have eA:({hA with log:=[]}:Heap).next=H.next+2:=A5
 rw[eA]at hn1 gp gx
 rw[eA]
 have B1:∀z,z<H.next→z≠l→h1.get z=H.get z:=fun z hz hne=>(hx1.old z (by omega)).trans (A1 z hz hne)
 have B2:h1.get l=some (.loop [(3, .pointer (some ⟨p3,0,none⟩)),(7, .pointer (some ⟨pm,0,none⟩)),(17,fv)] [18] asgO bodyO 1 .normal):=(hx1.old l (by omega)).trans A2
 have B3:h1.get H.next=some (.cells [.int .i64 a, .int .i64 b] true 1):=(hx1.old _ (by omega)).trans A3
 have B4:h1.get (H.next+1)=some (.cells [.int .i64 0] true 1):=(hx1.old _ (by omega)).trans A4
 have B6:h1.log=[]:=hx1.log.trans A6
 have B7:WF h1:=hx1.wf A7
 have hlen:kl.length=n:=by have:=hks.len;rw[kcs_length]at this;omega
 clear hx1 A1 A2 A3 A4 A6 A7
 refine y3 ?_;refine wE_block ?_
 refine inner_range (q:=H.next+1) (all:=leavesL a b kl 0) (O:=fun d=> .cells [.int .i64 (leafM ws d 0)] true 1) (round_ok B2) (by rfl) (by rw[F.f140];rfl) (by omega) (by omega) B6 B7 ?_ (by omega) ?_
 ·refine leaves140 F.p F.f140 (.of (B7.push _)) (pb:=H.next+2) (bb:=bb) (px:=H.next+3) (l':=h1.next) (N:=h1.next+1) (lo:=H.next+1) (a:=a) (b:=b) (n:=n) (c:=c) (sa:=sa) (l:=kl) (v1:= .int .i64 kerf) (v2:= .slice wa n wc) (Nat.le_refl _) (by show H.next+1≤h1.next+1;omega) hn
   (PW.yld F.p (by omega) fun done x H' hx hr' hlt hP=> ?_) ((z4 (by omega)).trans gp) ((z4 (by omega)).trans ((B1 bb k3 n3).trans gb)) (fun d H' hP=> ?_) (fun d H' hP=>(hP.old _ (by omega) (by omega)).trans gx) ⟨fun z hz _=>z4 hz,(z4 (by omega)).trans B4,z3 _ _,Nat.lt_succ_self _⟩
  ·refine FW.mono' (leaf_round F.p hr' (x:=x) (n:=n) (by have:=leaves_idx x hx;omega) hP.loop hP.obj ((hP.old p3 (by omega) (by omega)).trans ((B1 p3 k2 n2).trans g3)) ((hP.old bb (by omega) (by omega)).trans ((B1 bb k3 n3).trans gb)) (SliceOf.agree hws (by omega) fun b0 vs o t hb he=>(hP.old b0 (by omega) (by omega)).trans (B1 b0 hb (ne_loop he gl)))) ?_
   rintro r H'' ⟨q1,q2,q3,q4⟩
   exact⟨q1,q2,q3,by rw[leafM_snoc];exact q4⟩
  ·have:=hP.nx
   exact SliceOf.agree hks (by omega) fun b0 vs o t hb he=>(hP.old b0 (by omega) (by omega)).trans (B1 b0 hb (ne_loop he gl))
 intro h3 c1 c2 c3 c4 c5
 have D1:∀z,z<H.next→z≠l→h3.get z=H.get z:=fun z hz hne=>(c4 z (by omega) (by omega)).trans (B1 z hz hne)
 have D2:h3.get l=some (.loop [(3, .pointer (some ⟨p3,0,none⟩)),(7, .pointer (some ⟨pm,0,none⟩)),(17,fv)] [18] asgO bodyO 1 .normal):=(c4 l (by omega) (by omega)).trans B2
 have D3:h3.get H.next=some (.cells [.int .i64 a, .int .i64 b] true 1):=(c4 _ (by omega) (by omega)).trans B3
 have D5:h3.get p3=some (.cells [.pointer (some ⟨bb,0,none⟩)] true 1):=(D1 p3 k2 n2).trans g3
 clear B1 B2 B3 B4 B6 B7 c4 gp gx
 refine kB_n ?_;refine kS_n ?_;refine wE_seq ?_;refine y4 ?_;refine yL ?_;refine yN ?_
 refine yC ?_
 refine FW.al (cuts105 F.p F.f105 (.of c2) _ a b) (fun _ _ _ q=>q) ?_
 rintro _ h4 hx4 ⟨rfl,hn4,gx4⟩
 have e3:({h3 with log:=[]}:Heap).next=h3.next:=rfl
 rw[e3]at hn4 gx4
 rw[e3]
 have E1:∀z,z<H.next→z≠l→h4.get z=H.get z:=fun z hz hne=>(hx4.old z (by omega)).trans (D1 z hz hne)
 have E2:h4.get l=some (.loop [(3, .pointer (some ⟨p3,0,none⟩)),(7, .pointer (some ⟨pm,0,none⟩)),(17,fv)] [18] asgO bodyO 1 .normal):=(hx4.old l (by omega)).trans D2
 have E3:h4.get H.next=some (.cells [.int .i64 a, .int .i64 b] true 1):=(hx4.old _ (by omega)).trans D3
 have E4:h4.get (H.next+1)=some (.cells [.int .i64 (leafM ws (leavesL a b kl 0) 0)] true 1):=(hx4.old _ (by omega)).trans c5
 have E6:h4.log=[]:=hx4.log.trans c1
 have E7:WF h4:=hx4.wf c2
 clear hx4 D1 D2 D3 D5 c1 c2 c5
 refine y3 ?_;refine wE_block ?_
 refine inner_range (q:=H.next+1) (all:=cutsL a b) (O:=fun d=> .cells [.int .i64 (cutM kerf t a b d (leafM ws (leavesL a b kl 0) 0))] true 1) (round_ok E2) (by rfl) (by rw[F.f141];rfl) (by omega) (by omega) E6 E7 ?_ (by omega) ?_
 ·refine cuts141 F.p F.f141 (.of (E7.push _)) (bx:=h3.next) (l:=h4.next) (N:=h4.next+1) (lo:=H.next+1) (a:=a) (b:=b) (Nat.le_refl _) (by show H.next+1≤h4.next+1;omega) ha hb
   (PW.yld F.p (by omega) fun done x H' hx hr' hlt hP=> ?_) (fun d H' hP=>(hP.old _ (by omega) (by omega)).trans gx4) ⟨fun z hz _=>z4 hz,(z4 (by omega)).trans E4,z3 _ _,Nat.lt_succ_self _⟩
  have hxc:=cuts_of hx
  refine FW.mono' (cut_round F.p F.f106 hr' (x:=x) (t:=t) (by omega) (by omega) ha hb hk (hsum x hx) hP.loop hP.obj ((hP.old p3 (by omega) (by omega)).trans ((E1 p3 k2 n2).trans g3)) ((hP.old pm (by omega) (by omega)).trans ((E1 pm k4 n4).trans gm)) ((hP.old H.next (by omega) (by omega)).trans E3) ((hP.old bb (by omega) (by omega)).trans ((E1 bb k3 n3).trans gb)) ((hP.old mb (by omega) (by omega)).trans ((E1 mb k7 n6).trans gt)) (show pm≠H.next+1 by omega)) ?_
  rintro r H'' ⟨q1,q2,q3,q4⟩
  exact⟨q1,q2,q3,by rw[cutM_snoc];exact q4⟩
 intro h5 c1 c2 c3 c4 c5
 have G1:∀z,z<H.next→z≠l→h5.get z=H.get z:=fun z hz hne=>(c4 z (by omega) (by omega)).trans (E1 z hz hne)
 have G2:h5.get l=some (.loop [(3, .pointer (some ⟨p3,0,none⟩)),(7, .pointer (some ⟨pm,0,none⟩)),(17,fv)] [18] asgO bodyO 1 .normal):=(c4 l (by omega) (by omega)).trans E2
 have G3:h5.get H.next=some (.cells [.int .i64 a, .int .i64 b] true 1):=(c4 _ (by omega) (by omega)).trans E3
 have G7:h5.get pm=some (.cells [.map (some mb)] true 1):=(G1 pm k4 n4).trans gm
 have G8:h5.get mb=some (.map (ents t)):=(G1 mb k7 n6).trans gt
 clear E1 E2 E3 E4 E6 E7 c4 gx4
 refine kB_n ?_;refine kS_n ?_;refine wE_region ?_;refine yL ?_;refine yN ?_;refine yL ?_
 refine wO_val (a_mapUp (x:=(a,b)) (by exact rfl) (by exact rfl) (by exact rfl) G8) ?_
 refine wO_nil ?_;refine y1 ?_;refine kB_n ?_
 refine⟨rfl,⟨_,by(simp(disch:=first|omega|(simp only[z1,z2];omega))only[z3,z4,z5,z6,z7,z1,z2, *];exact rfl),rfl⟩,?_,?_⟩
 ·intro z hz
  rw[log_wr_q c1 k7]at hz
  simp at hz;omega
 ·intro h6 hn6 hag hl6
  refine⟨fun z hz hne=> ?_,(hag mb k7 n6).trans (Heap.get_wr_new G8)⟩
  by_cases hz2:z=l
  ·rw[hz2];exact hl6.trans gl.symm
  ·exact(hag z hz hz2).trans ((z5 hne).trans (G1 z hz hz2))
end Go.A.Pk
end
section
set_option maxRecDepth 100000
namespace Go.A.Pk
variable {T:Nat→Option AFunc}
theorem a_mkMap{base:Nat}{h:Heap}{e:Env}:aop h base e .mkMap=some (.val (.map (some h.next)) (h.push (.map []))):=rfl
def Bd(W:Int)(t:Tab):Prop:=∀e∈t,1≤e.1.1∧1≤e.1.2∧0≤e.2∧e.2≤W*((e.1.1:Int)*(e.1.2:Int))
theorem look_bd{W:Int}:∀{t:Tab} (x:Int×Int),Bd W t→look t x=0∨(1≤x.1∧1≤x.2∧0≤look t x∧look t x≤W*(x.1*x.2))
 |[],_,_=> .inl rfl
 |e::t,x,h=>by
  simp only[look]
  by_cases hk:isKey x e=true
  ·rw[if_pos hk]
   have h1:=h e (List.mem_cons_self ..)
   simp only[isKey,decide_eq_true_eq]at hk
   rw[hk.1,hk.2]
   exact .inr ⟨by omega,by omega,h1.2.2.1,h1.2.2.2⟩
  ·rw[if_neg hk]
   exact look_bd x fun e he=>h e (List.mem_cons_of_mem _ he)
theorem upd_bd{W:Int}{x:Nat×Nat}{v:Int}(hx:1≤x.1∧1≤x.2)(hv:0≤v∧v≤W*((x.1:Int)*(x.2:Int))):∀{t:Tab},Bd W t→Bd W (upd t x v)
 |[],_,e,he=>by
  simp only[upd,List.mem_singleton]at he
  subst he
  exact⟨hx.1,hx.2,hv.1,hv.2⟩
 |e0::t,h,e,he=>by
  simp only[upd]at he
  split at he
  ·rcases List.mem_cons.1 he with rfl|he
   ·exact⟨hx.1,hx.2,hv.1,hv.2⟩
   ·exact h e (List.mem_cons_of_mem _ he)
  ·rcases List.mem_cons.1 he with rfl|he
   ·exact h e (List.mem_cons_self ..)
   ·exact upd_bd hx hv (fun e he=>h e (List.mem_cons_of_mem _ he)) e he
theorem mx_le{a b c:Int}(h1:a≤c)(h2:b≤c):mx a b≤c:=by unfold mx;split<;>assumption
theorem mx_ge{a b:Int}:a≤mx a b∧b≤mx a b:=by unfold mx;split<;>omega
theorem area_mono{W a b c d:Int}(hW:0≤W)(ha:0≤a)(hab:a≤c)(hb:0≤b)(hbd:b≤d):W*(a*b)≤W*(c*d):=
 Int.mul_le_mul_of_nonneg_left (Int.le_trans (Int.mul_le_mul_of_nonneg_right hab hb) (Int.mul_le_mul_of_nonneg_left hbd (by omega))) hW
theorem cut_bd{W kerf:Int}{t:Tab}(hW:0≤W)(hk:0≤kerf)(ht:Bd W t){a b:Nat}{x:Nat×Nat}(hx:x∈cutsL a b):0≤look t (oneB x a b)+look t (twoB kerf x a b)∧look t (oneB x a b)+look t (twoB kerf x a b)≤W*((a:Int)*(b:Int)):=by
 have h1:=look_bd (oneB x a b) ht
 have h2:=look_bd (twoB kerf x a b) ht
 have h0:0≤W*((a:Int)*(b:Int)):=Int.mul_nonneg hW (Int.mul_nonneg (by omega) (by omega))
 rcases cuts_of hx with⟨e3,hl,hu⟩|⟨e4,hl,hu⟩
 ·simp only[oneB,twoB,e3,if_true]at h1 h2⊢
  rcases h1 with h1|h1
  ·rcases h2 with h2|h2
   ·rw[h1,h2];omega
   ·have:=area_mono (W:=W) (a:=(a:Int)-x.2-kerf) (b:=b) (c:=a) (d:=b) hW (by omega) (by omega) (by omega) (Int.le_refl _)
    rw[h1];omega
  ·rcases h2 with h2|h2
   ·have:=area_mono (W:=W) (a:=(x.2:Int)) (b:=b) (c:=a) (d:=b) hW (by omega) (by omega) (by omega) (Int.le_refl _)
    rw[h2];omega
   ·have e:W*((x.2:Int)*b)+W*(((a:Int)-x.2-kerf)*b)=W*(((x.2:Int)+((a:Int)-x.2-kerf))*b):=by rw[Int.add_mul,Int.mul_add]
    have:=area_mono (W:=W) (a:=(x.2:Int)+((a:Int)-x.2-kerf)) (b:=b) (c:=a) (d:=b) hW (by omega) (by omega) (by omega) (Int.le_refl _)
    omega
 ·have n3:¬x.1=3:=by omega
  simp only[oneB,twoB,if_neg n3]at h1 h2⊢
  rcases h1 with h1|h1
  ·rcases h2 with h2|h2
   ·rw[h1,h2];omega
   ·have:=area_mono (W:=W) (a:=a) (b:=(b:Int)-x.2-kerf) (c:=a) (d:=b) hW (by omega) (Int.le_refl _) (by omega) (by omega)
    rw[h1];omega
  ·rcases h2 with h2|h2
   ·have:=area_mono (W:=W) (a:=a) (b:=(x.2:Int)) (c:=a) (d:=b) hW (by omega) (Int.le_refl _) (by omega) (by omega)
    rw[h2];omega
   ·have e:W*((a:Int)*x.2)+W*((a:Int)*((b:Int)-x.2-kerf))=W*((a:Int)*((x.2:Int)+((b:Int)-x.2-kerf))):=by rw[Int.mul_add (a:Int),Int.mul_add W]
    have:=area_mono (W:=W) (a:=a) (b:=(x.2:Int)+((b:Int)-x.2-kerf)) (c:=a) (d:=b) hW (by omega) (Int.le_refl _) (by omega) (by omega)
    omega
theorem leafM_bd{W B:Int}{ws:List Int}(hws:∀x∈ws,0≤x∧x≤W)(hWB:W≤B)(hW:0≤W):∀{xs:List (Nat×Nat)} {m:Int},0≤m→m≤B→0≤leafM ws xs m∧leafM ws xs m≤B
 |[],m,h1,h2=>⟨h1,h2⟩
 |x::xs,m,h1,h2=>by
  have hx:0≤ws.getD x.2 0∧ws.getD x.2 0≤W:=by
   by_cases hi:x.2<ws.length
   ·have:=hws _ (List.getElem_mem hi)
    simpa[List.getD,List.getElem?_eq_getElem hi]using this
   ·have:ws.getD x.2 0=0:=by simp[List.getD,List.getElem?_eq_none (by omega:ws.length≤x.2)]
    rw[this];omega
  exact leafM_bd hws hWB hW (xs:=xs) (m:=mx m (ws.getD x.2 0)) (Int.le_trans h1 mx_ge.1) (mx_le h2 (by omega))
theorem cutM_bd{B kerf:Int}{t:Tab}{a b:Nat}:∀{xs:List (Nat×Nat)} {m:Int},(∀x∈xs,look t (oneB x a b)+look t (twoB kerf x a b)≤B)→0≤m→m≤B→0≤cutM kerf t a b xs m∧cutM kerf t a b xs m≤B
 |[],m,_,h1,h2=>⟨h1,h2⟩
 |x::xs,m,hx,h1,h2=>cutM_bd (xs:=xs) (m:=mx m _) (fun y hy=>hx y (List.mem_cons_of_mem _ hy)) (Int.le_trans h1 mx_ge.1) (mx_le h2 (hx x (List.mem_cons_self ..)))
theorem val_bd{W kerf:Int}{ws:List Int}{kl:List Kd}{t:Tab}(hW:0≤W)(hk:0≤kerf)(hws:∀x∈ws,0≤x∧x≤W)(ht:Bd W t){a b:Nat}(ha:1≤a)(hb:1≤b):0≤val kerf ws kl t a b∧val kerf ws kl t a b≤W*((a:Int)*(b:Int)):=by
 have hWB:W≤W*((a:Int)*(b:Int)):=by
  have:=area_mono (W:=W) (a:=1) (b:=1) (c:=a) (d:=b) hW (by omega) (by omega) (by omega) (by omega)
  omega
 obtain⟨h1,h2⟩:=leafM_bd (xs:=leavesL a b kl 0) (m:=0) hws hWB hW (Int.le_refl _) (by omega)
 exact cutM_bd (fun x hx=>(cut_bd hW hk ht hx).2) h1 h2
def tabL(kerf:Int)(ws:List Int)(kl:List Kd)(done:List (Nat×Nat)):Tab:=done.foldl (fun t x=>upd t x (val kerf ws kl t x.1 x.2)) []
theorem tabL_snoc(kerf:Int)(ws:List Int)(kl:List Kd)(done:List (Nat×Nat))(x:Nat×Nat):tabL kerf ws kl (done++[x])=upd (tabL kerf ws kl done) x (val kerf ws kl (tabL kerf ws kl done) x.1 x.2):=by simp[tabL]
theorem boards_of:∀{w h:Nat} {x:Nat×Nat},x∈boardsL w h→1≤x.1∧x.1≤w∧1≤x.2∧x.2≤h
 |0,_,_,hx=>by cases hx
 |w+1,h,x,hx=>by
  simp only[boardsL,List.mem_append]at hx
  rcases hx with hx|hx
  ·have:=boards_of hx;omega
  ·have:=row_of hx;omega
set_option maxHeartbeats 8000000 in
theorem best83(F:FnsV T){h:Heap}(hr:Rdy h){bb n c wc w ht:Nat}{sa wa:Option Addr}{kerf W:Int}{ws:List Int}{kl:List Kd}(hw:w<1000)(hh:ht<1000)(hn:n<1000)(hk:0≤kerf∧kerf≤100)(hW:0≤W∧W≤1000000000)(hws0:∀x∈ws,0≤x∧x≤W)
 (gb:h.get bb=some (.cells [.slice sa n c, .int .i64 kerf, .slice wa n wc] true 1))(hks:SliceOf h 5 (.slice sa n c) n (kcs kl))(hws:SliceOf h 1 (.slice wa n wc) n (ints ws)):
 Al T 83 [.pointer (some ⟨bb,0,none⟩), .int .i64 w, .int .i64 ht] h fun v h'=>∃r,v= .map (some r)∧h'.get r=some (.map (ents (tabL kerf ws kl (boardsL w ht)))):=by
 refine .of F.p F.f83 hr (fun v h1 hv q=>by obtain⟨r,rfl,_⟩:=q;cases hv) ?_
 have kb:=WF.get_lt hr.wf gb
 refine y4 ?_;refine yB ?_;refine yM ?_;refine y3 ?_;refine y4 ?_
 refine wO_val a_mkMap ?_
 refine wO_val a_new ?_;refine yS ?_
 refine y3 ?_;refine wE_seq ?_;refine y4 ?_;refine yM ?_;refine yM ?_
 refine WO.gen ?_
 intro hA hAe
 have A1:∀z,z<h.next→hA.get z=h.get z:=fun z hz=>by rw[hAe];simp(disch:=first|omega|(simp only[z1,z2];omega))only[z5,z4]
 have A2:hA.get h.next=some (.cells [.pointer (some ⟨bb,0,none⟩)] true 1):=by rw[hAe];(simp(disch:=first|omega|(simp only[z1,z2];omega))only[z3,z4,z5,z6,z7,z1,z2, *];exact rfl)
 have A3:hA.get (h.next+1)=some (.map []):=by rw[hAe];(simp(disch:=first|omega|(simp only[z1,z2];omega)|(simp only[z1,z2];done)|fail)only[z8,z4,z5,z9,z7,z1,z2, *];done)
 have A4:hA.get (h.next+2)=some (.cells [.map (some (h.next+1))] true 1):=by rw[hAe];(simp(disch:=first|omega|(simp only[z1,z2];omega)|(simp only[z1,z2];done)|fail)only[z8,z4,z5,z9,z7,z1,z2, *];exact rfl)
 have A5:hA.next=h.next+3:=by rw[hAe];rfl
 have A6:hA.log=[]:=by rw[hAe];simp(disch:=first|omega|(simp only[z1,z2];omega))only[Heap.log_wr_new,Heap.log_push];exact hr.log
 have A7:WF hA:=by rw[hAe];exact(((hr.wf.push _).push _).push _).as (AS.wr _ _ _ _)
 clear hAe
 refine yC ?_
 refine FW.al (boards94 F.p F.f94 (.of A7) w ht) (fun _ _ _ q=>q) ?_
 rintro _ h1 hx1 ⟨rfl,hn1,gp,gx⟩
 have eA:({hA with log:=[]}:Heap).next=h.next+3:=A5
 rw[eA]at hn1 gp gx
 rw[eA]
 have B1:∀z,z<h.next→h1.get z=h.get z:=fun z hz=>(hx1.old z (by omega)).trans (A1 z hz)
 have B2:h1.get h.next=some (.cells [.pointer (some ⟨bb,0,none⟩)] true 1):=(hx1.old _ (by omega)).trans A2
 have B3:h1.get (h.next+1)=some (.map []):=(hx1.old _ (by omega)).trans A3
 have B4:h1.get (h.next+2)=some (.cells [.map (some (h.next+1))] true 1):=(hx1.old _ (by omega)).trans A4
 have B6:h1.log=[]:=hx1.log.trans A6
 have B7:WF h1:=hx1.wf A7
 clear hx1 A1 A2 A3 A4 A6 A7
 refine y3 ?_;refine wE_block ?_
 refine inner_range (q:=h.next+1) (all:=boardsL w ht) (O:=fun d=> .map (ents (tabL kerf ws kl d))) rfl (by rfl) (by rw[F.f136];rfl) (by omega) (by omega) B6 B7 ?_ (by omega) ?_
 ·have Y:Yld T (h.next+1) (h1.next+1) h1.next boardV (boardsL w ht) fun d H=>PW h1.next (h.next+1) h1 (.loop [(3, .pointer (some ⟨h.next,0,none⟩)),(7, .pointer (some ⟨h.next+2,0,none⟩)),(17,fn2 136 (h.next+3) (h.next+4))] [18] asgO bodyO 0 .normal) (fun d=> .map (ents (tabL kerf ws kl d))) d H∧Bd W (tabL kerf ws kl d):=by
   refine⟨fun done x H hx hrH hN hP=> ?_,fun d H H' hP hN hag=>⟨PW.stable (by omega) d H H' hP.1 hN hag,hP.2⟩⟩
   obtain⟨hP,hB⟩:=hP
   have hxb:=boards_of hx
   have hV:=val_bd (kl:=kl) hW.1 hk.1 hws0 hB hxb.1 hxb.2.2.1
   obtain⟨x1,x2⟩:=x
   simp only at hxb hV
   refine FW.mono' (FW.withAS F.p (best_round F hrH (a:=x1) (b:=x2) (t:=tabL kerf ws kl done) (by omega) (by omega) hn hk (fun y hy=> ?_) hP.loop ((hP.old _ (by omega) (by omega)).trans B2) ((hP.old _ (by omega) (by omega)).trans B4) hP.obj ((hP.old bb (by omega) (by omega)).trans ((B1 bb kb).trans gb)) (SliceOf.agree hks (by omega) fun b0 vs o t hb he=>(hP.old b0 (by omega) (by omega)).trans (B1 b0 hb)) (SliceOf.agree hws (by omega) fun b0 vs o t hb he=>(hP.old b0 (by omega) (by omega)).trans (B1 b0 hb))) hrH.log) ?_
   ·have h1:=cut_bd hW.1 hk.1 hB hy
    have h2:W*((x1:Int)*(x2:Int))≤1000000000*(1000*1000):=Int.le_trans (area_mono (W:=W) (a:=x1) (b:=x2) (c:=1000) (d:=1000) hW.1 (by omega) (by omega) (by omega) (by omega)) (Int.mul_le_mul_of_nonneg_right hW.2 (by omega))
    omega
   ·rintro r H' ⟨hA',q1,q2,q3,q4⟩
    refine⟨q1,fun z hz=>by have:=q2 z hz;omega,⟨fun y hy hne=>(q3 y (by omega) hne).trans (hP.old y hy hne),by rw[tabL_snoc];exact q4,(q3 _ (by omega) (by omega)).trans hP.loop,Nat.lt_of_lt_of_le hP.nx hA'.next⟩,?_⟩
    rw[tabL_snoc]
    exact upd_bd ⟨hxb.1,hxb.2.2.1⟩ hV hB
  refine CW.mono (boards136 F.p F.f136 (.of (B7.push _)) (bw:=h.next+3) (bh:=h.next+4) (l:=h1.next) (N:=h1.next+1) (lo:=h.next+1) (w:=w) (ht:=ht) (Nat.le_refl _) (by show h.next+1≤h1.next+1;omega) hw hh Y (fun d H hP=>(hP.1.old _ (by omega) (by omega)).trans gp) (fun d H hP=>(hP.1.old _ (by omega) (by omega)).trans gx)
   ⟨⟨fun z hz _=>z4 hz,(z4 (by omega)).trans B3,z3 _ _,Nat.lt_succ_self _⟩,fun e he=>by cases he⟩) ?_
  rintro r h2 ⟨q1,v,q2,q3,q4,_⟩
  exact⟨q1,v,q2,q3,q4⟩
 intro h3 c1 c2 c3 c4 c5
 have D4:h3.get (h.next+2)=some (.cells [.map (some (h.next+1))] true 1):=(c4 _ (by omega) (by omega)).trans B4
 refine kB_n ?_;refine kS_n ?_;refine y4 ?_;refine yL ?_;refine yM ?_;refine y3 ?_;refine wE_ret ?_
 exact endA_ret (vs:=[.map (some (h.next+1))]) c1 (by rfl) ⟨_,rfl,c5⟩
end Go.A.Pk
end
section
set_option maxRecDepth 100000
namespace Go.A.Pk
variable {T:Nat→Option AFunc}
inductive WslB (lo:Nat) (h:Heap):Value→List Int→Prop
 |nil:WslB lo h (.slice none 0 0) []
 |full {q xs}:lo≤q→q<h.next→h.get q=some (.cells (ints xs) true 1)→xs≠[]→WslB lo h (.slice (some ⟨q,0,none⟩) xs.length UNK) xs
theorem worth_succ{l:List Kd}{i:Nat}{x:Kd}(h:l[i]? =some x):(l.take (i+1)).map (·.worth)=(l.take i).map (·.worth)++[x.worth]:=by
 rw[List.take_add_one,h];simp
def StartQ(a:Option Addr)(n c:Nat)(kerf:Int)(l:List Kd)(er:Int)(v:Value)(h':Heap):Prop:=∃p,v= .tuple #[.pointer p, .int .i64 er]∧
 (er=0→∃bb wa wc,p=some ⟨bb,0,none⟩∧h'.get bb=some (.cells [.slice a n c, .int .i64 kerf, .slice wa n wc] true 1)∧SliceOf h' 1 (.slice wa n wc) n (ints (l.map (·.worth))))
theorem StartQ.gc{a:Option Addr}{n c:Nat}{kerf:Int}{l:List Kd}{er:Int}(h:Heap)(v:Value)(h1:Heap)(hv:noRef v=true)(q:StartQ a n c kerf l er v h1):StartQ a n c kerf l er v h:=by
 obtain⟨p,rfl,h2⟩:=q
 refine⟨p,rfl,fun he=> ?_⟩
 obtain⟨bb,wa,wc,rfl,_⟩:=h2 he
 simp[noRef,flatL,flat,scalL,scal,scal1]at hv
set_option maxHeartbeats 4000000 in
theorem startedB75(G:FnsE T){h:Heap}(hr:Rdy h){a:Option Addr}{n c:Nat}{l:List Kd}(hs:SliceOf h 5 (.slice a n c) n (kcs l))(kerf:Int)(hn:n<1000000){v:Value}{m:Nat}{bl:List Bool}(hb:SliceOf h 1 v m (bcs bl))(hm:m<1000000):
 Al T 75 [.agg #[.slice a n c, .int .i64 kerf],v] h (StartQ a n c kerf l (startE kerf l bl)):=by
 refine .of G.toFnsA.p G.f75 hr (StartQ.gc h) ?_
 have hx:Ext h (h.push (.cells [.slice a n c, .int .i64 kerf] true 1)):=(Ext.refl h).push _
 have hlen:l.length=n:=by have:=hs.len;rw[kcs_length]at this;omega
 refine y4 ?_;refine yB ?_;refine yM ?_;refine yM ?_;refine y3 ?_;refine wE_seq ?_;refine y4 ?_
 refine yN ?_
 refine yC ?_
 refine FW.pu (check66 G.toFnsA (.of (hx.wf hr.wf)) ((hs.ext hx).log []) kerf hn) ?_
 unfold startE
 by_cases hc:chk kerf l=0
 ·rw[if_pos hc,hc]
  refine yM ?_;refine y3 ?_;refine y4 ?_;refine yM ?_;refine yf ?_;refine y3 ?_;refine yX ?_;refine wE_skip ?_;refine kS_n ?_;refine wE_seq ?_;refine y4 ?_;refine yM ?_
  refine yC ?_
  refine FW.pu (contains122 G.toFnsC (.of (hx.wf hr.wf)) ((hb.ext hx).log []) hm) ?_
  cases hbl:bl.all id with
  |false=>
   refine y3 ?_;refine yY ?_;refine y4 ?_;refine yM ?_;refine yM ?_;refine y3 ?_;refine wE_ret ?_;refine kS_r ?_
   exact endA_ret (vs:=[.pointer none, .int .i64 1]) hr.log rfl ⟨_,rfl,fun e=>by cases e⟩
  |true=>
   refine y3 ?_;refine yX ?_;refine wE_skip ?_;refine kS_n ?_;refine y4 ?_
   refine yN ?_;refine wO_val (a_build (by exact rfl)) ?_;refine yB ?_
   refine yM ?_;refine y3 ?_;refine wE_seq ?_;refine y4 ?_;refine yF ?_
   refine yL ?_;refine yD ?_;refine yM ?_;refine y3 ?_;refine wE_block ?_
   refine wE_loop (fun k e ds h'=>∃(i:Nat) (w:Value) (xs:List Int),i≤n∧k=n-i∧e=[(7, .pointer (some ⟨h.next+1,0,none⟩)),(21, .slice a n c),(22, .int .i64 n),(23, .int .i64 i)]∧ds=[]∧Ext (h.push (.cells [.slice a n c, .int .i64 kerf] true 1)) h'∧
    h.next+1<h'.next∧h'.get (h.next+1)=some (.cells [.slice a n c, .int .i64 kerf,w] true 1)∧WslB (h.next+2) h' w xs∧Nonempty (PLift (xs=(l.take i).map (·.worth))))
    ⟨0, .slice none 0 0,[],Nat.zero_le _,rfl,rfl,rfl,(Ext.refl _).push _,Nat.lt_succ_self _,by(simp(disch:=first|omega|(simp only[z1,z2];omega)|(simp only[z1,z2];done)|fail)only[z8,z4,z5,z9,z7,z1,z2, *];exact rfl), .nil,⟨⟨rfl⟩⟩⟩ ?_
   rintro k e ds hi ⟨i,w,xs,hin,rfl,rfl,rfl,hx1,hnx,hW,hw,⟨⟨hxs⟩⟩⟩
   by_cases hlt:i<n
   ·obtain⟨x,hxl⟩:∃x,l[i]? =some x:=⟨l[i],List.getElem?_eq_getElem (by omega)⟩
    have hs':=hs.ext (((Ext.refl h).push _).trans hx1)
    rcases hs'.inv with⟨_,_,h0,_⟩|⟨b,o,cap',hv,s,hcap⟩
    ·omega
    ·cases hv
     obtain⟨vs,own,t,g1,g2⟩:=slice_elem s hxl
     have hx3:=(hx1.push (.cells [.int .i64 0, .int .i64 0, .int .i64 0, .int .i64 0, .bool false] true 1)).wr (base:=h.next) (x:=hi.next) (o:= .cells (kc x) true 1) hx1.next (by omega)
     have hx4:=hx3.push (.cells [.int .i64 x.worth] true 1)
     have hsu:=worth_succ hxl
     have hxl2:xs.length=i:=by rw[hxs];simp;omega
     have hsu2:(l.take (i+1)).map (·.worth)=xs++[x.worth]:=by rw[hsu,←hxs]
     have hid:PLift (xs.length=i∧(l.take (i+1)).map (·.worth)=xs++[x.worth]):=⟨hxl2,hsu2⟩
     clear hsu hxs hxl2 hsu2
     cases hw with
     |nil=>
      refine y4 ?_;refine yt ?_;refine y3 ?_;refine wE_seq ?_;refine yY ?_;refine wE_skip ?_;refine kS_n ?_;refine wE_seq ?_;refine wE_block ?_;refine y4 ?_
      refine wO_val (a_iaddrS (by exact rfl) (by exact rfl) hlt) ?_
      refine wO_val (a_loadN (by exact rfl) g1 g2 (by exact rfl)) ?_
      refine wO_val a_new ?_;refine yS ?_;refine y3 ?_;refine wE_draw ?_;refine qM ?_;refine qM ?_
      refine wD_quiet rfl rfl rfl (by exact rfl) (by exact rfl) (by exact rfl) (a_nilchk (by exact rfl)) ?_;refine qF ?_
      refine qL ?_
      refine qF ?_
      refine qL ?_
      refine wD_new rfl rfl rfl (by exact rfl) (by exact rfl) (by exact rfl) (a_bslice (by exact rfl) (by exact rfl)) (by refine rs_cons (rq_quiet rfl (a_load (by exact rfl) (by(simp(disch:=first|omega|(simp only[z1,z2];omega))only[z3,z4,z5,z6,z7,z1,z2, *];exact rfl)) (by exact rfl)) (by exact sv_int _ _)) ?_;refine rs_cons (rq_quiet rfl (a_faddr (by exact rfl)) (by exact sv_ptr _)) ?_;refine rs_cons (rq_quiet rfl (a_load (by exact rfl) (by(simp(disch:=first|omega|(simp only[z1,z2];omega))only[z3,z4,z5,z6,z7,z1,z2, *];exact rfl)) (by exact rfl)) (by exact sv_slice _ _ _)) ?_;refine rs_cons (rq_quiet rfl (a_faddr (by exact rfl)) (by exact sv_ptr _)) ?_;refine rs_cons (rq_quiet rfl (a_nilchk (by exact rfl)) (by exact sv_ptr _)) ?_;refine rs_cons (rq_quiet rfl (a_mov (by exact rfl)) (by exact sv_ptr _)) ?_;refine rs_cons (rq_quiet rfl (a_mov (by exact rfl)) (by exact sv_ptr _)) ?_;exact rs_nil) ?_
      refine wD_app_nil (n:=1) rfl rfl rfl (by exact rfl) (by exact rfl) (by exact rfl) (src_log (src_slice (cs:=[.int .i64 x.worth]) (by(simp(disch:=first|omega|(simp only[z1,z2];omega)|(simp only[z1,z2];done)|fail)only[z8,z4,z5,z9,z7,z1,z2, *];exact rfl)) rfl rfl)) (by omega) (by omega) (by apply ra_dropC rfl;apply ra_dropC rfl;apply ra_dropC rfl;apply ra_dropC rfl;apply ra_dropC rfl;apply ra_dropC rfl;apply ra_dropC rfl;apply ra_keepC rfl (rq_quiet rfl (a_mov (by exact rfl)) (by exact sv_ptr _)) rfl;exact ra_nil) ?_
      refine wD_quiet rfl rfl rfl (by exact rfl) (by exact rfl) (by exact rfl) (a_nilchk (by exact rfl)) ?_;refine qF ?_
      refine wD_store rfl rfl rfl (by exact rfl) (by exact rfl) (by exact rfl) (by(simp(disch:=first|omega|(simp only[z1,z2];omega))only[z3,z4,z5,z6,z7,z1,z2, *];exact rfl)) (by exact rfl) (by exact rfl) (by(simp only[z1,z2];omega)) (by omega) (by apply ra_dropC rfl;apply ra_dropC rfl;apply ra_dropC rfl;exact ra_nil) ?_
      refine wD_nil ?_;refine y1 ?_;refine kB_n ?_;refine kS_n ?_;refine wE_region ?_;refine yinc ?_;refine yM ?_;refine y3 ?_
      obtain⟨hxl2,hsu2⟩:=hid
      obtain rfl:i=0:=hxl2.symm
      refine⟨n-1,by omega,1, .slice (some ⟨hi.next+2,0,none⟩) 1 UNK,[x.worth],by omega,rfl,rfl,rfl,?_,?_,?_,?_,?_⟩
      ·exact(hx4.push (.cells [.int .i64 x.worth] true 1)).wr (Nat.le_refl _) (Nat.le_succ _)
      ·(simp only[z1,z2];omega)
      ·(simp(disch:=first|omega|(simp only[z1,z2];omega))only[z3,z4,z5,z6,z7,z1,z2, *];exact rfl)
      ·exact .full (xs:=[x.worth]) (by omega) (by(simp only[z1,z2];omega)) (by(simp(disch:=first|omega|(simp only[z1,z2];omega)|(simp only[z1,z2];done)|fail)only[z8,z4,z5,z9,z7,z1,z2, *];exact rfl)) (by simp)
      ·exact⟨⟨hsu2.symm⟩⟩
     | @full q _ h1 h2 h3 h5=>
       have h4:(ints xs).length=xs.length:=by simp[ints]
       have h7:xs.length<1000000:=by have:=hid.down.1;omega
       have h6:xs.length≠0:=by cases xs with|nil=>exact absurd rfl h5|cons _ _=>simp
       have hwr:lcat (ints xs) [.int .i64 x.worth]=ints (xs++[x.worth]):=by rw[lcat_eq];simp[ints]
       refine y4 ?_;refine yt ?_;refine y3 ?_;refine wE_seq ?_;refine yY ?_;refine wE_skip ?_;refine kS_n ?_;refine wE_seq ?_;refine wE_block ?_;refine y4 ?_
       refine wO_val (a_iaddrS (by exact rfl) (by exact rfl) hlt) ?_
       refine wO_val (a_loadN (by exact rfl) g1 g2 (by exact rfl)) ?_
       refine wO_val a_new ?_;refine yS ?_;refine y3 ?_;refine wE_draw ?_;refine qM ?_;refine qM ?_
       refine wD_quiet rfl rfl rfl (by exact rfl) (by exact rfl) (by exact rfl) (a_nilchk (by exact rfl)) ?_;refine qF ?_
       refine qL ?_
       refine qF ?_
       refine qL ?_
       refine wD_new rfl rfl rfl (by exact rfl) (by exact rfl) (by exact rfl) (a_bslice (by exact rfl) (by exact rfl)) (by refine rs_cons (rq_quiet rfl (a_load (by exact rfl) (by(simp(disch:=first|omega|(simp only[z1,z2];omega))only[z3,z4,z5,z6,z7,z1,z2, *];exact rfl)) (by exact rfl)) (by exact sv_int _ _)) ?_;refine rs_cons (rq_quiet rfl (a_faddr (by exact rfl)) (by exact sv_ptr _)) ?_;refine rs_cons (rq_quiet rfl (a_load (by exact rfl) (by(simp(disch:=first|omega|(simp only[z1,z2];omega))only[z3,z4,z5,z6,z7,z1,z2, *];exact rfl)) (by exact rfl)) (by exact sv_slice _ _ _)) ?_;refine rs_cons (rq_quiet rfl (a_faddr (by exact rfl)) (by exact sv_ptr _)) ?_;refine rs_cons (rq_quiet rfl (a_nilchk (by exact rfl)) (by exact sv_ptr _)) ?_;refine rs_cons (rq_quiet rfl (a_mov (by exact rfl)) (by exact sv_ptr _)) ?_;refine rs_cons (rq_quiet rfl (a_mov (by exact rfl)) (by exact sv_ptr _)) ?_;exact rs_nil) ?_
       refine wD_app_open (n:=1) (vs:=ints xs) (ws:=ints (xs++[x.worth])) rfl rfl rfl (by exact rfl) (by exact rfl) (by exact rfl) (src_log (src_slice (cs:=[.int .i64 x.worth]) (by(simp(disch:=first|omega|(simp only[z1,z2];omega)|(simp only[z1,z2];done)|fail)only[z8,z4,z5,z9,z7,z1,z2, *];exact rfl)) rfl rfl)) (by omega) (by(simp(disch:=first|omega|(simp only[z1,z2];omega))only[z3,z4,z5,z6,z7,z1,z2, *];done)) (by omega) (by omega) rfl (by omega) hwr (by(simp only[z1,z2];omega)) (by omega) (by apply ra_dropC rfl;apply ra_dropC rfl;apply ra_dropC rfl;apply ra_dropC rfl;apply ra_dropC rfl;apply ra_dropC rfl;apply ra_dropC rfl;apply ra_keepC rfl (rq_quiet rfl (a_mov (by exact rfl)) (by exact sv_ptr _)) rfl;exact ra_nil) ?_
       refine wD_quiet rfl rfl rfl (by exact rfl) (by exact rfl) (by exact rfl) (a_nilchk (by exact rfl)) ?_;refine qF ?_
       refine wD_store rfl rfl rfl (by exact rfl) (by exact rfl) (by exact rfl) (by(simp(disch:=first|omega|(simp only[z1,z2];omega))only[z3,z4,z5,z6,z7,z1,z2, *];exact rfl)) (by exact rfl) (by exact rfl) (by(simp only[z1,z2];omega)) (by omega) (by apply ra_dropC rfl;apply ra_dropC rfl;apply ra_dropC rfl;exact ra_nil) ?_
       refine wD_nil ?_;refine y1 ?_;refine kB_n ?_;refine kS_n ?_;refine wE_region ?_;refine yinc ?_;refine yM ?_;refine y3 ?_
       have hxi:=hid.down.1
       refine⟨n-(i+1),by omega,i+1, .slice (some ⟨hi.next+2,0,none⟩) (xs.length+1) UNK,xs++[x.worth],by omega,rfl,rfl,rfl,?_,?_,?_,?_,?_⟩
       ·exact((hx4.wr (x:=q) (base:=h.next) (o:= .dead) (show h.next+1≤q by omega) (by omega)).push (.cells (ints (xs++[x.worth])) true 1)).wr (Nat.le_refl _) (Nat.le_succ _)
       ·(simp only[z1,z2];omega)
       ·(simp(disch:=first|omega|(simp only[z1,z2];omega))only[z3,z4,z5,z6,z7,z1,z2, *];exact rfl)
       ·have:=WslB.full (lo:=h.next+2) (q:=hi.next+2) (xs:=xs++[x.worth]) (h:=(((((hi.push (.cells [.int .i64 0, .int .i64 0, .int .i64 0, .int .i64 0, .bool false] true 1)).wr h.next hi.next (.cells (kc x) true 1)).push (.cells [.int .i64 x.worth] true 1)).wr h.next q .dead).push (.cells (ints (xs++[x.worth])) true 1)).wr h.next (h.next+1) (.cells [.slice (some ⟨b,o,none⟩) n c, .int .i64 kerf, .slice (some ⟨hi.next+2,0,none⟩) (xs.length+1) UNK] true 1)) (by omega) (by(simp only[z1,z2];omega)) (by(simp(disch:=first|omega|(simp only[z1,z2];omega)|(simp only[z1,z2];done)|fail)only[z8,z4,z5,z9,z7,z1,z2, *];done)) (by simp)
        rw[List.length_append]at this
        exact this
       ·exact⟨⟨hid.down.2.symm⟩⟩
   ·obtain rfl:i=n:=by omega
    refine y4 ?_;refine yf ?_;refine y3 ?_;refine wE_seq ?_;refine yX ?_;refine wE_exit ?_;refine kS_e ?_;refine kS_e ?_;refine kB_e ?_;refine kS_n ?_
    refine y4 ?_;refine yM ?_;refine yM ?_;refine yM ?_;refine y3 ?_;refine wE_ret ?_
    refine endA_ret (vs:=[.pointer (some ⟨h.next+1,0,none⟩), .int .i64 0]) (hx1.log.trans hr.log) rfl ⟨_,rfl,fun _=> ?_⟩
    rw[List.take_of_length_le (by omega)]at hxs
    have hxn:xs.length=i:=by rw[hxs];simp;omega
    rw[←hxs]
    cases hw with
    |nil=>
     obtain rfl:i=0:=by simpa using hxn.symm
     exact⟨_,none,0,rfl,hW, .nil⟩
    | @full q _ h1 h2 h3 h5=>
      refine⟨_,some ⟨q,0,none⟩,UNK,rfl,by rw[hxn]at hW;exact hW, .mem ⟨h2,⟨_,_,_,h3,?_⟩,by simp[ints];omega⟩ (by unfold UNK;omega)⟩
      rw[ltake_eq,ldrop_eq,List.drop_zero,List.take_of_length_le (by simp[ints];omega)]
 ·rw[if_neg hc]
  refine yM ?_;refine y3 ?_;refine y4 ?_;refine yM ?_;refine yt ?_;refine y3 ?_;refine yY ?_;refine y4 ?_;refine yM ?_;refine yM ?_;refine yM ?_;refine y3 ?_;refine wE_ret ?_;refine kS_r ?_
  exact endA_ret (vs:=[.pointer none, .int .i64 (chk kerf l)]) hr.log rfl ⟨_,rfl,fun e=>(hc e).elim⟩
end Go.A.Pk
end
section
set_option maxRecDepth 100000
namespace Go.A.Pk
variable {T:Nat→Option AFunc}
structure FnsW (T:Nat→Option AFunc):Prop extends FnsE T,FnsV T where
 f76:T 76=some f76
 f32:T 32=some f32
def OnB(w ht:Int):Prop:=(1≤w∧w≤16)∧(1≤ht∧ht≤16)
instance(w ht:Int):Decidable (OnB w ht):=by unfold OnB;infer_instance
theorem board76(F:FnsW T){h:Heap}(hr:Rdy h)(w ht:Int):Pu T 76 [.int .i64 w, .int .i64 ht] h (.bool (decide (OnB w ht))):=by
 refine .of F.toFnsE.toFnsA.p F.f76 hr rfl ?_
 by_cases c1:1≤w∧w≤16
 ·by_cases c2:1≤ht∧ht≤16
  ·rw[decide_eq_true (show OnB w ht from⟨c1,c2⟩)]
   refine y4 ?_;refine yM ?_;refine y3 ?_;refine y4 ?_;refine yM ?_
   refine yC ?_
   refine FW.pu (in77T F.toFnsE.toFnsA.p F.toFnsE.toFnsA.f77 (.of hr.wf) c1) ?_
   refine yM ?_;refine yO ?_;refine yM ?_;refine yO ?_
   refine yC ?_
   refine FW.pu (in77T F.toFnsE.toFnsA.p F.toFnsE.toFnsA.f77 (.of hr.wf) c2) ?_
   refine yT ?_;refine yM ?_;refine y3 ?_;refine wE_ret ?_
   exact endP_ret hr.log rfl rfl
  ·rw[decide_eq_false (show¬OnB w ht from fun q=>c2 q.2)]
   refine y4 ?_;refine yM ?_;refine y3 ?_;refine y4 ?_;refine yM ?_
   refine yC ?_
   refine FW.pu (in77T F.toFnsE.toFnsA.p F.toFnsE.toFnsA.f77 (.of hr.wf) c1) ?_
   refine yM ?_;refine yO ?_;refine yM ?_;refine yO ?_
   refine yC ?_
   refine FW.pu (in77F F.toFnsE.toFnsA.p F.toFnsE.toFnsA.f77 (.of hr.wf) c2) ?_
   refine yT ?_;refine yM ?_;refine y3 ?_;refine wE_ret ?_
   exact endP_ret hr.log rfl rfl
 ·rw[decide_eq_false (show¬OnB w ht from fun q=>c1 q.1)]
  refine y4 ?_;refine yM ?_;refine y3 ?_;refine y4 ?_;refine yM ?_
  refine yC ?_
  refine FW.pu (in77F F.toFnsE.toFnsA.p F.toFnsE.toFnsA.f77 (.of hr.wf) c1) ?_
  refine yM ?_;refine yP ?_;refine yP ?_;refine yU ?_;refine yM ?_;refine y3 ?_;refine wE_ret ?_
  exact endP_ret hr.log rfl rfl
theorem StartQ.logs{a:Option Addr}{n c:Nat}{kerf:Int}{l:List Kd}{er:Int}(v:Value)(h':Heap)(m:List Nat)(q:StartQ a n c kerf l er v h'):StartQ a n c kerf l er v {h' with log:=m}:=by
 obtain⟨p,h1,h2⟩:=q
 refine⟨p,h1,fun e=> ?_⟩
 obtain⟨bb,wa,wc,q1,q2,q3⟩:=h2 e
 exact⟨bb,wa,wc,q1,q2,q3.log _⟩
def bestV(kerf:Int)(l:List Kd)(w ht:Int):Int:=look (tabL kerf (l.map (·.worth)) l (boardsL w.toNat ht.toNat)) (w,ht)
def bestR(kerf:Int)(l:List Kd)(w ht:Int):Value:= .tuple #[.int .i64 (if asked kerf l (OnB w ht)=0 then bestV kerf l w ht else 0), .int .i64 (asked kerf l (OnB w ht))]
end Go.A.Pk
end
section
namespace Go.A.Pk
def foldM{α:Type}(f:α→Int)(xs:List α)(m:Int):Int:=xs.foldl (fun m x=>mx m (f x)) m
theorem foldM_ge{α:Type}{f:α→Int}:∀{xs:List α} {m:Int},m≤foldM f xs m∧∀x∈xs,f x≤foldM f xs m
 |[],m=>⟨Int.le_refl _,fun x hx=>by cases hx⟩
 |y::xs,m=>by
  have h:=foldM_ge (f:=f) (xs:=xs) (m:=mx m (f y))
  have hm:=mx_ge (a:=m) (b:=f y)
  refine⟨Int.le_trans hm.1 h.1,fun x hx=> ?_⟩
  rcases List.mem_cons.1 hx with rfl|hx
  ·exact Int.le_trans hm.2 h.1
  ·exact h.2 x hx
theorem foldM_le{α:Type}{f:α→Int}{B:Int}:∀{xs:List α} {m:Int},m≤B→(∀x∈xs,f x≤B)→foldM f xs m≤B
 |[],m,h,_=>h
 |y::xs,m,h,hx=>foldM_le (xs:=xs) (m:=mx m (f y)) (mx_le h (hx y (List.mem_cons_self ..))) fun x hx'=>hx x (List.mem_cons_of_mem _ hx')
theorem foldM_congr{α:Type}{f g:α→Int}:∀{xs:List α} {m:Int},(∀x∈xs,f x=g x)→foldM f xs m=foldM g xs m
 |[],_,_=>rfl
 |y::xs,m,h=>by
  show foldM f xs (mx m (f y))=foldM g xs (mx m (g y))
  rw[h y (List.mem_cons_self ..),foldM_congr fun x hx=>h x (List.mem_cons_of_mem _ hx)]
def VF(kerf:Int)(ws:List Int)(kl:List Kd):Nat→Int×Int→Int
 |0,_=>0
 |n+1,p=>if 1≤p.1∧1≤p.2 then foldM (fun x=>VF kerf ws kl n (oneB x p.1.toNat p.2.toNat)+VF kerf ws kl n (twoB kerf x p.1.toNat p.2.toNat)) (cutsL p.1.toNat p.2.toNat) (leafM ws (leavesL p.1.toNat p.2.toNat kl 0) 0)else 0
def sz(p:Int×Int):Nat:=p.1.toNat+p.2.toNat
theorem cut_lt{kerf:Int}(hk:0≤kerf){a b:Nat}{x:Nat×Nat}(hx:x∈cutsL a b):sz (oneB x a b)<a+b∧sz (twoB kerf x a b)<a+b:=by
 unfold sz
 rcases cuts_of hx with⟨e3,hl,hu⟩|⟨e4,hl,hu⟩
 ·simp only[oneB,twoB,e3,if_true];omega
 ·have n3:¬x.1=3:=by omega
  simp only[oneB,twoB,if_neg n3];omega
theorem VF_succ{kerf:Int}(hk:0≤kerf){ws:List Int}{kl:List Kd}:∀{n:Nat} {p:Int×Int},sz p≤n→VF kerf ws kl (n+1) p=VF kerf ws kl n p
 |0,p,h=>by
  unfold sz at h
  simp only[VF]
  rw[if_neg (by omega)]
 |n+1,p,h=>by
  rw[VF,VF]
  split
  ·refine foldM_congr fun x hx=> ?_
   have:=cut_lt hk hx
   unfold sz at h
   rw[VF_succ hk (by omega),VF_succ hk (by omega)]
  ·rfl
theorem VF_ge{kerf:Int}(hk:0≤kerf){ws:List Int}{kl:List Kd}{n:Nat}{p:Int×Int}(h:sz p≤n):∀{m:Nat},n≤m→VF kerf ws kl m p=VF kerf ws kl n p:=by
 intro m hm
 induction m with
 |zero=>obtain rfl:n=0:=by omega
        rfl
 |succ m ih=>
  by_cases e:n=m+1
  ·rw[e]
  ·rw[VF_succ hk (by omega),ih (by omega)]
def V(kerf:Int)(ws:List Int)(kl:List Kd)(p:Int×Int):Int:=VF kerf ws kl (sz p) p
theorem V_out{kerf:Int}{ws:List Int}{kl:List Kd}{p:Int×Int}(h:¬ (1≤p.1∧1≤p.2)):V kerf ws kl p=0:=by
 unfold V
 cases sz p with
 |zero=>rfl
 |succ n=>rw[VF,if_neg h]
theorem V_eq{kerf:Int}(hk:0≤kerf){ws:List Int}{kl:List Kd}{a b:Nat}(ha:1≤a)(hb:1≤b):V kerf ws kl ((a:Int),(b:Int))=foldM (fun x=>V kerf ws kl (oneB x a b)+V kerf ws kl (twoB kerf x a b)) (cutsL a b) (leafM ws (leavesL a b kl 0) 0):=by
 have hs:sz ((a:Int),(b:Int))=a+b:=by simp[sz]
 unfold V
 rw[hs]
 obtain⟨n,hn⟩:∃n,a+b=n+1:=⟨a+b-1,by omega⟩
 rw[hn,VF,if_pos ⟨by show(1:Int)≤a;omega,by show(1:Int)≤b;omega⟩]
 show foldM (fun x=>VF kerf ws kl n (oneB x a b)+VF kerf ws kl n (twoB kerf x a b)) (cutsL a b) _=_
 refine foldM_congr fun x hx=> ?_
 have:=cut_lt hk hx
 rw[VF_ge hk (n:=sz (oneB x a b)) (Nat.le_refl _) (by omega),VF_ge hk (n:=sz (twoB kerf x a b)) (Nat.le_refl _) (by omega)]
theorem look_upd{x:Nat×Nat}{v:Int}:∀(t:Tab) (y:Int×Int),look (upd t x v) y=if y=((x.1:Int),(x.2:Int))then v else look t y
 |[],y=>by
  have e1:isKey y (x,v)=decide (y=((x.1:Int),(x.2:Int))):=by
   unfold isKey
   exact decide_eq_decide.2 ⟨fun q=>Prod.ext q.1 q.2,fun q=>by rw[q];exact⟨rfl,rfl⟩⟩
  simp only[upd,look]
  rw[e1]
  by_cases h:y=((x.1:Int),(x.2:Int))
  ·simp[h]
  ·simp[h]
 |e::t,y=>by
  simp only[upd]
  by_cases hk:isKey (x.1,x.2) e=true
  ·rw[if_pos hk]
   simp only[look]
   simp only[isKey,decide_eq_true_eq]at hk
   have e1:isKey y (x,v)=decide (y=((x.1:Int),(x.2:Int))):=by
    unfold isKey
    exact decide_eq_decide.2 ⟨fun q=>Prod.ext q.1 q.2,fun q=>by rw[q];exact⟨rfl,rfl⟩⟩
   have e2:isKey y e=decide (y=((x.1:Int),(x.2:Int))):=by
    unfold isKey
    exact decide_eq_decide.2 ⟨fun q=>Prod.ext (q.1.trans hk.1.symm) (q.2.trans hk.2.symm),fun q=>by rw[q];exact hk⟩
   rw[e1,e2]
   by_cases h:y=((x.1:Int),(x.2:Int))
   ·simp[h]
   ·simp[h]
  ·rw[if_neg hk]
   simp only[look]
   rw[look_upd t y]
   by_cases h:y=((x.1:Int),(x.2:Int))
   ·have:isKey y e=false:=by rw[h];simpa using hk
    simp[h,this]
    intro q
    rw[h]at this
    rw[this]at q;cases q
   ·simp[h]
theorem tab_look{kerf:Int}(hk:0≤kerf){ws:List Int}{kl:List Kd}{h:Nat}:∀(i j:Nat),j≤h→∀y:Int×Int,look (tabL kerf ws kl (boardsL i h++row (i+1) j)) y=
 if(1≤y.1∧y.1≤i∧1≤y.2∧y.2≤h)∨(y.1=(i:Int)+1∧1≤y.2∧y.2≤j)then V kerf ws kl y else 0
 |0,0,_,y=>by
  rw[if_neg (by omega)]
  rfl
 |i+1,0,hj,y=>by
  have e:boardsL (i+1) h++row (i+1+1) 0=boardsL i h++row (i+1) h:=by simp[boardsL,row]
  rw[e,tab_look hk i h (Nat.le_refl _) y]
  have:((1≤y.1∧y.1≤i∧1≤y.2∧y.2≤h)∨(y.1=(i:Int)+1∧1≤y.2∧y.2≤h))↔((1≤y.1∧y.1≤(i+1:Nat)∧1≤y.2∧y.2≤h)∨(y.1=((i+1:Nat):Int)+1∧1≤y.2∧y.2≤(0:Nat))):=by omega
  by_cases hc:(1≤y.1∧y.1≤i∧1≤y.2∧y.2≤h)∨(y.1=(i:Int)+1∧1≤y.2∧y.2≤h)
  ·rw[if_pos hc,if_pos (this.1 hc)]
  ·rw[if_neg hc,if_neg (fun q=>hc (this.2 q))]
 |i,j+1,hj,y=>by
  have ih:=tab_look hk (ws:=ws) (kl:=kl) (h:=h) i j (by omega)
  rw[row_succ,←List.append_assoc,tabL_snoc,look_upd,ih y]
  have hval:val kerf ws kl (tabL kerf ws kl (boardsL i h++row (i+1) j)) (i+1) (j+1)=V kerf ws kl (((i+1:Nat):Int),((j+1:Nat):Int)):=by
   rw[V_eq hk (by omega) (by omega)]
   show foldM _ _ _=foldM _ _ _
   refine foldM_congr fun x hx=> ?_
   rw[ih,ih]
   have key:∀z:Int×Int,(1≤z.1∧1≤z.2→((1≤z.1∧z.1≤i∧1≤z.2∧z.2≤h)∨(z.1=(i:Int)+1∧1≤z.2∧z.2≤j)))→(if(1≤z.1∧z.1≤i∧1≤z.2∧z.2≤h)∨(z.1=(i:Int)+1∧1≤z.2∧z.2≤j)then V kerf ws kl z else 0)=V kerf ws kl z:=fun z hz=>by
    by_cases hc:1≤z.1∧1≤z.2
    ·rw[if_pos (hz hc)]
    ·rw[if_neg (by omega),V_out hc]
   rcases cuts_of hx with⟨e3,hl,hu⟩|⟨e4,hl,hu⟩
   ·rw[key _ (by simp only[oneB,e3,if_true];omega),key _ (by simp only[twoB,e3,if_true];omega)]
   ·have n3:¬x.1=3:=by omega
    rw[key _ (by simp only[oneB,if_neg n3];omega),key _ (by simp only[twoB,if_neg n3];omega)]
  by_cases he:y=(((i+1:Nat):Int),((j+1:Nat):Int))
  ·rw[if_pos he,hval,if_pos (by rw[he];simp;omega),he]
  ·rw[if_neg he]
   have hne:¬ (y.1=((i+1:Nat):Int)∧y.2=((j+1:Nat):Int)):=fun q=>he (Prod.ext q.1 q.2)
   by_cases hc:(1≤y.1∧y.1≤i∧1≤y.2∧y.2≤h)∨(y.1=(i:Int)+1∧1≤y.2∧y.2≤j)
   ·rw[if_pos hc,if_pos (by omega)]
   ·rw[if_neg hc,if_neg (by omega)]
theorem bestV_eq{kerf:Int}(hk:0≤kerf){l:List Kd}{w ht:Int}(hw:1≤w)(hh:1≤ht):bestV kerf l w ht=V kerf (l.map (·.worth)) l (w,ht):=by
 unfold bestV
 have:=tab_look hk (ws:=l.map (·.worth)) (kl:=l) (h:=ht.toNat) w.toNat 0 (Nat.zero_le _) (w,ht)
 rw[show boardsL w.toNat ht.toNat++row (w.toNat+1) 0=boardsL w.toNat ht.toNat by simp[row]]at this
 rw[this,if_pos]
 exact .inl ⟨hw,by show w≤w.toNat;omega,hh,by show ht≤ht.toNat;omega⟩
end Go.A.Pk
end
section
namespace Go.A.Pk
variable {kerf:Int} {ws:List Int} {kl:List Kd}
theorem V_nonneg(hk:0≤kerf)(p:Int×Int):0≤V kerf ws kl p:=by
 by_cases h:1≤p.1∧1≤p.2
 ·obtain⟨a,ha⟩:=Int.eq_ofNat_of_zero_le (show 0≤p.1 by omega)
  obtain⟨b,hb⟩:=Int.eq_ofNat_of_zero_le (show 0≤p.2 by omega)
  have e:p=((a:Int),(b:Int)):=Prod.ext ha hb
  rw[e,V_eq hk (by omega) (by omega)]
  have h1:(0:Int)≤leafM ws (leavesL a b kl 0) 0:=(foldM_ge (f:=fun x:Nat×Nat=>ws.getD x.2 0) (xs:=leavesL a b kl 0) (m:=0)).1
  exact Int.le_trans h1 foldM_ge.1
 ·rw[V_out h];exact Int.le_refl _
end Go.A.Pk
end
section
set_option maxRecDepth 100000
namespace Go.A.Pk
variable {T:Nat→Option AFunc}
theorem tabL_bd{W kerf:Int}{ws:List Int}{kl:List Kd}(hW:0≤W)(hk:0≤kerf)(hws:∀x∈ws,0≤x∧x≤W):∀(xs:List (Nat×Nat)) (t:Tab),(∀x∈xs,1≤x.1∧1≤x.2)→Bd W t→Bd W (xs.foldl (fun t x=>upd t x (val kerf ws kl t x.1 x.2)) t)
 |[],t,_,h=>h
 |x::xs,t,hx,h=>tabL_bd hW hk hws xs _ (fun y hy=>hx y (List.mem_cons_of_mem _ hy)) (upd_bd (hx x (List.mem_cons_self ..)) (val_bd hW hk hws h (hx x (List.mem_cons_self ..)).1 (hx x (List.mem_cons_self ..)).2) h)
theorem bestV_bd{kerf:Int}{l:List Kd}(hc:chk kerf l=0){w ht:Int}(hb:OnB w ht):0≤bestV kerf l w ht∧bestV kerf l w ht≤256000000:=by
 obtain⟨q1,q2,q3,q4⟩:=chk_iff.1 hc
 have hB:Bd 1000000 (tabL kerf (l.map (·.worth)) l (boardsL w.toNat ht.toNat)):=tabL_bd (by omega) q2.1 (fun x hx=>by
  obtain⟨k,hk,rfl⟩:=List.mem_map.1 hx
  exact(q3 k hk).2.2.2) _ _ (fun x hx=>by have:=boards_of hx;omega) (fun e he=>by cases he)
 obtain⟨⟨h1,h2⟩,h3,h4⟩:=hb
 unfold bestV
 rcases look_bd (w,ht) hB with h|⟨_,_,h5,h6⟩
 ·rw[h];omega
 ·have:=area_mono (W:=1000000) (a:=w) (b:=ht) (c:=16) (d:=16) (by omega) (by omega) h2 (by omega) h4
  exact⟨h5,Int.le_trans h6 (Int.le_trans this (by omega))⟩
theorem bestR_ok{kerf:Int}{l:List Kd}{w ht:Int}(h:asked kerf l (OnB w ht)=0):bestR kerf l w ht= .tuple #[.int .i64 (bestV kerf l w ht), .int .i64 0]:=by unfold bestR;rw[if_pos h,h]
theorem bestR_no{kerf:Int}{l:List Kd}{w ht:Int}(h:¬asked kerf l (OnB w ht)=0):bestR kerf l w ht= .tuple #[.int .i64 0, .int .i64 (asked kerf l (OnB w ht))]:=by unfold bestR;rw[if_neg h]
theorem asked_ok{kerf:Int}{l:List Kd}{p:Prop}[Decidable p](hc:chk kerf l=0)(hp:p):asked kerf l p=0:=by unfold asked;rw[if_pos hc,if_pos hp]
end Go.A.Pk
end
section
set_option maxRecDepth 100000
namespace Go.A.Pk
variable {T:Nat→Option AFunc}
structure FnsN (T:Nat→Option AFunc):Prop where
 p:primAS T
 f125:T 125=some f125
 f165:T 165=some f165
 f167:T 167=some f167
def Nought(x:Int×Int):Prop:=x.1<1∨x.2<1
instance(x:Int×Int):Decidable (Nought x):=by unfold Nought;infer_instance
theorem nothing125(F:FnsN T){h:Heap}(hr:Rdy h)(x:Int×Int):Pu T 125 [pairV x] h (.bool (decide (Nought x))):=by
 refine .of F.p F.f125 hr rfl ?_
 by_cases c1:x.1<1
 ·rw[decide_eq_true (show Nought x from .inl c1)]
  unfold pairV
  refine y4 ?_;refine yB ?_;refine yM ?_;refine y3 ?_;refine y4 ?_;refine wO_val (a_iaddrA (i:=0) (by exact rfl) (by exact rfl) (by omega)) ?_
  refine yL ?_;refine yt ?_
  refine yM ?_;refine yP ?_;refine yP ?_;refine yP ?_;refine yT ?_;refine yM ?_;refine y3 ?_;refine wE_ret ?_
  exact endP_ret hr.log rfl rfl
 ·by_cases c2:x.2<1
  ·rw[decide_eq_true (show Nought x from .inr c2)]
   unfold pairV
   refine y4 ?_;refine yB ?_;refine yM ?_;refine y3 ?_;refine y4 ?_;refine wO_val (a_iaddrA (i:=0) (by exact rfl) (by exact rfl) (by omega)) ?_
   refine yL ?_;refine yf ?_
   refine yM ?_;refine yO ?_;refine wO_val (a_iaddrA (i:=1) (by exact rfl) (by exact rfl) (by omega)) ?_;refine yO ?_
   refine yL ?_;refine yO ?_;refine yt ?_
   refine yU ?_;refine yM ?_;refine y3 ?_;refine wE_ret ?_
   exact endP_ret hr.log rfl rfl
  ·rw[decide_eq_false (show¬Nought x from fun q=>q.elim c1 c2)]
   unfold pairV
   refine y4 ?_;refine yB ?_;refine yM ?_;refine y3 ?_;refine y4 ?_;refine wO_val (a_iaddrA (i:=0) (by exact rfl) (by exact rfl) (by omega)) ?_
   refine yL ?_;refine yf ?_
   refine yM ?_;refine yO ?_;refine wO_val (a_iaddrA (i:=1) (by exact rfl) (by exact rfl) (by omega)) ?_;refine yO ?_
   refine yL ?_;refine yO ?_;refine yf ?_
   refine yU ?_;refine yM ?_;refine y3 ?_;refine wE_ret ?_
   exact endP_ret hr.log rfl rfl
def never:Int:= -1099511627776
def oneW(t:Tab)(x:Int×Int):Int:=if Nought x then never else look t x
theorem one165(F:FnsN T){h:Heap}(hr:Rdy h){p mb:Nat}{t:Tab}(g:h.get p=some (.cells [.map (some mb)] true 1))(gm:h.get mb=some (.map (ents t)))(x:Int×Int):Pu T 165 [pairV x, .pointer (some ⟨p,0,none⟩)] h (.int .i64 (oneW t x)):=by
 refine .of F.p F.f165 hr rfl ?_
 have k1:=WF.get_lt hr.wf g
 have k2:=WF.get_lt hr.wf gm
 unfold pairV
 refine y4 ?_;refine yB ?_;refine yM ?_;refine y3 ?_;refine wE_seq ?_;refine y4 ?_
 refine yN ?_
 refine yC ?_
 refine FW.pu (nothing125 F (.of (hr.wf.push _)) x) ?_
 unfold oneW never
 by_cases c:Nought x
 ·rw[decide_eq_true c,if_pos c]
  refine y3 ?_;refine yY ?_;refine y4 ?_;refine yM ?_;refine y3 ?_;refine wE_ret ?_
  refine kS_r ?_
  exact endP_ret hr.log rfl rfl
 ·rw[decide_eq_false c,if_neg c]
  refine y3 ?_;refine yX ?_;refine wE_skip ?_;refine kS_n ?_;refine y4 ?_
  refine yL ?_
  refine yN ?_
  refine wO_val (a_lookup (x:=x) (by exact rfl) (by exact rfl) (by(simp(disch:=first|omega|(simp only[z1,z2];omega))only[z3,z4,z5,z6,z7,z1,z2, *];exact rfl))) ?_
  refine yM ?_;refine y3 ?_;refine wE_ret ?_
  exact endP_ret hr.log rfl rfl
def leafW(ws:List Int)(kind:Nat)(x:Nat×Nat):Int:=if x.2=kind then ws.getD kind 0 else never
set_option maxHeartbeats 4000000 in
theorem leaf167(F:FnsN T){h:Heap}(hr:Rdy h){p9 p5 bb n wc kind:Nat}{s1 s2:Value}{wa:Option Addr}{own:Bool}{ws:List Int}{x:Nat×Nat}(hk:kind<n)
 (g9:h.get p9=some (.cells [.int .i64 kind] true 1))(g5:h.get p5=some (.cells [.pointer (some ⟨bb,0,none⟩)] true 1))(gb:h.get bb=some (.cells [s1,s2, .slice wa n wc] own 1))(hws:SliceOf h 1 (.slice wa n wc) n (ints ws)):
 Pu T 167 [nodeV x, .pointer (some ⟨p9,0,none⟩), .pointer (some ⟨p5,0,none⟩)] h (.int .i64 (leafW ws kind x)):=by
 refine .of F.p F.f167 hr rfl ?_
 have k1:=WF.get_lt hr.wf g9
 have k2:=WF.get_lt hr.wf g5
 have k3:=WF.get_lt hr.wf gb
 unfold nodeV leafW never
 by_cases c:x.2=kind
 ·rw[if_pos c]
  have hlen:ws.length=n:=by have:=hws.len;simp[ints]at this;omega
  rcases hws.inv with⟨_,_,h0,_⟩|⟨b0,o0,cap,hv,s,hcap⟩
  ·omega
  ·cases hv
   obtain⟨vs,own',t0,g6,e6⟩:=slice_elem1 s (ints_get (l:=ws) (i:=kind) (by omega))
   clear s
   have k4:=WF.get_lt hr.wf g6
   refine y4 ?_;refine yB ?_;refine yM ?_;refine y3 ?_;refine wE_seq ?_;refine y4 ?_;refine yF ?_
   refine yL ?_
   refine yL ?_;refine yf ?_;refine y3 ?_;refine yX ?_;refine wE_skip ?_;refine kS_n ?_;refine wE_seq ?_;refine wE_draw ?_
   refine qL ?_
   refine wD_quiet rfl rfl rfl (by exact rfl) (by exact rfl) (by exact rfl) (a_nilchk (by exact rfl)) ?_;refine qF ?_
   refine qL ?_
   refine qL ?_
   refine wD_quiet rfl rfl rfl (by exact rfl) (by exact rfl) (by exact rfl) (a_iaddrS (by exact rfl) (by exact rfl) hk) ?_
   skip
   refine wD_quiet rfl rfl rfl (by exact rfl) (by exact rfl) (by exact rfl) (a_load (by exact rfl) (by(simp(disch:=first|omega|(simp only[z1,z2];omega))only[z3,z4,z5,z6,z7,z1,z2, *];exact rfl)) e6) ?_
   refine qM ?_;refine wD_nil ?_;refine y1 ?_;refine kS_n ?_;refine wE_ret ?_
   exact endP_ret hr.log rfl rfl
 ·rw[if_neg c]
  refine y4 ?_;refine yB ?_;refine yM ?_;refine y3 ?_;refine wE_seq ?_;refine y4 ?_;refine yF ?_
  refine yL ?_
  refine yL ?_;refine yt ?_;refine y3 ?_;refine yY ?_;refine y4 ?_;refine yM ?_;refine y3 ?_;refine wE_ret ?_;refine kS_r ?_
  exact endP_ret hr.log rfl rfl
end Go.A.Pk
end
section
set_option maxRecDepth 100000
namespace Go.A.Pk
variable {T:Nat→Option AFunc}
theorem sv_map(a:Option Nat):sameV (.map a) (.map a)=true:=by simp[sameV,same1]
theorem sv_fn1(f a:Nat):sameV (fn1 f a) (fn1 f a)=true:=by simp[fn1,sameV,sameL,same1]
theorem WD.gen{base:Nat}{ops:List AOper}{bf:List Nat}{rs:List Rec}{Q:Env→Heap→Prop}{is:List Nat}{e:Env}{h:Heap}(hK:∀hA,hA=h→WD T base ops bf Q is rs e hA):WD T base ops bf Q is rs e h:=hK h rfl
structure FnsO (T:Nat→Option AFunc):Prop extends FnsN T where
 f106:T 106=some f106
 f168:T 168=some f168
def cutW(kerf:Int)(t u:Tab)(a b:Nat)(x:Nat×Nat):Int:=mx (oneW t (oneB x a b)+look u (twoB kerf x a b)) (look u (oneB x a b)+oneW t (twoB kerf x a b))
set_option maxHeartbeats 8000000 in
theorem cut168(F:FnsO T){h:Heap}(hr:Rdy h){p5 p13 p12 p6 p11 bb mb mq a b:Nat}{s1 s3:Value}{own:Bool}{kerf:Int}{t u:Tab}{x:Nat×Nat}(hx:x.1=3∨x.1=4)(hx2:x.2<1000)(ha:a<1000)(hb:b<1000)(hk:0≤kerf∧kerf≤100)
 (hs1: -4611686018427387904≤oneW t (oneB x a b)+look u (twoB kerf x a b)∧oneW t (oneB x a b)+look u (twoB kerf x a b)≤4611686018427387904)(hs2: -4611686018427387904≤look u (oneB x a b)+oneW t (twoB kerf x a b)∧look u (oneB x a b)+oneW t (twoB kerf x a b)≤4611686018427387904)
 (g5:h.get p5=some (.cells [.pointer (some ⟨bb,0,none⟩)] true 1))(g13:h.get p13=some (.cells [.int .i64 a, .int .i64 b] true 1))(g12:h.get p12=some (.cells [fn1 165 p11] true 1))(g6:h.get p6=some (.cells [.map (some mq)] true 1))(g11:h.get p11=some (.cells [.map (some mb)] true 1))(gm:h.get mb=some (.map (ents t)))(gq:h.get mq=some (.map (ents u)))(gb:h.get bb=some (.cells [s1, .int .i64 kerf,s3] own 1)):
 Pu T 168 [nodeV x, .pointer (some ⟨p5,0,none⟩), .pointer (some ⟨p13,0,none⟩), .pointer (some ⟨p12,0,none⟩), .pointer (some ⟨p6,0,none⟩)] h (.int .i64 (cutW kerf t u a b x)):=by
 refine .of F.p F.f168 hr rfl ?_
 have k1:=WF.get_lt hr.wf g5
 have k2:=WF.get_lt hr.wf g13
 have k3:=WF.get_lt hr.wf g12
 have k4:=WF.get_lt hr.wf g6
 have k5:=WF.get_lt hr.wf g11
 have k6:=WF.get_lt hr.wf gm
 have k7:=WF.get_lt hr.wf gq
 have k8:=WF.get_lt hr.wf gb
 unfold nodeV
 refine y4 ?_;refine yB ?_;refine yM ?_;refine y3 ?_;refine y4 ?_
 refine yL ?_
 refine yN ?_
 refine yN ?_
 refine yC ?_
 have gB:(h.push (.cells [.int .u8 x.1, .int .i64 x.2] true 1)).get bb=some (.cells [s1, .int .i64 kerf,s3] own 1):=(z4 k8).trans gb
 refine FW.pu (split106 F.p F.f106 (.of (hr.wf.push _)) gB (Nat.lt_succ_of_lt k8) hk hx hx2 ha hb) ?_
 refine yM ?_;refine yE ?_;refine yE ?_;refine wO_val a_new ?_;refine wO_val a_new ?_
 refine yS ?_
 refine yS ?_;refine y3 ?_;refine wE_seq ?_;refine wE_draw ?_
 refine qL ?_
 refine qN ?_
 refine qL ?_
 refine qN ?_
 refine WD.gen fun H eH=> ?_
 have q12:H.get p12=some (.cells [fn1 165 p11] true 1):=by rw[eH];(simp(disch:=first|omega|(simp only[z1,z2];omega))only[z3,z4,z5,z6,z7,z1,z2, *];done)
 have q6:H.get p6=some (.cells [.map (some mq)] true 1):=by rw[eH];(simp(disch:=first|omega|(simp only[z1,z2];omega))only[z3,z4,z5,z6,z7,z1,z2, *];done)
 have q11:H.get p11=some (.cells [.map (some mb)] true 1):=by rw[eH];(simp(disch:=first|omega|(simp only[z1,z2];omega))only[z3,z4,z5,z6,z7,z1,z2, *];done)
 have qm:H.get mb=some (.map (ents t)):=by rw[eH];(simp(disch:=first|omega|(simp only[z1,z2];omega))only[z3,z4,z5,z6,z7,z1,z2, *];done)
 have qq:H.get mq=some (.map (ents u)):=by rw[eH];(simp(disch:=first|omega|(simp only[z1,z2];omega))only[z3,z4,z5,z6,z7,z1,z2, *];done)
 have q7:H.get (h.next+1)=some (.cells [.int .i64 (oneB x a b).1, .int .i64 (oneB x a b).2] true 1):=by rw[eH];(simp(disch:=first|omega|(simp only[z1,z2];omega)|(simp only[z1,z2];done)|fail)only[z8,z4,z5,z9,z7,z1,z2, *];exact rfl)
 have q8:H.get (h.next+2)=some (.cells [.int .i64 (twoB kerf x a b).1, .int .i64 (twoB kerf x a b).2] true 1):=by rw[eH];(simp(disch:=first|omega|(simp only[z1,z2];omega)|(simp only[z1,z2];done)|fail)only[z8,z4,z5,z9,z7,z1,z2, *];exact rfl)
 have wH:WF H:=by
  rw[eH]
  exact((((hr.wf.push _).push _).push _).as (AS.wr _ _ _ _)).as (AS.wr _ _ _ _)
 have lH:H.log=[]:=by
  rw[eH]
  simp(disch:=first|omega|(simp only[z1,z2];omega))only[Heap.log_wr_new,Heap.log_push];exact hr.log
 clear eH
 refine wD_quiet rfl rfl rfl (by exact rfl) (by exact rfl) (by exact rfl) (a_lookup (x:=twoB kerf x a b) (by exact rfl) (by exact rfl) (by assumption)) ?_
 refine qL ?_;refine qN ?_
 refine wD_quiet rfl rfl rfl (by exact rfl) (by exact rfl) (by exact rfl) (a_lookup (x:=oneB x a b) (by exact rfl) (by exact rfl) (by assumption)) ?_
 refine qL ?_;refine qN ?_
 refine qC ?_
 refine FW.puD (one165 F.toFnsN (.of wH) q11 qm (oneB x a b)) (by apply ra_keepC rfl (rq_quiet rfl (a_loadN (by exact rfl) (by assumption) (by exact rfl) (by exact rfl)) (by exact sv_agg (by refine sl_cons (s1_int _ _) ?_;refine sl_cons (s1_int _ _) ?_;exact sl_nil))) rfl;apply ra_keepC rfl (rq_quiet rfl (a_load (by exact rfl) (by assumption) (by exact rfl)) (by exact sv_fn1 _ _)) rfl;apply ra_keepC rfl (rq_quiet rfl (a_lookup (by exact rfl) (by exact rfl) (by assumption)) (by exact sv_int _ _)) rfl;apply ra_keepC rfl (rq_quiet rfl (a_loadN (by exact rfl) (by assumption) (by exact rfl) (by exact rfl)) (by exact sv_agg (by refine sl_cons (s1_int _ _) ?_;refine sl_cons (s1_int _ _) ?_;exact sl_nil))) rfl;apply ra_keepC rfl (rq_quiet rfl (a_load (by exact rfl) (by assumption) (by exact rfl)) (by exact sv_map _)) rfl;apply ra_keepC rfl (rq_quiet rfl (a_lookup (by exact rfl) (by exact rfl) (by assumption)) (by exact sv_int _ _)) rfl;apply ra_keepC rfl (rq_quiet rfl (a_loadN (by exact rfl) (by assumption) (by exact rfl) (by exact rfl)) (by exact sv_agg (by refine sl_cons (s1_int _ _) ?_;refine sl_cons (s1_int _ _) ?_;exact sl_nil))) rfl;apply ra_keepC rfl (rq_quiet rfl (a_load (by exact rfl) (by assumption) (by exact rfl)) (by exact sv_map _)) rfl;apply ra_dropC rfl;apply ra_dropC rfl;exact ra_nil) ?_
 refine wD_quiet rfl rfl rfl (by exact rfl) (by exact rfl) (by exact rfl) (a_num (by exact rfl) (by exact rfl) (by exact m_add (wrapA_i64 (by omega) (by omega)))) ?_
 refine qC ?_
 refine FW.puD (one165 F.toFnsN (.of wH) q11 qm (twoB kerf x a b)) (by apply ra_keepC rfl (rq_quiet rfl (a_num (by exact rfl) (by exact rfl) (by exact m_add (wrapA_i64 (by omega) (by omega)))) (by exact sv_int _ _)) rfl;apply ra_dropC rfl;apply ra_dropC rfl;apply ra_keepC rfl (rq_quiet rfl (a_lookup (by exact rfl) (by exact rfl) (by assumption)) (by exact sv_int _ _)) rfl;apply ra_keepC rfl (rq_quiet rfl (a_loadN (by exact rfl) (by assumption) (by exact rfl) (by exact rfl)) (by exact sv_agg (by refine sl_cons (s1_int _ _) ?_;refine sl_cons (s1_int _ _) ?_;exact sl_nil))) rfl;apply ra_keepC rfl (rq_quiet rfl (a_load (by exact rfl) (by assumption) (by exact rfl)) (by exact sv_map _)) rfl;apply ra_keepC rfl (rq_quiet rfl (a_lookup (by exact rfl) (by exact rfl) (by assumption)) (by exact sv_int _ _)) rfl;apply ra_keepC rfl (rq_quiet rfl (a_loadN (by exact rfl) (by assumption) (by exact rfl) (by exact rfl)) (by exact sv_agg (by refine sl_cons (s1_int _ _) ?_;refine sl_cons (s1_int _ _) ?_;exact sl_nil))) rfl;apply ra_keepC rfl (rq_quiet rfl (a_load (by exact rfl) (by assumption) (by exact rfl)) (by exact sv_map _)) rfl;exact ra_nil) ?_
 refine wD_quiet rfl rfl rfl (by exact rfl) (by exact rfl) (by exact rfl) (a_num (by exact rfl) (by exact rfl) (by exact m_add (wrapA_i64 (by omega) (by omega)))) ?_
 refine wD_quiet rfl rfl rfl (by exact rfl) (by exact rfl) (by exact rfl) (a_max (by exact rfl) (by exact rfl)) ?_
 refine qM ?_;refine wD_nil ?_;refine y1 ?_;refine kS_n ?_;refine wE_ret ?_
 exact endP_ret lH rfl rfl
end Go.A.Pk
end
section
set_option maxRecDepth 100000
namespace Go.A.Pk
variable {T:Nat→Option AFunc}
def asgG:ACode:=(.region [g 7 (.new [(.int .u8 0),(.int .i64 0)]),⟨none, .store 2 (t 7) (t 9),none⟩] [3,5,7])
def bodyG:ACode:=(.block 1 (.draw [g 10 (.load none (t 3)),g 11 (.load none (t 5)),g 12 (.load (some 2) (t 7)),g 13 (.call (t 11) [(t 12)]),g 14 (.minmax true [(t 10),(t 13)]),⟨none, .store 1 (t 3) (t 14),none⟩] [0,1,2,3,4,5] [0,0,0,6,15,31] []))
set_option maxHeartbeats 8000000 in
theorem great_round(hp:primAS T){H:Heap}(hr:Rdy H){q pw l k:Nat}{fv:Value}{caps:List Value}{m v:Int}{x:Nat×Nat}(gl:H.get l=some (.loop [(3, .pointer (some ⟨q,0,none⟩)),(5, .pointer (some ⟨pw,0,none⟩)),(8,fv)] [9] asgG bodyG 0 .normal))
 (gq:H.get q=some (.cells [.int .i64 m] true 1))(gw:H.get pw=some (.cells [.func (.func k) #[] caps.toArray] true 1))
 (hW:∀h',WF h'→H.next≤h'.next→(∀z,z<H.next→z≠l→h'.get z=H.get z)→Pu T k (nodeV x::caps) {h' with log:=[]} (.int .i64 v)):
 FW T (.yield l) [nodeV x] H fun r H'=>r= .ret (.bool true)∧(∀z∈H'.log,q≤z∧z<q+1)∧(∀z,z<H.next→z≠q→H'.get z=H.get z)∧H'.get q=some (.cells [.int .i64 (mx m v)] true 1):=by
 have n1:=ne_loop gq gl
 have n2:=ne_loop gw gl
 have k1:=WF.get_lt hr.wf gq
 have k2:=WF.get_lt hr.wf gw
 have k5:=WF.get_lt hr.wf gl
 refine FW.yieldN hp (R:=fun H'=>(∀z,z<H.next→z≠q→H'.get z=H.get z)∧H'.get q=some (.cells [.int .i64 (mx m v)] true 1)) gl rfl k5 ?_
 unfold asgG nodeV
 refine wE_region ?_;refine wO_val a_new ?_;refine yS ?_;refine wO_nil ?_
 refine y1 ?_
 refine⟨rfl,by(simp(disch:=first|omega|(simp only[z1,z2];omega))only[z3,z4,z5,z6,z7,z1,z2, *];exact rfl),?_⟩
 unfold bodyG
 refine wE_block ?_;refine wE_draw ?_;refine qL ?_
 refine qL ?_
 refine qN ?_
 refine qC ?_
 refine FW.puD (hW _ (((hr.wf.push _).as (AS.wr _ _ _ _)).as (AS.wr _ _ _ _)) (Nat.le_succ _) (fun z hz hne=>by simp(disch:=first|omega|(simp only[z1,z2];omega))only[z5,z4])) (by apply ra_dropC rfl;apply ra_dropC rfl;apply ra_keepC rfl (rq_quiet rfl (a_load (by exact rfl) (by(simp(disch:=first|omega|(simp only[z1,z2];omega))only[z3,z4,z5,z6,z7,z1,z2, *];exact rfl)) (by exact rfl)) (by exact sv_int _ _)) rfl;exact ra_nil) ?_
 refine wD_quiet rfl rfl rfl (by exact rfl) (by exact rfl) (by exact rfl) (a_max (by exact rfl) (by exact rfl)) ?_
 refine wD_storeA (ws:=[.int .i64 (mx m v)]) rfl rfl rfl (by exact rfl) (by exact rfl) (by exact rfl) (by(simp(disch:=first|omega|(simp only[z1,z2];omega))only[z3,z4,z5,z6,z7,z1,z2, *];exact rfl)) (by exact rfl) (by exact rfl) (by(simp only[z1,z2];omega)) (by apply ra_dropC rfl;apply ra_dropC rfl;exact ra_nil) ?_
 refine wD_nil ?_;refine y1 ?_;refine kB_n ?_
 refine⟨rfl,⟨_,by(simp(disch:=first|omega|(simp only[z1,z2];omega))only[z3,z4,z5,z6,z7,z1,z2, *];exact rfl),rfl⟩,?_,?_⟩
 ·intro z hz
  rw[log_wr_q (by exact(Heap.log_wr_new (Nat.zero_le _)).trans ((Heap.log_wr_new (Nat.le_refl _)).trans hr.log)) k1]at hz
  simp at hz;omega
 ·intro h5 hn hag hl5
  refine⟨fun z hz hne=> ?_,(hag q k1 n1).trans (by(simp(disch:=first|omega|(simp only[z1,z2];omega))only[z3,z4,z5,z6,z7,z1,z2, *];done))⟩
  by_cases hz2:z=l
  ·rw[hz2];exact hl5.trans gl.symm
  ·exact(hag z hz hz2).trans ((z5 hne).trans ((z5 hz2).trans ((z5 (by omega)).trans (z4 hz))))
structure FnsP (T:Nat→Option AFunc):Prop where
 p:primAS T
 f140:T 140=some f140
 f141:T 141=some f141
 f166:T 166=some f166
theorem WE.gen{base:Nat}{rnd:Option Nat}{c:ACode}{Q:XQ}{e:Env}{ds:Dfs}{h:Heap}(hK:∀hA,hA=h→WE T base rnd c Q e ds hA):WE T base rnd c Q e ds h:=hK h rfl
def gM(f:Nat×Nat→Int)(d:List (Nat×Nat))(m:Int):Int:=d.foldl (fun m x=>mx m (f x)) m
theorem gM_snoc{f:Nat×Nat→Int}{d:List (Nat×Nat)}{x:Nat×Nat}{m:Int}:gM f (d++[x]) m=mx (gM f d m) (f x):=by simp[gM]
set_option maxHeartbeats 8000000 in
theorem great_leaves(F:FnsP T){h:Heap}(hr:Rdy h){pb px bb k a b n c:Nat}{sa:Option Addr}{v1 v2:Value}{caps:List Value}{l:List Kd}{least:Int}{f:Nat×Nat→Int}(hn:n<1000)
 (gpb:h.get pb=some (.cells [.pointer (some ⟨bb,0,none⟩)] true 1))(gpx:h.get px=some (.cells [.int .i64 a, .int .i64 b] true 1))(gbb:h.get bb=some (.cells [.slice sa n c,v1,v2] true 1))(hks:SliceOf h 5 (.slice sa n c) n (kcs l))
 (hW:∀x∈leavesL a b l 0,∀h',WF h'→h.next≤h'.next→(∀z,z<h.next→h'.get z=h.get z)→Pu T k (nodeV x::caps) {h' with log:=[]} (.int .i64 (f x))):
 Pu T 166 [.int .i64 least,fn2 140 pb px, .func (.func k) #[] caps.toArray] h (.int .i64 (gM f (leavesL a b l 0) least)):=by
 refine .of F.p F.f166 hr rfl ?_
 have k1:=WF.get_lt hr.wf gpb
 have k2:=WF.get_lt hr.wf gpx
 have k3:=WF.get_lt hr.wf gbb
 refine y4 ?_;refine yB ?_;refine yB ?_;refine yM ?_;refine y3 ?_;refine wE_seq ?_;refine y4 ?_
 refine yM ?_;refine y3 ?_;refine wE_block ?_
 refine WE.gen fun hA hAe=> ?_
 have A1:∀z,z<h.next→hA.get z=h.get z:=fun z hz=>by rw[hAe];simp(disch:=first|omega|(simp only[z1,z2];omega))only[z4]
 have A2:hA.get h.next=some (.cells [.int .i64 least] true 1):=by rw[hAe];(simp(disch:=first|omega|(simp only[z1,z2];omega))only[z3,z4,z5,z6,z7,z1,z2, *];exact rfl)
 have A3:hA.get (h.next+1)=some (.cells [.func (.func k) #[] caps.toArray] true 1):=by rw[hAe];(simp(disch:=first|omega|(simp only[z1,z2];omega)|(simp only[z1,z2];done)|fail)only[z8,z4,z5,z9,z7,z1,z2, *];exact rfl)
 have A5:hA.next=h.next+2:=by rw[hAe];rfl
 have A6:hA.log=[]:=by rw[hAe];exact hr.log
 have A7:WF hA:=by rw[hAe];exact(hr.wf.push _).push _
 clear hAe
 refine inner_range (q:=h.next) (all:=leavesL a b l 0) (O:=fun d=> .cells [.int .i64 (gM f d least)] true 1) rfl (by rfl) (by rw[F.f140];rfl) (by omega) (by omega) A6 A7 ?_ (by omega) ?_
 ·refine leaves140 F.p F.f140 (.of (A7.push _)) (pb:=pb) (bb:=bb) (px:=px) (l':=hA.next) (N:=hA.next+1) (lo:=h.next) (a:=a) (b:=b) (n:=n) (c:=c) (sa:=sa) (l:=l) (v1:=v1) (v2:=v2) (Nat.le_refl _) (by show h.next≤hA.next+1;omega) hn
   (PW.yld F.p (by omega) fun done x H' hx hr' hlt hP=> ?_) ((z4 (by omega)).trans ((A1 pb k1).trans gpb)) ((z4 (by omega)).trans ((A1 bb k3).trans gbb)) (fun d H' hP=> ?_) (fun d H' hP=>(hP.old _ (by omega) (by omega)).trans ((A1 px k2).trans gpx)) ⟨fun z hz _=>z4 hz,(z4 (by omega)).trans A2,z3 _ _,Nat.lt_succ_self _⟩
  ·refine FW.mono' (great_round F.p hr' (x:=x) (v:=f x) (caps:=caps) hP.loop hP.obj ((hP.old (h.next+1) (by omega) (by omega)).trans A3) (fun h' w' hn' ha'=>hW x hx h' w' (by omega) (fun z hz=>(ha' z (by omega) (by omega)).trans ((hP.old z (by omega) (by omega)).trans (A1 z hz))))) ?_
   rintro r H'' ⟨q1,q2,q3,q4⟩
   exact⟨q1,q2,q3,by rw[gM_snoc];exact q4⟩
  ·have:=hP.nx
   exact SliceOf.agree hks (by omega) fun b0 vs o t hb he=>(hP.old b0 (by omega) (by omega)).trans (A1 b0 hb)
 intro h3 c1 c2 c3 c4 c5
 refine kB_n ?_;refine kS_n ?_;refine y4 ?_;refine yL ?_;refine yM ?_;refine y3 ?_;refine wE_ret ?_
 exact endP_ret c1 rfl rfl
set_option maxHeartbeats 8000000 in
theorem great_cuts(F:FnsP T){h:Heap}(hr:Rdy h){px k a b:Nat}{caps:List Value}{least:Int}{f:Nat×Nat→Int}(ha:a<1000)(hb:b<1000)
 (gpx:h.get px=some (.cells [.int .i64 a, .int .i64 b] true 1))
 (hW:∀x∈cutsL a b,∀h',WF h'→h.next≤h'.next→(∀z,z<h.next→h'.get z=h.get z)→Pu T k (nodeV x::caps) {h' with log:=[]} (.int .i64 (f x))):
 Pu T 166 [.int .i64 least,fn1 141 px, .func (.func k) #[] caps.toArray] h (.int .i64 (gM f (cutsL a b) least)):=by
 refine .of F.p F.f166 hr rfl ?_
 have k2:=WF.get_lt hr.wf gpx
 refine y4 ?_;refine yB ?_;refine yB ?_;refine yM ?_;refine y3 ?_;refine wE_seq ?_;refine y4 ?_
 refine yM ?_;refine y3 ?_;refine wE_block ?_
 refine WE.gen fun hA hAe=> ?_
 have A1:∀z,z<h.next→hA.get z=h.get z:=fun z hz=>by rw[hAe];simp(disch:=first|omega|(simp only[z1,z2];omega))only[z4]
 have A2:hA.get h.next=some (.cells [.int .i64 least] true 1):=by rw[hAe];(simp(disch:=first|omega|(simp only[z1,z2];omega))only[z3,z4,z5,z6,z7,z1,z2, *];exact rfl)
 have A3:hA.get (h.next+1)=some (.cells [.func (.func k) #[] caps.toArray] true 1):=by rw[hAe];(simp(disch:=first|omega|(simp only[z1,z2];omega)|(simp only[z1,z2];done)|fail)only[z8,z4,z5,z9,z7,z1,z2, *];exact rfl)
 have A5:hA.next=h.next+2:=by rw[hAe];rfl
 have A6:hA.log=[]:=by rw[hAe];exact hr.log
 have A7:WF hA:=by rw[hAe];exact(hr.wf.push _).push _
 clear hAe
 refine inner_range (q:=h.next) (all:=cutsL a b) (O:=fun d=> .cells [.int .i64 (gM f d least)] true 1) rfl (by rfl) (by rw[F.f141];rfl) (by omega) (by omega) A6 A7 ?_ (by omega) ?_
 ·refine cuts141 F.p F.f141 (.of (A7.push _)) (bx:=px) (l:=hA.next) (N:=hA.next+1) (lo:=h.next) (a:=a) (b:=b) (Nat.le_refl _) (by show h.next≤hA.next+1;omega) ha hb
   (PW.yld F.p (by omega) fun done x H' hx hr' hlt hP=> ?_) (fun d H' hP=>(hP.old _ (by omega) (by omega)).trans ((A1 px k2).trans gpx)) ⟨fun z hz _=>z4 hz,(z4 (by omega)).trans A2,z3 _ _,Nat.lt_succ_self _⟩
  refine FW.mono' (great_round F.p hr' (x:=x) (v:=f x) (caps:=caps) hP.loop hP.obj ((hP.old (h.next+1) (by omega) (by omega)).trans A3) (fun h' w' hn' ha'=>hW x hx h' w' (by omega) (fun z hz=>(ha' z (by omega) (by omega)).trans ((hP.old z (by omega) (by omega)).trans (A1 z hz))))) ?_
  rintro r H'' ⟨q1,q2,q3,q4⟩
  exact⟨q1,q2,q3,by rw[gM_snoc];exact q4⟩
 intro h3 c1 c2 c3 c4 c5
 refine kB_n ?_;refine kS_n ?_;refine y4 ?_;refine yL ?_;refine yM ?_;refine y3 ?_;refine wE_ret ?_
 exact endP_ret c1 rfl rfl
end Go.A.Pk
end
section
set_option maxRecDepth 100000
namespace Go.A.Pk
variable {T:Nat→Option AFunc}
def asgW:ACode:=(.region [g 13 (.new [(.int .i64 0),(.int .i64 0)]),⟨none, .store 2 (t 13) (t 20),none⟩] [5,6,9,11,12,13])
def bodyW:ACode:=(.block 1 (.seq (.region [g 21 (.load none (t 5)),g 22 (.load (some 2) (t 13)),g 23 (.call (.func 104) [(t 21),(t 22)]),g 24 (.mkFunc (.func 167) [] [(t 9),(t 5)]),g 25 (.call (.func 166) [(.const (.int .i64 (-1099511627776))),(t 23),(t 24)]),g 14 (.mov (t 25))] [5,6,11,12,13,14])
 (.draw [g 26 (.load none (t 11)),g 27 (.load (some 2) (t 13)),g 28 (.mov (t 14)),g 29 (.load none (t 5)),g 30 (.load (some 2) (t 13)),g 31 (.call (.func 105) [(t 29),(t 30)]),g 32 (.mkFunc (.func 168) [] [(t 5),(t 13),(t 12),(t 6)]),g 33 (.call (.func 166) [(t 28),(t 31),(t 32)]),⟨none, .mapUp true [.i .i64, .i .i64] (t 26) (t 27) (t 33),none⟩] [0,1,2,3,4,6,5,7,8] [0,0,0,0,0,24,0,124,255] [])))
theorem sv_fn4(f a b c d:Nat):sameV (.func (.func f) #[] #[.pointer (some ⟨a,0,none⟩), .pointer (some ⟨b,0,none⟩), .pointer (some ⟨c,0,none⟩), .pointer (some ⟨d,0,none⟩)]) (.func (.func f) #[] #[.pointer (some ⟨a,0,none⟩), .pointer (some ⟨b,0,none⟩), .pointer (some ⟨c,0,none⟩), .pointer (some ⟨d,0,none⟩)])=true:=by simp[sameV,sameL,same1]
theorem wD_mapUp{base:Nat}{e:Env}{h:Heap}{ops:List AOper}{bf:List Nat}{rs rs':List Rec}{Q:Env→Heap→Prop}{i mask:Nat}{is:List Nat}{dst:Option Nat}{m k v:Operand}{r:Nat}{t:Tab}{x:Nat×Nat}{z:Int}{g:Option (Nat×Bool)}{er:Env}(ho:lget ops i=some ⟨dst, .mapUp true [.i .i64, .i .i64] m k v,g⟩)(hm:lget bf i=some mask)
 (he:keepE e (slotsA ⟨dst, .mapUp true [.i .i64, .i .i64] m k v,g⟩)=er)(hw:wantedA er g=some true)(h1:ev {h with log:=[]} er m=some (.map (some r)))(h2:ev {h with log:=[]} er k=some (boardV x))(h3:ev {h with log:=[]} er v=some (.int .i64 z))(h4:h.get r=some (.map (ents t)))(hlt:r<h.next)
 (hrs:recsAfter (h.wr base r (.map (ents (upd t x z)))) base [r] mask rs=some rs')(H:WD T base ops bf Q is rs' (dstE e dst (.tuple #[])) (h.wr base r (.map (ents (upd t x z))))):WD T base ops bf Q (i::is) rs e h:=
 wD_actH ho hm he hw rfl (a_mapUp (h:={h with log:=[]}) h1 h2 h3 h4) (eq_wrA hlt _) (lg_wr hlt _) hrs H
structure FnsQ (T:Nat→Option AFunc):Prop extends FnsV T,FnsO T,FnsP T
def valW(kerf:Int)(ws:List Int)(kl:List Kd)(kind:Nat)(t u:Tab)(a b:Nat):Int:=gM (cutW kerf t u a b) (cutsL a b) (gM (leafW ws kind) (leavesL a b kl 0) never)
set_option maxHeartbeats 8000000 in
theorem with_round(F:FnsQ T){H:Heap}(hr:Rdy H){p5 p6 p9 p11 p12 mb mq bb l n c wc a b kind:Nat}{sa wa:Option Addr}{fv:Value}{kerf:Int}{ws:List Int}{kl:List Kd}{t u:Tab}(ha:a<1000)(hb:b<1000)(hn:n<1000)(hk:0≤kerf∧kerf≤100)(hkind:kind<n)
 (hs1:∀x∈cutsL a b,(-4611686018427387904≤oneW t (oneB x a b)+look u (twoB kerf x a b)∧oneW t (oneB x a b)+look u (twoB kerf x a b)≤4611686018427387904)∧(-4611686018427387904≤look u (oneB x a b)+oneW t (twoB kerf x a b)∧look u (oneB x a b)+oneW t (twoB kerf x a b)≤4611686018427387904))
 (gl:H.get l=some (.loop [(5, .pointer (some ⟨p5,0,none⟩)),(6, .pointer (some ⟨p6,0,none⟩)),(9, .pointer (some ⟨p9,0,none⟩)),(11, .pointer (some ⟨p11,0,none⟩)),(12, .pointer (some ⟨p12,0,none⟩)),(19,fv)] [20] asgW bodyW 0 .normal))
 (g5:H.get p5=some (.cells [.pointer (some ⟨bb,0,none⟩)] true 1))(g6:H.get p6=some (.cells [.map (some mq)] true 1))(g9:H.get p9=some (.cells [.int .i64 kind] true 1))(g11:H.get p11=some (.cells [.map (some mb)] true 1))(g12:H.get p12=some (.cells [fn1 165 p11] true 1))(gt:H.get mb=some (.map (ents t)))(gu:H.get mq=some (.map (ents u)))
 (gb:H.get bb=some (.cells [.slice sa n c, .int .i64 kerf, .slice wa n wc] true 1))(hks:SliceOf H 5 (.slice sa n c) n (kcs kl))(hws:SliceOf H 1 (.slice wa n wc) n (ints ws)):
 FW T (.yield l) [boardV (a,b)] H fun r H'=>r= .ret (.bool true)∧(∀z∈H'.log,mb≤z∧z<mb+1)∧(∀z,z<H.next→z≠mb→H'.get z=H.get z)∧H'.get mb=some (.map (ents (upd t (a,b) (valW kerf ws kl kind t u a b)))):=by
 have n5:=ne_loop g5 gl
 have n6:=ne_loop g6 gl
 have n9:=ne_loop g9 gl
 have n11:=ne_loop g11 gl
 have n12:=ne_loop g12 gl
 have nb:=ne_loop gb gl
 have nt:=ne_map gt gl
 have nu:=ne_map gu gl
 have k5:=WF.get_lt hr.wf g5
 have k6:=WF.get_lt hr.wf g6
 have k9:=WF.get_lt hr.wf g9
 have k11:=WF.get_lt hr.wf g11
 have k12:=WF.get_lt hr.wf g12
 have kb:=WF.get_lt hr.wf gb
 have kt:=WF.get_lt hr.wf gt
 have ku:=WF.get_lt hr.wf gu
 have kl':=WF.get_lt hr.wf gl
 have hlen:kl.length=n:=by have:=hks.len;rw[kcs_length]at this;omega
 refine FW.yieldN F.toFnsV.p (R:=fun H'=>(∀z,z<H.next→z≠mb→H'.get z=H.get z)∧H'.get mb=some (.map (ents (upd t (a,b) (valW kerf ws kl kind t u a b))))) gl rfl kl' ?_
 unfold asgW
 refine wE_region ?_;refine wO_val a_new ?_;refine yS ?_;refine wO_nil ?_
 refine y1 ?_
 refine⟨rfl,by(simp(disch:=first|omega|(simp only[z1,z2];omega))only[z3,z4,z5,z6,z7,z1,z2, *];exact rfl),?_⟩
 unfold bodyW
 refine wE_block ?_;refine y4 ?_;refine yL ?_
 refine yN ?_
 refine WO.gen ?_
 intro hA hAe
 have A1:∀z,z<H.next→z≠l→hA.get z=H.get z:=fun z hz hne=>by rw[hAe];simp(disch:=first|omega|(simp only[z1,z2];omega))only[z5,z4]
 have A3:hA.get H.next=some (.cells [.int .i64 a, .int .i64 b] true 1):=by rw[hAe];(simp(disch:=first|omega|(simp only[z1,z2];omega))only[z3,z4,z5,z6,z7,z1,z2, *];exact rfl)
 have A2:hA.get l=some (.loop [(5, .pointer (some ⟨p5,0,none⟩)),(6, .pointer (some ⟨p6,0,none⟩)),(9, .pointer (some ⟨p9,0,none⟩)),(11, .pointer (some ⟨p11,0,none⟩)),(12, .pointer (some ⟨p12,0,none⟩)),(19,fv)] [20] asgW bodyW 1 .normal):=by rw[hAe];(simp(disch:=first|omega|(simp only[z1,z2];omega))only[z3,z4,z5,z6,z7,z1,z2, *];exact rfl)
 have A5:hA.next=H.next+1:=by rw[hAe];rfl
 have A6:hA.log=[]:=by rw[hAe];simp(disch:=first|omega|(simp only[z1,z2];omega))only[Heap.log_wr_new,Heap.log_push];exact hr.log
 have A7:WF hA:=by rw[hAe];exact(((hr.wf.push _).as (AS.wr _ _ _ _)).as (AS.wr _ _ _ _))
 clear hAe
 refine yC ?_
 refine FW.al (leaves104 F.toFnsV.p F.f104 (.of A7) bb a b) (fun _ _ _ q=>q) ?_
 rintro _ h1 hx1 ⟨rfl,hn1,gp,gx⟩
 have eA:({hA with log:=[]}:Heap).next=H.next+1:=A5
 rw[eA]at hn1 gp gx
 rw[eA]
 have B1:∀z,z<H.next→z≠l→h1.get z=H.get z:=fun z hz hne=>(hx1.old z (by omega)).trans (A1 z hz hne)
 have B2:=(hx1.old l (by omega)).trans A2
 have B3:h1.get H.next=some (.cells [.int .i64 a, .int .i64 b] true 1):=(hx1.old _ (by omega)).trans A3
 have B6:h1.log=[]:=hx1.log.trans A6
 have B7:WF h1:=hx1.wf A7
 clear hx1 A1 A2 A3 A6 A7
 refine wO_val (a_mkFunc (by exact rfl) (by exact rfl)) ?_
 refine yC ?_
 refine FW.pu (great_leaves F.toFnsP (.of B7) (k:=167) (l:=kl) (f:=leafW ws kind) (caps:=[.pointer (some ⟨p9,0,none⟩), .pointer (some ⟨p5,0,none⟩)]) hn gp gx ((B1 bb kb nb).trans gb) (SliceOf.agree hks (by show H.next≤h1.next;omega) fun b0 vs o t hb he=>B1 b0 hb (ne_loop he gl)) (fun x hx h' w' hn' ha'=> ?_)) ?_
 ·have hold:∀z,z<H.next→z≠l→h'.get z=H.get z:=fun z hz hne=>(ha' z (by show z<h1.next;omega)).trans (B1 z hz hne)
  have hnx:h1.next≤h'.next:=hn'
  exact leaf167 F.toFnsN (.of w') hkind ((hold p9 k9 n9).trans g9) ((hold p5 k5 n5).trans g5) ((hold bb kb nb).trans gb) (SliceOf.agree hws (by show H.next≤h'.next;omega) fun b0 vs o t hb he=>hold b0 hb (ne_loop he gl))
 refine yM ?_;refine y3 ?_;refine wE_draw ?_
 refine qL ?_
 refine qN ?_;refine qM ?_
 refine qL ?_
 refine qN ?_
 refine wD_quiet rfl rfl rfl (by exact rfl) (by exact rfl) (by exact rfl) (a_mkFunc (by exact rfl) (by exact rfl)) ?_
 refine qC ?_
 refine FW.alD (cuts105 F.toFnsV.p F.f105 (.of B7) _ a b) (fun _ _ _ q=>q) ?_
 rintro _ h4 hx4 ⟨rfl,hn4,gx4⟩
 have e3:({h1 with log:=[]}:Heap).next=h1.next:=rfl
 rw[e3]at hn4 gx4
 rw[e3]
 have E1:∀z,z<H.next→z≠l→h4.get z=H.get z:=fun z hz hne=>(hx4.old z (by omega)).trans (B1 z hz hne)
 have E2:=(hx4.old l (by omega)).trans B2
 have E3:h4.get H.next=some (.cells [.int .i64 a, .int .i64 b] true 1):=(hx4.old _ (by omega)).trans B3
 have E6:h4.log=[]:=hx4.log.trans B6
 have E7:WF h4:=hx4.wf B7
 have G5:=(E1 p5 k5 n5).trans g5
 have G6:=(E1 p6 k6 n6).trans g6
 have G11:=(E1 p11 k11 n11).trans g11
 have G12:=(E1 p12 k12 n12).trans g12
 have Gt:=(E1 mb kt nt).trans gt
 clear hx4 B1 B2 B3 B6 B7
 refine⟨_,by apply ra_keepC rfl (rq_quiet rfl (a_mkFunc (by exact rfl) (by exact rfl)) (by exact sv_fn4 _ _ _ _ _)) rfl;apply ra_dropC rfl;apply ra_dropC rfl;apply ra_keepC rfl (rq_quiet rfl (a_mov (by exact rfl)) (by exact sv_int _ _)) rfl;apply ra_keepC rfl (rq_quiet rfl (a_loadN (by exact rfl) (by assumption) (by exact rfl) (by exact rfl)) (by exact sv_agg (by refine sl_cons (s1_int _ _) ?_;refine sl_cons (s1_int _ _) ?_;exact sl_nil))) rfl;apply ra_keepC rfl (rq_quiet rfl (a_load (by exact rfl) (by assumption) (by exact rfl)) (by exact sv_map _)) rfl;exact ra_nil,?_⟩
 skip
 refine qC ?_
 refine FW.puD (great_cuts F.toFnsP (.of E7) (k:=168) (f:=cutW kerf t u a b) (caps:=[.pointer (some ⟨p5,0,none⟩), .pointer (some ⟨H.next,0,none⟩), .pointer (some ⟨p12,0,none⟩), .pointer (some ⟨p6,0,none⟩)]) ha hb gx4 (fun x hx h' w' hn' ha'=> ?_)) (by apply ra_dropC rfl;apply ra_dropC rfl;apply ra_keepC rfl (rq_quiet rfl (a_loadN (by exact rfl) (by assumption) (by exact rfl) (by exact rfl)) (by exact sv_agg (by refine sl_cons (s1_int _ _) ?_;refine sl_cons (s1_int _ _) ?_;exact sl_nil))) rfl;apply ra_keepC rfl (rq_quiet rfl (a_load (by exact rfl) (by assumption) (by exact rfl)) (by exact sv_map _)) rfl;exact ra_nil) ?_
 ·have hold:∀z,z<H.next→z≠l→h'.get z=H.get z:=fun z hz hne=>(ha' z (by show z<h4.next;omega)).trans (E1 z hz hne)
  have hxc:=cuts_of hx
  have hs:=hs1 x hx
  exact cut168 F.toFnsO (.of w') (by omega) (by omega) ha hb hk hs.1 hs.2 ((hold p5 k5 n5).trans g5) ((ha' H.next (by show H.next<h4.next;omega)).trans E3) ((hold p12 k12 n12).trans g12) ((hold p6 k6 n6).trans g6) ((hold p11 k11 n11).trans g11) ((hold mb kt nt).trans gt) ((hold mq ku nu).trans gu) ((hold bb kb nb).trans gb)
 refine wD_mapUp (x:=(a,b)) rfl rfl rfl (by exact rfl) (by exact rfl) (by exact rfl) (by exact rfl) Gt (by omega) (by apply ra_dropC rfl;apply ra_dropC rfl;exact ra_nil) ?_
 refine wD_nil ?_;refine y1 ?_;refine kB_n ?_
 refine⟨rfl,⟨_,by(simp(disch:=first|omega|(simp only[z1,z2];omega))only[z3,z4,z5,z6,z7,z1,z2, *];exact rfl),rfl⟩,?_,?_⟩
 ·intro z hz
  rw[log_wr_q E6 kt]at hz
  simp at hz;omega
 ·intro h6 hn6 hag hl6
  refine⟨fun z hz hne=> ?_,(hag mb kt nt).trans (Heap.get_wr_new Gt)⟩
  by_cases hz2:z=l
  ·rw[hz2];exact hl6.trans gl.symm
  ·exact(hag z hz hz2).trans ((z5 hne).trans (E1 z hz hz2))
end Go.A.Pk
end
section
namespace Go.A.Pk
theorem cut_bd2{W kerf:Int}{t u:Tab}(hW:0≤W)(hk:0≤kerf)(ht:Bd W t)(hu0:Bd W u){a b:Nat}{x:Nat×Nat}(hx:x∈cutsL a b):0≤look t (oneB x a b)+look u (twoB kerf x a b)∧look t (oneB x a b)+look u (twoB kerf x a b)≤W*((a:Int)*(b:Int)):=by
 have h1:=look_bd (oneB x a b) ht
 have h2:=look_bd (twoB kerf x a b) hu0
 have h0:0≤W*((a:Int)*(b:Int)):=Int.mul_nonneg hW (Int.mul_nonneg (by omega) (by omega))
 rcases cuts_of hx with⟨e3,hl,hu⟩|⟨e4,hl,hu⟩
 ·simp only[oneB,twoB,e3,if_true]at h1 h2⊢
  rcases h1 with h1|h1
  ·rcases h2 with h2|h2
   ·rw[h1,h2];omega
   ·have:=area_mono (W:=W) (a:=(a:Int)-x.2-kerf) (b:=b) (c:=a) (d:=b) hW (by omega) (by omega) (by omega) (Int.le_refl _)
    rw[h1];omega
  ·rcases h2 with h2|h2
   ·have:=area_mono (W:=W) (a:=(x.2:Int)) (b:=b) (c:=a) (d:=b) hW (by omega) (by omega) (by omega) (Int.le_refl _)
    rw[h2];omega
   ·have e:W*((x.2:Int)*b)+W*(((a:Int)-x.2-kerf)*b)=W*(((x.2:Int)+((a:Int)-x.2-kerf))*b):=by rw[Int.add_mul,Int.mul_add]
    have:=area_mono (W:=W) (a:=(x.2:Int)+((a:Int)-x.2-kerf)) (b:=b) (c:=a) (d:=b) hW (by omega) (by omega) (by omega) (Int.le_refl _)
    omega
 ·have n3:¬x.1=3:=by omega
  simp only[oneB,twoB,if_neg n3]at h1 h2⊢
  rcases h1 with h1|h1
  ·rcases h2 with h2|h2
   ·rw[h1,h2];omega
   ·have:=area_mono (W:=W) (a:=a) (b:=(b:Int)-x.2-kerf) (c:=a) (d:=b) hW (by omega) (Int.le_refl _) (by omega) (by omega)
    rw[h1];omega
  ·rcases h2 with h2|h2
   ·have:=area_mono (W:=W) (a:=a) (b:=(x.2:Int)) (c:=a) (d:=b) hW (by omega) (Int.le_refl _) (by omega) (by omega)
    rw[h2];omega
   ·have e:W*((a:Int)*x.2)+W*((a:Int)*((b:Int)-x.2-kerf))=W*((a:Int)*((x.2:Int)+((b:Int)-x.2-kerf))):=by rw[Int.mul_add (a:Int),Int.mul_add W]
    have:=area_mono (W:=W) (a:=a) (b:=(x.2:Int)+((b:Int)-x.2-kerf)) (c:=a) (d:=b) hW (by omega) (Int.le_refl _) (by omega) (by omega)
    omega
def pos(t:Tab):Tab:=t.map fun e=>(e.1,if e.2<0 then 0 else e.2)
theorem look_pos(x:Int×Int):∀(t:Tab),look (pos t) x=if look t x<0 then 0 else look t x
 |[]=>rfl
 |e::t=>by
  simp only[pos,List.map_cons,look]
  have hk:isKey x (e.1,if e.2<0 then 0 else e.2)=isKey x e:=rfl
  rw[hk]
  split
  ·rfl
  ·exact look_pos x t
theorem oneW_le(t:Tab)(x:Int×Int):oneW t x≤look (pos t) x:=by
 rw[look_pos]
 unfold oneW never
 split<;>split<;>omega
theorem look_ge{m:Int}(hm:m≤0)(x:Int×Int):∀(t:Tab),(∀e∈t,m≤e.2)→m≤look t x
 |[],_=>hm
 |e::t,h=>by
  simp only[look]
  split
  ·exact h e (List.mem_cons_self ..)
  ·exact look_ge hm x t fun e he=>h e (List.mem_cons_of_mem _ he)
structure Bw (W:Int) (t:Tab):Prop where
 up:Bd W (pos t)
 low:∀e∈t,never≤e.2
theorem oneW_ge{W:Int}{t:Tab}(h:Bw W t)(x:Int×Int):never≤oneW t x:=by
 unfold oneW
 split
 ·exact Int.le_refl _
 ·exact look_ge (by unfold never;omega) x t h.low
theorem cutW_bd{W kerf:Int}{t u:Tab}(hW:0≤W)(hk:0≤kerf)(ht:Bw W t)(hu:Bd W u){a b:Nat}{x:Nat×Nat}(hx:x∈cutsL a b):
 (never≤oneW t (oneB x a b)+look u (twoB kerf x a b)∧oneW t (oneB x a b)+look u (twoB kerf x a b)≤W*((a:Int)*(b:Int)))∧(never≤look u (oneB x a b)+oneW t (twoB kerf x a b)∧look u (oneB x a b)+oneW t (twoB kerf x a b)≤W*((a:Int)*(b:Int))):=by
 have h1:=(cut_bd2 hW hk ht.up hu hx).2
 have h2:=(cut_bd2 hW hk hu ht.up hx).2
 have h3:=oneW_le t (oneB x a b)
 have h4:=oneW_le t (twoB kerf x a b)
 have h5:=oneW_ge ht (oneB x a b)
 have h6:=oneW_ge ht (twoB kerf x a b)
 have h7:=look_bd (oneB x a b) hu
 have h8:=look_bd (twoB kerf x a b) hu
 refine⟨⟨?_,?_⟩,?_,?_⟩<;>omega
end Go.A.Pk
end
section
set_option maxRecDepth 100000
namespace Go.A.Pk
variable {T:Nat→Option AFunc}
theorem gM_bd{f:Nat×Nat→Int}{lo hi:Int}:∀{xs:List (Nat×Nat)} {m:Int},(∀x∈xs,lo≤f x∧f x≤hi)→lo≤m→m≤hi→lo≤gM f xs m∧gM f xs m≤hi
 |[],m,_,h1,h2=>⟨h1,h2⟩
 |x::xs,m,h,h1,h2=>by
  have hx:=h x (List.mem_cons_self ..)
  refine gM_bd (xs:=xs) (m:=mx m (f x)) (fun y hy=>h y (List.mem_cons_of_mem _ hy)) ?_ ?_<;>unfold mx<;>split<;>omega
theorem pos_upd(x:Nat×Nat)(v:Int):∀t:Tab,pos (upd t x v)=upd (pos t) x (if v<0 then 0 else v)
 |[]=>rfl
 |e::t=>by
  have hk:isKey (x.1,x.2) (e.1,if e.2<0 then 0 else e.2)=isKey (x.1,x.2) e:=rfl
  simp only[upd,pos,List.map_cons,hk]
  split
  ·rfl
  ·simp only[List.map_cons]
   exact congrArg _ (pos_upd x v t)
theorem mem_upd{x:Nat×Nat}{v:Int}:∀{t:Tab} {e:(Nat×Nat)×Int},e∈upd t x v→e=(x,v)∨e∈t
 |[],e,h=>by simp only[upd,List.mem_singleton]at h;exact .inl h
 |e0::t,e,h=>by
  simp only[upd]at h
  split at h
  ·rcases List.mem_cons.1 h with h|h
   ·exact .inl h
   ·exact .inr (List.mem_cons_of_mem _ h)
  ·rcases List.mem_cons.1 h with h|h
   ·exact .inr (h▸List.mem_cons_self ..)
   ·exact(mem_upd h).imp id (List.mem_cons_of_mem _)
theorem Bw.upd{W:Int}{t:Tab}{x:Nat×Nat}{v:Int}(h:Bw W t)(hW:0≤W)(hx:1≤x.1∧1≤x.2)(hv:never≤v∧v≤W*((x.1:Int)*(x.2:Int))):Bw W (Pk.upd t x v)where
 up:=by
  rw[pos_upd]
  have h0:0≤W*((x.1:Int)*(x.2:Int)):=Int.mul_nonneg hW (Int.mul_nonneg (by omega) (by omega))
  exact upd_bd hx (by split<;>omega) h.up
 low:=fun e he=>by
  rcases mem_upd he with rfl|he
  ·exact hv.1
  ·exact h.low e he
theorem valW_bd{W kerf:Int}{ws:List Int}{kl:List Kd}{kind:Nat}{t u:Tab}(hW:0≤W)(hk:0≤kerf)(hws:∀x∈ws,0≤x∧x≤W)(ht:Bw W t)(hu:Bd W u){a b:Nat}(ha:1≤a)(hb:1≤b):never≤valW kerf ws kl kind t u a b∧valW kerf ws kl kind t u a b≤W*((a:Int)*(b:Int)):=by
 have hWB:W≤W*((a:Int)*(b:Int)):=by
  have:=area_mono (W:=W) (a:=1) (b:=1) (c:=a) (d:=b) hW (by omega) (by omega) (by omega) (by omega)
  omega
 have hn:never≤0:=by unfold never;omega
 have hl:∀x,never≤leafW ws kind x∧leafW ws kind x≤W*((a:Int)*(b:Int)):=fun x=>by
  unfold leafW
  split
  ·rcases Nat.lt_or_ge kind ws.length with hlt|hge
   ·have e:ws.getD kind 0=ws[kind]:=by simp[List.getD,List.getElem?_eq_getElem hlt]
    have:=hws _ (List.getElem_mem hlt)
    rw[e];omega
   ·have e:ws.getD kind 0=0:=by simp[List.getD,List.getElem?_eq_none hge]
    rw[e];omega
  ·omega
 obtain⟨h1,h2⟩:=gM_bd (f:=leafW ws kind) (xs:=leavesL a b kl 0) (m:=never) (fun x _=>hl x) (Int.le_refl _) (by omega)
 refine gM_bd (fun x hx=> ?_) h1 h2
 have hc:=cutW_bd hW hk ht hu hx
 unfold cutW mx
 split<;>omega
def withL(kerf:Int)(ws:List Int)(kl:List Kd)(kind:Nat)(u:Tab)(done:List (Nat×Nat)):Tab:=done.foldl (fun t x=>upd t x (valW kerf ws kl kind t u x.1 x.2)) []
theorem withL_snoc(kerf:Int)(ws:List Int)(kl:List Kd)(kind:Nat)(u:Tab)(done:List (Nat×Nat))(x:Nat×Nat):withL kerf ws kl kind u (done++[x])=upd (withL kerf ws kl kind u done) x (valW kerf ws kl kind (withL kerf ws kl kind u done) u x.1 x.2):=by simp[withL]
end Go.A.Pk
end
section
set_option maxRecDepth 100000
namespace Go.A.Pk
variable {T:Nat→Option AFunc}
structure FnsR (T:Nat→Option AFunc):Prop extends FnsQ T where
 f139:T 139=some f139
set_option maxHeartbeats 8000000 in
theorem with139(F:FnsR T){h:Heap}(hr:Rdy h){bb mq n c wc w ht kind:Nat}{sa wa:Option Addr}{kerf W:Int}{ws:List Int}{kl:List Kd}{u:Tab}(hw:w<1000)(hh:ht<1000)(hn:n<1000)(hkind:kind<n)(hk:0≤kerf∧kerf≤100)(hW:0≤W∧W≤1000000000)(hws0:∀x∈ws,0≤x∧x≤W)(hu:Bd W u)
 (gb:h.get bb=some (.cells [.slice sa n c, .int .i64 kerf, .slice wa n wc] true 1))(gu:h.get mq=some (.map (ents u)))(hks:SliceOf h 5 (.slice sa n c) n (kcs kl))(hws:SliceOf h 1 (.slice wa n wc) n (ints ws)):
 Al T 139 [.pointer (some ⟨bb,0,none⟩), .map (some mq), .int .i64 w, .int .i64 ht, .int .i64 kind] h fun v h'=>∃r,v= .map (some r)∧h'.get r=some (.map (ents (withL kerf ws kl kind u (boardsL w ht)))):=by
 refine .of F.toFnsV.p F.f139 hr (fun v h1 hv q=>by obtain⟨r,rfl,_⟩:=q;cases hv) ?_
 have kb:=WF.get_lt hr.wf gb
 have ku:=WF.get_lt hr.wf gu
 refine y4 ?_;refine yB ?_;refine yB ?_;refine yB ?_;refine yM ?_;refine y3 ?_;refine y4 ?_
 refine wO_val a_mkMap ?_
 refine wO_val a_new ?_;refine yS ?_
 refine y3 ?_;refine y4 ?_;refine wO_val (a_mkFunc (by exact rfl) (by exact rfl)) ?_;refine wO_val a_new ?_
 refine yS ?_;refine y3 ?_;refine wE_seq ?_;refine y4 ?_;refine yM ?_;refine yM ?_
 refine WO.gen ?_
 intro hA hAe
 have A1:∀z,z<h.next→hA.get z=h.get z:=fun z hz=>by rw[hAe];simp(disch:=first|omega|(simp only[z1,z2];omega))only[z5,z4]
 have A2:hA.get h.next=some (.cells [.pointer (some ⟨bb,0,none⟩)] true 1):=by rw[hAe];(simp(disch:=first|omega|(simp only[z1,z2];omega))only[z3,z4,z5,z6,z7,z1,z2, *];exact rfl)
 have A2b:hA.get (h.next+1)=some (.cells [.map (some mq)] true 1):=by rw[hAe];(simp(disch:=first|omega|(simp only[z1,z2];omega)|(simp only[z1,z2];done)|fail)only[z8,z4,z5,z9,z7,z1,z2, *];exact rfl)
 have A2c:hA.get (h.next+2)=some (.cells [.int .i64 kind] true 1):=by rw[hAe];(simp(disch:=first|omega|(simp only[z1,z2];omega)|(simp only[z1,z2];done)|fail)only[z8,z4,z5,z9,z7,z1,z2, *];exact rfl)
 have A3:hA.get (h.next+3)=some (.map []):=by rw[hAe];(simp(disch:=first|omega|(simp only[z1,z2];omega)|(simp only[z1,z2];done)|fail)only[z8,z4,z5,z9,z7,z1,z2, *];done)
 have A4:hA.get (h.next+4)=some (.cells [.map (some (h.next+3))] true 1):=by rw[hAe];(simp(disch:=first|omega|(simp only[z1,z2];omega)|(simp only[z1,z2];done)|fail)only[z8,z4,z5,z9,z7,z1,z2, *];exact rfl)
 have A4b:hA.get (h.next+5)=some (.cells [fn1 165 (h.next+4)] true 1):=by rw[hAe];(simp(disch:=first|omega|(simp only[z1,z2];omega)|(simp only[z1,z2];done)|fail)only[z8,z4,z5,z9,z7,z1,z2, *];exact rfl)
 have A5:hA.next=h.next+6:=by rw[hAe];rfl
 have A6:hA.log=[]:=by rw[hAe];simp(disch:=first|omega|(simp only[z1,z2];omega))only[Heap.log_wr_new,Heap.log_push];exact hr.log
 have A7:WF hA:=by rw[hAe];exact(((((((hr.wf.push _).push _).push _).push _).push _).as (AS.wr _ _ _ _)).push _).as (AS.wr _ _ _ _)
 clear hAe
 refine yC ?_
 refine FW.al (boards94 F.toFnsV.p F.f94 (.of A7) w ht) (fun _ _ _ q=>q) ?_
 rintro _ h1 hx1 ⟨rfl,hn1,gp,gx⟩
 have eA:({hA with log:=[]}:Heap).next=h.next+6:=A5
 rw[eA]at hn1 gp gx
 rw[eA]
 have B1:∀z,z<h.next→h1.get z=h.get z:=fun z hz=>(hx1.old z (by omega)).trans (A1 z hz)
 have B2:h1.get h.next=some (.cells [.pointer (some ⟨bb,0,none⟩)] true 1):=(hx1.old _ (by omega)).trans A2
 have B2b:h1.get (h.next+1)=some (.cells [.map (some mq)] true 1):=(hx1.old _ (by omega)).trans A2b
 have B2c:h1.get (h.next+2)=some (.cells [.int .i64 kind] true 1):=(hx1.old _ (by omega)).trans A2c
 have B3:h1.get (h.next+3)=some (.map []):=(hx1.old _ (by omega)).trans A3
 have B4:h1.get (h.next+4)=some (.cells [.map (some (h.next+3))] true 1):=(hx1.old _ (by omega)).trans A4
 have B4b:h1.get (h.next+5)=some (.cells [fn1 165 (h.next+4)] true 1):=(hx1.old _ (by omega)).trans A4b
 have B6:h1.log=[]:=hx1.log.trans A6
 have B7:WF h1:=hx1.wf A7
 clear hx1 A1 A2 A2b A2c A3 A4 A4b A6 A7
 refine y3 ?_;refine wE_block ?_
 refine inner_range (q:=h.next+3) (all:=boardsL w ht) (O:=fun d=> .map (ents (withL kerf ws kl kind u d))) rfl (by rfl) (by rw[F.f136];rfl) (by omega) (by omega) B6 B7 ?_ (by omega) ?_
 ·have Y:Yld T (h.next+3) (h1.next+1) h1.next boardV (boardsL w ht) fun d H=>PW h1.next (h.next+3) h1 (.loop [(5, .pointer (some ⟨h.next,0,none⟩)),(6, .pointer (some ⟨h.next+1,0,none⟩)),(9, .pointer (some ⟨h.next+2,0,none⟩)),(11, .pointer (some ⟨h.next+4,0,none⟩)),(12, .pointer (some ⟨h.next+5,0,none⟩)),(19,fn2 136 (h.next+6) (h.next+7))] [20] asgW bodyW 0 .normal) (fun d=> .map (ents (withL kerf ws kl kind u d))) d H∧Bw W (withL kerf ws kl kind u d):=by
   refine⟨fun done x H hx hrH hN hP=> ?_,fun d H H' hP hN hag=>⟨PW.stable (by omega) d H H' hP.1 hN hag,hP.2⟩⟩
   obtain⟨hP,hB⟩:=hP
   have hxb:=boards_of hx
   have hV:=valW_bd (kl:=kl) (kind:=kind) hW.1 hk.1 hws0 hB hu hxb.1 hxb.2.2.1
   obtain⟨x1,x2⟩:=x
   simp only at hxb hV
   refine FW.mono' (FW.withAS F.toFnsV.p (with_round F.toFnsQ hrH (a:=x1) (b:=x2) (t:=withL kerf ws kl kind u done) (u:=u) (by omega) (by omega) hn hk hkind (fun y hy=> ?_) hP.loop ((hP.old _ (by omega) (by omega)).trans B2) ((hP.old _ (by omega) (by omega)).trans B2b) ((hP.old _ (by omega) (by omega)).trans B2c) ((hP.old _ (by omega) (by omega)).trans B4) ((hP.old _ (by omega) (by omega)).trans B4b) hP.obj ((hP.old mq (by omega) (by omega)).trans ((B1 mq ku).trans gu)) ((hP.old bb (by omega) (by omega)).trans ((B1 bb kb).trans gb)) (SliceOf.agree hks (by omega) fun b0 vs o t hb he=>(hP.old b0 (by omega) (by omega)).trans (B1 b0 hb)) (SliceOf.agree hws (by omega) fun b0 vs o t hb he=>(hP.old b0 (by omega) (by omega)).trans (B1 b0 hb))) hrH.log) ?_
   ·have h1:=cutW_bd hW.1 hk.1 hB hu hy
    have h2:W*((x1:Int)*(x2:Int))≤1000000000*(1000*1000):=Int.le_trans (area_mono (W:=W) (a:=x1) (b:=x2) (c:=1000) (d:=1000) hW.1 (by omega) (by omega) (by omega) (by omega)) (Int.mul_le_mul_of_nonneg_right hW.2 (by omega))
    unfold never at h1
    refine⟨⟨?_,?_⟩,?_,?_⟩<;>omega
   ·rintro r H' ⟨hA',q1,q2,q3,q4⟩
    refine⟨q1,fun z hz=>by have:=q2 z hz;omega,⟨fun y hy hne=>(q3 y (by omega) hne).trans (hP.old y hy hne),by rw[withL_snoc];exact q4,(q3 _ (by omega) (by omega)).trans hP.loop,Nat.lt_of_lt_of_le hP.nx hA'.next⟩,?_⟩
    rw[withL_snoc]
    exact hB.upd hW.1 ⟨hxb.1,hxb.2.2.1⟩ hV
  refine CW.mono (boards136 F.toFnsV.p F.f136 (.of (B7.push _)) (bw:=h.next+6) (bh:=h.next+7) (l:=h1.next) (N:=h1.next+1) (lo:=h.next+3) (w:=w) (ht:=ht) (Nat.le_refl _) (by show h.next+3≤h1.next+1;omega) hw hh Y (fun d H hP=>(hP.1.old _ (by omega) (by omega)).trans gp) (fun d H hP=>(hP.1.old _ (by omega) (by omega)).trans gx)
   ⟨⟨fun z hz _=>z4 hz,(z4 (by omega)).trans B3,z3 _ _,Nat.lt_succ_self _⟩,⟨fun e he=>(by cases he),fun e he=>(by cases he)⟩⟩) ?_
  rintro r h2 ⟨q1,v,q2,q3,q4,_⟩
  exact⟨q1,v,q2,q3,q4⟩
 intro h3 c1 c2 c3 c4 c5
 have D4:h3.get (h.next+4)=some (.cells [.map (some (h.next+3))] true 1):=(c4 _ (by omega) (by omega)).trans B4
 refine kB_n ?_;refine kS_n ?_;refine y4 ?_;refine yL ?_;refine yM ?_;refine y3 ?_;refine wE_ret ?_
 exact endA_ret (vs:=[.map (some (h.next+3))]) c1 (by rfl) ⟨_,rfl,c5⟩
end Go.A.Pk
end
section
set_option maxRecDepth 100000
namespace Go.A.Pk
variable {T:Nat→Option AFunc}
theorem clone138(hp:primAS T)(hf:T 138=some f138){h:Heap}(hr:Rdy h){a:Option Addr}{n c:Nat}{ws:List Int}(hs:SliceOf h 1 (.slice a n c) n (ints ws))(h0:n≠0)(hn:n<1000000):
 Al T 138 [.slice a n c] h fun v h'=>v= .slice (some ⟨h.next+1,0,none⟩) n UNK∧h.next+1<h'.next∧h'.get (h.next+1)=some (.cells (ints ws) true 1):=by
 have hlen:ws.length=n:=by have:=hs.len;simp[ints]at this;omega
 refine .of hp hf hr (fun v h1 hv q=>by rw[q.1]at hv;cases hv) ?_
 rcases hs.inv with⟨_,hv,h1,hl⟩|⟨b,o,cap,hv,s,hc⟩
 ·cases hv;exact absurd rfl h0
 ·cases hv
  refine y4 ?_;refine yM ?_;refine y3 ?_;refine wE_seq ?_;refine y4 ?_;refine yM ?_
  refine wO_val (a_nil (by exact rfl) (by exact rfl) rfl) ?_
  refine y3 ?_;refine yX ?_;refine wE_skip ?_;refine kS_n ?_;refine y4 ?_;refine wO_val (a_bslice (by exact rfl) (by exact rfl)) ?_;refine yM ?_
  refine wO_val (a_app_full (ws:=ints ws) (by exact rfl) (by exact rfl) (src_of (hs.ext ((Ext.refl h).push _))) h0 (by omega) (by unfold UNK;omega) (z3 _ _) (Nat.le_refl _) (by omega) rfl) ?_
  refine yM ?_;refine y3 ?_;refine wE_ret ?_
  refine endA_ret hr.log rfl ?_
  have e0:0+n=n:=Nat.zero_add n
  rw[e0]
  exact⟨rfl,Nat.lt_succ_self _,z3 _ _⟩
end Go.A.Pk
end
section
set_option maxRecDepth 100000
namespace Go.A.Pk
variable {T:Nat→Option AFunc}
structure FnsT (T:Nat→Option AFunc):Prop extends FnsR T where
 f138:T 138=some f138
 f98:T 98=some f98
theorem ints_len(l:List Int):(ints l).length=l.length:=by simp[ints]
theorem st_int{xs:List Int}{i:Nat}{z:Int}(hi:i<xs.length):(Nat.beq (llen (cellsOf (.int .i64 z))) 1&&Nat.ble (0+i*1+1) (llen (ints xs))&&ones (cellsOf (.int .i64 z)))=true:=by
 simp[cellsOf,ones,llen_eq,ints_len];omega
theorem puts_int{xs:List Int}{i:Nat}{z:Int}:lputs (ints xs) (0+i*1) (cellsOf (.int .i64 z))=ints (xs.set i z):=by
 simp[cellsOf,lputs,lset_eq,ints,List.map_set]
theorem full_ints{H:Heap}{b n:Nat}{l:List Int}(hH:b<H.next)(gH:H.get b=some (.cells (ints l) true 1))(hn:l.length=n)(hn2:n<2000000):SliceOf H 1 (.slice (some ⟨b,0,none⟩) n UNK) n (ints l):=
 .mem ⟨hH,⟨_,_,_,gH,by rw[ltake_eq,ldrop_eq,List.drop_zero,List.take_of_length_le (by rw[ints_len];omega)]⟩,by rw[ints_len];omega⟩ (by unfold UNK;omega)
set_option maxHeartbeats 8000000 in
theorem kindly98(F:FnsT T){h:Heap}(hr:Rdy h){bb n c wc w ht kind:Nat}{sa wa:Option Addr}{kerf W more:Int}{ws:List Int}{kl:List Kd}(hw:w<1000)(hh:ht<1000)(hn:n<1000)(hkind:kind<n)(hk:0≤kerf∧kerf≤100)(hW:0≤W∧W≤1000000000)(hws0:∀x∈ws.set kind (ws.getD kind 0+more),0≤x∧x≤W)
 (gb:h.get bb=some (.cells [.slice sa n c, .int .i64 kerf, .slice wa n wc] true 1))(hks:SliceOf h 5 (.slice sa n c) n (kcs kl))(hws:SliceOf h 1 (.slice wa n wc) n (ints ws)):
 Pu T 98 [.pointer (some ⟨bb,0,none⟩), .int .i64 w, .int .i64 ht, .int .i64 kind, .int .i64 more] h (.tuple #[.int .i64 (look (withL kerf (ws.set kind (ws.getD kind 0+more)) kl kind (tabL kerf (ws.set kind (ws.getD kind 0+more)) kl (boardsL w ht)) (boardsL w ht)) (w,ht)), .int .i64 (look (tabL kerf (ws.set kind (ws.getD kind 0+more)) kl (boardsL w ht)) (w,ht))]):=by
 refine .of F.toFnsV.p F.f98 hr rfl ?_
 have kb:=WF.get_lt hr.wf gb
 have hwl:ws.length=n:=by have:=hws.len;rw[ints_len]at this;omega
 have hm:0≤ws.getD kind 0+more∧ws.getD kind 0+more≤W:=hws0 _ (List.mem_set (by omega) _)
 have lg:lget (ints ws) (0+kind*1)=some (.int .i64 (ws.getD kind 0)):=by
  rw[lget_eq,show 0+kind*1=kind by omega];exact ints_get (by omega)
 generalize hV:ws.set kind (ws.getD kind 0+more)=ws' at*
 have hwl':ws'.length=n:=by rw[←hV];simpa using hwl
 refine y4 ?_;refine yM ?_;refine yM ?_;refine y3 ?_;refine wE_seq ?_;refine wE_draw ?_;refine qM ?_
 refine wD_quiet rfl rfl rfl (by exact rfl) (by exact rfl) (by exact rfl) (a_nilchk (by exact rfl)) ?_;refine qF ?_;refine qN ?_
 refine qM ?_;refine wD_quiet rfl rfl rfl (by exact rfl) (by exact rfl) (by exact rfl) (a_nilchk (by exact rfl)) ?_;refine qF ?_
 refine qL ?_
 refine qC ?_
 refine FW.alD (clone138 F.toFnsV.p F.f138 (.of hr.wf) (hws.log []) (by omega) (by omega)) (fun _ _ _ q=>q) ?_
 rintro _ h1 hx1 ⟨rfl,hn1,gw⟩
 have g1:=(hx1.old bb kb).trans gb
 have kb1:bb<h1.next:=Nat.lt_of_lt_of_le kb hx1.next
 have e0:({h with log:=[]}:Heap).next=h.next:=rfl
 rw[e0]at hn1 gw⊢
 refine⟨_,by apply ra_dropC rfl;apply ra_dropC rfl;apply ra_dropC rfl;apply ra_dropC rfl;apply ra_keepC rfl (rq_quiet rfl (a_loadN (by exact rfl) (by assumption) (by exact rfl) (by exact rfl)) (by exact sv_agg (by refine sl_cons (s1_slice _ _ _) ?_;refine sl_cons (s1_int _ _) ?_;exact sl_nil))) rfl;apply ra_keepC rfl (rq_quiet rfl (a_faddr (by exact rfl)) (by exact sv_ptr _)) rfl;apply ra_keepC rfl (rq_quiet rfl (a_nilchk (by exact rfl)) (by exact sv_ptr _)) rfl;apply ra_keepC rfl (rq_quiet rfl (a_mov (by exact rfl)) (by exact sv_ptr _)) rfl;exact ra_nil,?_⟩
 refine wD_quiet rfl rfl rfl (by exact rfl) (by exact rfl) (by exact rfl) (a_build (by exact rfl)) ?_
 refine wD_new rfl rfl rfl (by exact rfl) (by exact rfl) (by exact rfl) (a_box (by exact rfl) (by exact rfl)) (by refine rs_cons (rq_quiet rfl (a_build (by exact rfl)) (by exact sv_agg (by refine sl_cons (s1_slice _ _ _) ?_;refine sl_cons (s1_int _ _) ?_;refine sl_cons (s1_slice _ _ _) ?_;exact sl_nil))) ?_;refine rs_cons (rq_quiet rfl (a_loadN (by exact rfl) (by(simp(disch:=first|omega|(simp only[z1,z2];omega))only[z3,z4,z5,z6,z7,z1,z2, *];exact rfl)) (by exact rfl) (by exact rfl)) (by exact sv_agg (by refine sl_cons (s1_slice _ _ _) ?_;refine sl_cons (s1_int _ _) ?_;exact sl_nil))) ?_;refine rs_cons (rq_quiet rfl (a_faddr (by exact rfl)) (by exact sv_ptr _)) ?_;refine rs_cons (rq_quiet rfl (a_nilchk (by exact rfl)) (by exact sv_ptr _)) ?_;refine rs_cons (rq_quiet rfl (a_mov (by exact rfl)) (by exact sv_ptr _)) ?_;exact rs_nil) ?_
 refine qM ?_;refine wD_nil ?_;refine y1 ?_;refine kS_n ?_;refine y4 ?_;refine yM ?_;refine wO_val (a_nilchk (by exact rfl)) ?_;refine yF ?_
 refine yL ?_;refine yM ?_
 refine wO_val (a_iaddrS (by exact rfl) (by exact rfl) hkind) ?_
 refine wO_val (a_load (by exact rfl) (by(simp(disch:=first|omega|(simp only[z1,z2];omega))only[z3,z4,z5,z6,z7,z1,z2, *];exact rfl)) lg) ?_
 refine yM ?_;refine yadd ?_
 refine wO_val (a_iaddrS (by exact rfl) (by exact rfl) hkind) ?_
 refine wO_val (a_store (by exact rfl) (by exact rfl) (by(simp(disch:=first|omega|(simp only[z1,z2];omega))only[z3,z4,z5,z6,z7,z1,z2, *];exact rfl)) (st_int (by omega)) (puts_int.trans (congrArg _ hV))) ?_
 refine y3 ?_;refine y4 ?_;refine yM ?_;refine yM ?_;refine yM ?_
 refine WO.gen ?_
 intro hA hAe
 have A1:∀z,z<h1.next→z≠h.next+1→hA.get z=h1.get z:=fun z hz hne=>by rw[hAe];exact(z5 hne).trans (z4 hz)
 have A2:hA.get (h.next+1)=some (.cells (ints ws') true 1):=by rw[hAe];exact Heap.get_wr_new ((z4 hn1).trans gw)
 have A3:hA.get h1.next=some (.cells [.slice sa n c, .int .i64 kerf, .slice (some ⟨h.next+1,0,none⟩) n UNK] true 1):=by rw[hAe];exact(z5 (by omega)).trans (z3 _ _)
 have A5:hA.next=h1.next+1:=by rw[hAe];rfl
 have A6:hA.log=[]:=by rw[hAe,Heap.log_wr_new (by omega)];exact hx1.log.trans hr.log
 have A7:WF hA:=by rw[hAe];exact((hx1.wf hr.wf).push _).as (AS.wr _ _ _ _)
 have A8:∀z,z<h.next→hA.get z=h.get z:=fun z hz=>(A1 z (Nat.lt_of_lt_of_le hz hx1.next) (by omega)).trans (hx1.old z hz)
 have hN:=hx1.next
 clear hAe
 refine yC ?_
 refine FW.al (best83 F.toFnsV (.of A7) (w:=w) (ht:=ht) (W:=W) (ws:=ws') (kl:=kl) hw hh hn hk hW hws0 A3 (SliceOf.agree hks (by show h.next≤hA.next;omega) fun b vs o t hb _=>A8 b hb) (full_ints (by show h.next+1<hA.next;omega) A2 hwl' (by omega))) (fun _ _ _ q=>q) ?_
 rintro _ h2 hx2 ⟨r,rfl,gr⟩
 have B2:h2.get (h.next+1)=some (.cells (ints ws') true 1):=(hx2.old _ (by omega)).trans A2
 have B3:h2.get h1.next=some (.cells [.slice sa n c, .int .i64 kerf, .slice (some ⟨h.next+1,0,none⟩) n UNK] true 1):=(hx2.old _ (by omega)).trans A3
 have B8:∀z,z<h.next→h2.get z=h.get z:=fun z hz=>(hx2.old z (by omega)).trans (A8 z hz)
 have hN2:=hx2.next
 have B6:h2.log=[]:=hx2.log.trans A6
 have B7:WF h2:=hx2.wf A7
 refine yM ?_;refine y3 ?_;refine wE_seq ?_;refine wE_draw ?_;refine qM ?_
 refine qM ?_;refine qM ?_;refine qM ?_;refine qM ?_
 refine qM ?_;refine qM ?_;refine wD_quiet rfl rfl rfl (by exact rfl) (by exact rfl) (by exact rfl) (a_build (by exact rfl)) ?_;refine qM ?_
 refine qM ?_;refine qM ?_;refine wD_quiet rfl rfl rfl (by exact rfl) (by exact rfl) (by exact rfl) (a_build (by exact rfl)) ?_
 refine wD_quiet rfl rfl rfl (by exact rfl) (by exact rfl) (by exact rfl) (a_lookup (x:=((w:Int),(ht:Int))) (by exact rfl) (by exact rfl) gr) ?_
 refine qC ?_
 refine FW.alD (with139 F.toFnsR (.of B7) (w:=w) (ht:=ht) (kind:=kind) (W:=W) (ws:=ws') (kl:=kl) hw hh hn hkind hk hW hws0 (tabL_bd hW.1 hk.1 hws0 _ _ (fun x hx=>by have:=boards_of hx;omega) (fun e he=>by cases he)) B3 gr (SliceOf.agree hks (by show h.next≤h2.next;omega) fun b vs o t hb _=>B8 b hb) (full_ints (by show h.next+1<h2.next;omega) B2 hwl' (by omega))) (fun _ _ _ q=>q) ?_
 rintro _ h3 hx3 ⟨r2,rfl,gr2⟩
 have C4:h3.get r=some (.map (ents (tabL kerf ws' kl (boardsL w ht)))):=(hx3.old _ (WF.get_lt B7 gr)).trans gr
 have C6:h3.log=[]:=hx3.log.trans B6
 refine⟨_,by apply ra_keepC rfl (rq_quiet rfl (a_lookup (by exact rfl) (by exact rfl) (by assumption)) (by exact sv_int _ _)) rfl;apply ra_keepC rfl (rq_quiet rfl (a_build (by exact rfl)) (by exact sv_agg (by refine sl_cons (s1_int _ _) ?_;refine sl_cons (s1_int _ _) ?_;exact sl_nil))) rfl;apply ra_keepC rfl (rq_quiet rfl (a_mov (by exact rfl)) (by exact sv_int _ _)) rfl;apply ra_keepC rfl (rq_quiet rfl (a_mov (by exact rfl)) (by exact sv_int _ _)) rfl;apply ra_keepC rfl (rq_quiet rfl (a_mov (by exact rfl)) (by exact sv_map _)) rfl;apply ra_keepC rfl (rq_quiet rfl (a_build (by exact rfl)) (by exact sv_agg (by refine sl_cons (s1_int _ _) ?_;refine sl_cons (s1_int _ _) ?_;exact sl_nil))) rfl;apply ra_keepC rfl (rq_quiet rfl (a_mov (by exact rfl)) (by exact sv_int _ _)) rfl;apply ra_keepC rfl (rq_quiet rfl (a_mov (by exact rfl)) (by exact sv_int _ _)) rfl;apply ra_dropC rfl;apply ra_dropC rfl;apply ra_dropC rfl;apply ra_dropC rfl;apply ra_dropC rfl;exact ra_nil,?_⟩
 skip
 refine wD_quiet rfl rfl rfl (by exact rfl) (by exact rfl) (by exact rfl) (a_lookup (x:=((w:Int),(ht:Int))) (by exact rfl) (by exact rfl) gr2) ?_
 refine qM ?_;refine qM ?_;refine wD_nil ?_;refine y1 ?_;refine kS_n ?_;refine wE_ret ?_
 exact endP_ret C6 rfl rfl
end Go.A.Pk
end
section
namespace Go.A.Pk
def UF(kerf:Int)(ws:List Int)(kl:List Kd)(kind:Nat):Nat→Int×Int→Int
 |0,_=>never
 |n+1,p=>if 1≤p.1∧1≤p.2 then foldM (fun x=>mx (UF kerf ws kl kind n (oneB x p.1.toNat p.2.toNat)+V kerf ws kl (twoB kerf x p.1.toNat p.2.toNat)) (V kerf ws kl (oneB x p.1.toNat p.2.toNat)+UF kerf ws kl kind n (twoB kerf x p.1.toNat p.2.toNat))) (cutsL p.1.toNat p.2.toNat) (foldM (leafW ws kind) (leavesL p.1.toNat p.2.toNat kl 0) never)else never
variable {kerf:Int} {ws ws':List Int} {kl:List Kd} {kind:Nat}
theorem UF_succ(hk:0≤kerf):∀{n:Nat} {p:Int×Int},sz p≤n→UF kerf ws kl kind (n+1) p=UF kerf ws kl kind n p
 |0,p,h=>by
  unfold sz at h
  simp only[UF]
  rw[if_neg (by omega)]
 |n+1,p,h=>by
  rw[UF,UF]
  split
  ·refine foldM_congr fun x hx=> ?_
   have:=cut_lt hk hx
   unfold sz at h
   rw[UF_succ hk (by omega),UF_succ hk (by omega)]
  ·rfl
theorem UF_ge(hk:0≤kerf){n:Nat}{p:Int×Int}(h:sz p≤n):∀{m:Nat},n≤m→UF kerf ws kl kind m p=UF kerf ws kl kind n p:=by
 intro m hm
 induction m with
 |zero=>obtain rfl:n=0:=by omega
        rfl
 |succ m ih=>
  by_cases e:n=m+1
  ·rw[e]
  ·rw[UF_succ hk (by omega),ih (by omega)]
def U(kerf:Int)(ws:List Int)(kl:List Kd)(kind:Nat)(p:Int×Int):Int:=UF kerf ws kl kind (sz p) p
theorem U_out{p:Int×Int}(h:¬ (1≤p.1∧1≤p.2)):U kerf ws kl kind p=never:=by
 unfold U
 cases sz p with
 |zero=>rfl
 |succ n=>rw[UF,if_neg h]
theorem U_eq(hk:0≤kerf){a b:Nat}(ha:1≤a)(hb:1≤b):U kerf ws kl kind ((a:Int),(b:Int))=foldM (fun x=>mx (U kerf ws kl kind (oneB x a b)+V kerf ws kl (twoB kerf x a b)) (V kerf ws kl (oneB x a b)+U kerf ws kl kind (twoB kerf x a b))) (cutsL a b) (foldM (leafW ws kind) (leavesL a b kl 0) never):=by
 have hs:sz ((a:Int),(b:Int))=a+b:=by simp[sz]
 unfold U
 rw[hs]
 obtain⟨n,hn⟩:∃n,a+b=n+1:=⟨a+b-1,by omega⟩
 rw[hn,UF,if_pos ⟨by show(1:Int)≤a;omega,by show(1:Int)≤b;omega⟩]
 show foldM (fun x=>mx (UF kerf ws kl kind n (oneB x a b)+V kerf ws kl (twoB kerf x a b)) (V kerf ws kl (oneB x a b)+UF kerf ws kl kind n (twoB kerf x a b))) (cutsL a b) _=_
 refine foldM_congr fun x hx=> ?_
 have:=cut_lt hk hx
 rw[UF_ge hk (n:=sz (oneB x a b)) (Nat.le_refl _) (by omega),UF_ge hk (n:=sz (twoB kerf x a b)) (Nat.le_refl _) (by omega)]
theorem with_look(hk:0≤kerf){u:Tab}{w h:Nat}(hu:∀z:Int×Int,(1≤z.1∧1≤z.2→z.1≤w∧z.2≤h)→look u z=V kerf ws kl z):∀(i j:Nat),j≤h→i≤w→(j=0∨i<w)→∀y:Int×Int,look (withL kerf ws kl kind u (boardsL i h++row (i+1) j)) y=
 if(1≤y.1∧y.1≤i∧1≤y.2∧y.2≤h)∨(y.1=(i:Int)+1∧1≤y.2∧y.2≤j)then U kerf ws kl kind y else 0
 |0,0,_,_,_,y=>by
  rw[if_neg (by omega)]
  rfl
 |i+1,0,hj,hi,_,y=>by
  have e:boardsL (i+1) h++row (i+1+1) 0=boardsL i h++row (i+1) h:=by simp[boardsL,row]
  rw[e,with_look hk hu i h (Nat.le_refl _) (by omega) (.inr (by omega)) y]
  have:((1≤y.1∧y.1≤i∧1≤y.2∧y.2≤h)∨(y.1=(i:Int)+1∧1≤y.2∧y.2≤h))↔((1≤y.1∧y.1≤(i+1:Nat)∧1≤y.2∧y.2≤h)∨(y.1=((i+1:Nat):Int)+1∧1≤y.2∧y.2≤(0:Nat))):=by omega
  by_cases hc:(1≤y.1∧y.1≤i∧1≤y.2∧y.2≤h)∨(y.1=(i:Int)+1∧1≤y.2∧y.2≤h)
  ·rw[if_pos hc,if_pos (this.1 hc)]
  ·rw[if_neg hc,if_neg (fun q=>hc (this.2 q))]
 |i,j+1,hj,hi,hij,y=>by
  have ih:=with_look hk hu i j (by omega) hi (by omega)
  rw[row_succ,←List.append_assoc,withL_snoc,look_upd,ih y]
  have hval:valW kerf ws kl kind (withL kerf ws kl kind u (boardsL i h++row (i+1) j)) u (i+1) (j+1)=U kerf ws kl kind (((i+1:Nat):Int),((j+1:Nat):Int)):=by
   rw[U_eq hk (by omega) (by omega)]
   show foldM (cutW kerf _ u (i+1) (j+1)) _ (foldM _ _ _)=foldM _ _ _
   refine foldM_congr fun x hx=> ?_
   have key:∀z:Int×Int,(1≤z.1∧1≤z.2→((1≤z.1∧z.1≤i∧1≤z.2∧z.2≤h)∨(z.1=(i:Int)+1∧1≤z.2∧z.2≤j)))→oneW (withL kerf ws kl kind u (boardsL i h++row (i+1) j)) z=U kerf ws kl kind z:=fun z hz=>by
    unfold oneW
    by_cases hc:1≤z.1∧1≤z.2
    ·rw[if_neg (show¬Nought z by unfold Nought;omega),ih,if_pos (hz hc)]
    ·rw[if_pos (show Nought z by unfold Nought;omega),U_out hc]
   unfold cutW
   rcases cuts_of hx with⟨e3,hl,hu'⟩|⟨e4,hl,hu'⟩
   ·rw[key _ (by simp only[oneB,e3,if_true];omega),key _ (by simp only[twoB,e3,if_true];omega),hu (twoB kerf x (i+1) (j+1)) (by simp only[twoB,e3,if_true];omega),hu (oneB x (i+1) (j+1)) (by simp only[oneB,e3,if_true];omega)]
   ·have n3:¬x.1=3:=by omega
    rw[key _ (by simp only[oneB,if_neg n3];omega),key _ (by simp only[twoB,if_neg n3];omega),hu (twoB kerf x (i+1) (j+1)) (by simp only[twoB,if_neg n3];omega),hu (oneB x (i+1) (j+1)) (by simp only[oneB,if_neg n3];omega)]
  by_cases he:y=(((i+1:Nat):Int),((j+1:Nat):Int))
  ·rw[if_pos he,hval,if_pos (by rw[he];simp;omega),he]
  ·rw[if_neg he]
   have hne:¬ (y.1=((i+1:Nat):Int)∧y.2=((j+1:Nat):Int)):=fun q=>he (Prod.ext q.1 q.2)
   by_cases hc:(1≤y.1∧y.1≤i∧1≤y.2∧y.2≤h)∨(y.1=(i:Int)+1∧1≤y.2∧y.2≤j)
   ·rw[if_pos hc,if_pos (by omega)]
   ·rw[if_neg hc,if_neg (by omega)]
theorem tab_look0(hk:0≤kerf){w h:Nat}(y:Int×Int):look (tabL kerf ws kl (boardsL w h)) y=if 1≤y.1∧y.1≤w∧1≤y.2∧y.2≤h then V kerf ws kl y else 0:=by
 have:=tab_look hk (ws:=ws) (kl:=kl) (h:=h) w 0 (Nat.zero_le _) y
 rw[show boardsL w h++row (w+1) 0=boardsL w h by simp[row]]at this
 rw[this]
 by_cases hc:1≤y.1∧y.1≤w∧1≤y.2∧y.2≤h
 ·rw[if_pos hc,if_pos (.inl hc)]
 ·rw[if_neg hc,if_neg (by omega)]
theorem tab_V(hk:0≤kerf){w h:Nat}(z:Int×Int)(hz:1≤z.1∧1≤z.2→z.1≤w∧z.2≤h):look (tabL kerf ws kl (boardsL w h)) z=V kerf ws kl z:=by
 rw[tab_look0 hk]
 by_cases hc:1≤z.1∧1≤z.2
 ·rw[if_pos (by omega)]
 ·rw[if_neg (by omega),V_out hc]
theorem with_U(hk:0≤kerf){w h:Nat}(hw:1≤w)(hh:1≤h):look (withL kerf ws kl kind (tabL kerf ws kl (boardsL w h)) (boardsL w h)) ((w:Int),(h:Int))=U kerf ws kl kind ((w:Int),(h:Int)):=by
 have:=with_look hk (ws:=ws) (kl:=kl) (kind:=kind) (tab_V (ws:=ws) (kl:=kl) hk (w:=w) (h:=h)) w 0 (Nat.zero_le _) (Nat.le_refl _) (.inl rfl) ((w:Int),(h:Int))
 rw[show boardsL w h++row (w+1) 0=boardsL w h by simp[row]]at this
 rw[this,if_pos (by simp;omega)]
theorem foldM_mem{α:Type}{f:α→Int}:∀{xs:List α} {m:Int},foldM f xs m=m∨∃x∈xs,foldM f xs m=f x
 |[],m=> .inl rfl
 |y::xs,m=>by
  rcases foldM_mem (f:=f) (xs:=xs) (m:=mx m (f y))with h|⟨x,hx,h⟩
  ·have e:mx m (f y)=m∨mx m (f y)=f y:=by unfold mx;split<;>simp
   rcases e with e|e
   ·exact .inl (h.trans e)
   ·exact .inr ⟨y,List.mem_cons_self ..,h.trans e⟩
  ·exact .inr ⟨x,List.mem_cons_of_mem _ hx,h⟩
theorem board_ind(hk:0≤kerf){P:Int×Int→Prop}(out:∀p,¬ (1≤p.1∧1≤p.2)→P p)(step:∀a b:Nat,1≤a→1≤b→(∀x∈cutsL a b,P (oneB x a b)∧P (twoB kerf x a b))→P ((a:Int),(b:Int))):∀p,P p:=by
 have:∀(n:Nat) (p:Int×Int),sz p≤n→P p:=by
  intro n
  induction n with
  |zero=>
   intro p hp
   unfold sz at hp
   exact out p (by omega)
  |succ n ih=>
   intro p hp
   by_cases h:1≤p.1∧1≤p.2
   ·obtain⟨a,ha⟩:=Int.eq_ofNat_of_zero_le (show 0≤p.1 by omega)
    obtain⟨b,hb⟩:=Int.eq_ofNat_of_zero_le (show 0≤p.2 by omega)
    have e:p=((a:Int),(b:Int)):=Prod.ext ha hb
    rw[e]at hp⊢
    have hs:sz ((a:Int),(b:Int))=a+b:=by simp[sz]
    refine step a b (by omega) (by omega) fun x hx=> ?_
    have:=cut_lt hk hx
    exact⟨ih _ (by omega),ih _ (by omega)⟩
   ·exact out p h
 exact fun p=>this (sz p) p (Nat.le_refl _)
theorem V_leaf(hk:0≤kerf){a b:Nat}(ha:1≤a)(hb:1≤b){x:Nat×Nat}(hx:x∈leavesL a b kl 0):ws.getD x.2 0≤V kerf ws kl ((a:Int),(b:Int)):=by
 rw[V_eq hk ha hb]
 have h1:ws.getD x.2 0≤leafM ws (leavesL a b kl 0) 0:=(foldM_ge (f:=fun x:Nat×Nat=>ws.getD x.2 0) (xs:=leavesL a b kl 0) (m:=0)).2 x hx
 exact Int.le_trans h1 foldM_ge.1
theorem V_cut(hk:0≤kerf){a b:Nat}(ha:1≤a)(hb:1≤b){x:Nat×Nat}(hx:x∈cutsL a b):V kerf ws kl (oneB x a b)+V kerf ws kl (twoB kerf x a b)≤V kerf ws kl ((a:Int),(b:Int)):=by
 rw[V_eq hk ha hb]
 exact(foldM_ge (f:=fun x=>V kerf ws kl (oneB x a b)+V kerf ws kl (twoB kerf x a b)) (xs:=cutsL a b)).2 x hx
theorem V_of(hk:0≤kerf){a b:Nat}(ha:1≤a)(hb:1≤b):V kerf ws kl ((a:Int),(b:Int))=0∨(∃x∈leavesL a b kl 0,V kerf ws kl ((a:Int),(b:Int))=ws.getD x.2 0)∨∃x∈cutsL a b,V kerf ws kl ((a:Int),(b:Int))=V kerf ws kl (oneB x a b)+V kerf ws kl (twoB kerf x a b):=by
 rw[V_eq hk ha hb]
 rcases foldM_mem (f:=fun x=>V kerf ws kl (oneB x a b)+V kerf ws kl (twoB kerf x a b)) (xs:=cutsL a b) (m:=leafM ws (leavesL a b kl 0) 0)with h|⟨x,hx,h⟩
 ·rw[h]
  rcases foldM_mem (f:=fun x:Nat×Nat=>ws.getD x.2 0) (xs:=leavesL a b kl 0) (m:=0)with h|⟨x,hx,h⟩
  ·exact .inl h
  ·exact .inr (.inl ⟨x,hx,h⟩)
 ·exact .inr (.inr ⟨x,hx,h⟩)
theorem U_of(hk:0≤kerf){a b:Nat}(ha:1≤a)(hb:1≤b):U kerf ws kl kind ((a:Int),(b:Int))=never∨(∃x∈leavesL a b kl 0,x.2=kind∧U kerf ws kl kind ((a:Int),(b:Int))=ws.getD kind 0)∨∃x∈cutsL a b,U kerf ws kl kind ((a:Int),(b:Int))=U kerf ws kl kind (oneB x a b)+V kerf ws kl (twoB kerf x a b)∨U kerf ws kl kind ((a:Int),(b:Int))=V kerf ws kl (oneB x a b)+U kerf ws kl kind (twoB kerf x a b):=by
 rw[U_eq hk ha hb]
 rcases foldM_mem (f:=fun x=>mx (U kerf ws kl kind (oneB x a b)+V kerf ws kl (twoB kerf x a b)) (V kerf ws kl (oneB x a b)+U kerf ws kl kind (twoB kerf x a b))) (xs:=cutsL a b) (m:=foldM (leafW ws kind) (leavesL a b kl 0) never)with h|⟨x,hx,h⟩
 ·rw[h]
  rcases foldM_mem (f:=leafW ws kind) (xs:=leavesL a b kl 0) (m:=never)with h|⟨x,hx,h⟩
  ·exact .inl h
  ·rw[h]
   unfold leafW
   split
   ·rename_i he
    exact .inr (.inl ⟨x,hx,he,rfl⟩)
   ·exact .inl rfl
 ·refine .inr (.inr ⟨x,hx,?_⟩)
  rw[h]
  unfold mx
  split
  ·exact .inr rfl
  ·exact .inl rfl
theorem getD_nonneg(h0:∀x∈ws,0≤x)(i:Nat):0≤ws.getD i 0:=by
 rcases Nat.lt_or_ge i ws.length with hlt|hge
 ·have e:ws.getD i 0=ws[i]:=by simp[List.getD,List.getElem?_eq_getElem hlt]
  rw[e];exact h0 _ (List.getElem_mem hlt)
 ·have e:ws.getD i 0=0:=by simp[List.getD,List.getElem?_eq_none hge]
  rw[e];exact Int.le_refl _
theorem U_le_V(hk:0≤kerf)(p:Int×Int):U kerf ws kl kind p≤V kerf ws kl p:=by
 refine board_ind hk (P:=fun p=>U kerf ws kl kind p≤V kerf ws kl p) (fun p h=> ?_) (fun a b ha hb ih=> ?_) p
 ·show U kerf ws kl kind p≤V kerf ws kl p
  rw[U_out h,V_out h];decide
 ·show U kerf ws kl kind _≤V kerf ws kl _
  rcases U_of hk (ws:=ws) (kl:=kl) (kind:=kind) ha hb with h|⟨x,hx,he,h⟩|⟨x,hx,h|h⟩
  ·have:=V_nonneg hk (ws:=ws) (kl:=kl) ((a:Int),(b:Int))
   rw[h];unfold never;omega
  ·rw[h,←he];exact V_leaf hk ha hb hx
  ·have h1:=V_cut hk (ws:=ws) (kl:=kl) ha hb hx
   have h2:=ih x hx
   try simp only at h2
   omega
  ·have h1:=V_cut hk (ws:=ws) (kl:=kl) ha hb hx
   have h2:=ih x hx
   try simp only at h2
   omega
structure More (kind:Nat) (d:Int) (ws ws':List Int):Prop where
 pos:0≤d
 here:ws'.getD kind 0=ws.getD kind 0+d
 other:∀i,i≠kind→ws'.getD i 0=ws.getD i 0
theorem More.set{d:Int}(h0:0≤d)(hk:kind<ws.length):More kind d ws (ws.set kind (ws.getD kind 0+d))where
 pos:=h0
 here:=by simp[List.getD,hk]
 other:=fun i hi=>by simp[List.getD,List.getElem?_set_ne (Ne.symm hi)]
end Go.A.Pk
end
section
namespace Go.A.Pk
def bsr(P:Int→Bool)(lo hi:Int):Int:=
 if lo<hi then
  if P ((lo+hi) / 2)then bsr P lo ((lo+hi) / 2)else bsr P ((lo+hi) / 2+1) hi
 else lo
termination_by (hi-lo).toNat
decreasing_by all_goals omega
def wsOf(l:List Kd):List Int:=l.map (·.worth)
def wsM(l:List Kd)(kind:Nat)(more:Int):List Int:=(wsOf l).set kind ((wsOf l).getD kind 0+more)
def kw(kerf:Int)(l:List Kd)(kind:Nat)(p:Int×Int)(more:Int):Int:=U kerf (wsM l kind more) l kind p
def kb(kerf:Int)(l:List Kd)(kind:Nat)(p:Int×Int)(more:Int):Int:=V kerf (wsM l kind more) l p
def dearV(kerf:Int)(l:List Kd)(kind:Nat)(p:Int×Int):Int:=bsr (fun d=>kw kerf l kind p d==kb kerf l kind p d) 0 (kb kerf l kind p 0-kw kerf l kind p 0)
theorem set_self{α:Type}:∀(l:List α) (i:Nat) (d:α),i<l.length→l.set i (l.getD i d)=l
 |[],_,_,h=>by simp at h
 |x::l,0,d,_=>rfl
 |x::l,i+1,d,h=>by
  show x::l.set i (l.getD i d)=x::l
  rw[set_self l i d (by simpa using h)]
theorem wsM_zero{l:List Kd}{kind:Nat}(h:kind<l.length):wsM l kind 0=wsOf l:=by
 unfold wsM
 rw[Int.add_zero]
 exact set_self _ _ _ (by simpa[wsOf]using h)
end Go.A.Pk
end
section
set_option maxRecDepth 100000
namespace Go.A.Pk
variable {T:Nat→Option AFunc}
structure FnsU (T:Nat→Option AFunc):Prop extends FnsW T,FnsT T where
 f40:T 40=some f40
 f42:T 42=some f42
 f44:T 44=some f44
theorem startE_two(kerf:Int)(l:List Kd)(p q:Prop)[Decidable p][Decidable q]:startE kerf l [decide p,decide q]=asked kerf l (p∧q):=by
 unfold startE asked
 by_cases hp:p<;>by_cases hq:q<;>simp[hp,hq]
theorem wsOf_bd{kerf:Int}{l:List Kd}(hc:chk kerf l=0):∀x∈wsOf l,0≤x∧x≤1000000:=fun x hx=>by
 obtain⟨k,hk,rfl⟩:=List.mem_map.1 hx
 obtain⟨q1,q2,q3,q4⟩:=chk_iff.1 hc
 exact(q3 k hk).2.2.2
theorem wsM_bd{kerf:Int}{l:List Kd}(hc:chk kerf l=0){kind:Nat}(hk:kind<l.length){more:Int}(hm:0≤more∧more≤900000000):∀x∈wsM l kind more,0≤x∧x≤1000000000:=fun x hx=>by
 have h0:=wsOf_bd hc
 unfold wsM at hx
 rcases List.mem_or_eq_of_mem_set hx with h|h
 ·have:=h0 x h;omega
 ·have hl:kind<(wsOf l).length:=by simpa[wsOf]using hk
  have:=h0 ((wsOf l).getD kind 0) (by simp[List.getD,List.getElem?_eq_getElem hl])
  omega
theorem kindlyK(F:FnsU T){h:Heap}(hr:Rdy h){bb n c wc kind:Nat}{sa wa:Option Addr}{kerf w ht more:Int}{l:List Kd}(hc:chk kerf l=0)(hb:OnB w ht)(hkind:kind<n)(hm:0≤more∧more≤900000000)
 (gb:h.get bb=some (.cells [.slice sa n c, .int .i64 kerf, .slice wa n wc] true 1))(hks:SliceOf h 5 (.slice sa n c) n (kcs l))(hws:SliceOf h 1 (.slice wa n wc) n (ints (l.map (·.worth)))):
 Pu T 98 [.pointer (some ⟨bb,0,none⟩), .int .i64 w, .int .i64 ht, .int .i64 kind, .int .i64 more] h (.tuple #[.int .i64 (kw kerf l kind (w,ht) more), .int .i64 (kb kerf l kind (w,ht) more)]):=by
 obtain rfl:n=l.length:=by have:=hks.len;rw[kcs_length]at this;omega
 obtain⟨q1,q2,q3,q4⟩:=chk_iff.1 hc
 obtain⟨⟨e1,e2⟩,e3,e4⟩:=hb
 obtain⟨w,rfl⟩:=Int.eq_ofNat_of_zero_le (show 0≤w by omega)
 obtain⟨ht,rfl⟩:=Int.eq_ofNat_of_zero_le (show 0≤ht by omega)
 have:=kindly98 F.toFnsT hr (w:=w) (ht:=ht) (kind:=kind) (W:=1000000000) (more:=more) (by omega) (by omega) (by omega) hkind ⟨by omega,by omega⟩ (by omega) (wsM_bd hc hkind hm) gb hks hws
 change Pu T 98 _ h (.tuple #[.int .i64 (look (withL kerf (wsM l kind more) l kind (tabL kerf (wsM l kind more) l (boardsL w ht)) (boardsL w ht)) (w,ht)), .int .i64 (look (tabL kerf (wsM l kind more) l (boardsL w ht)) (w,ht))])at this
 rw[with_U (by omega) (by omega) (by omega),tab_V (by omega) _ (fun _=>⟨Int.le_refl _,Int.le_refl _⟩)]at this
 exact this
def askK(kerf:Int)(l:List Kd)(w ht kind:Int):Int:=asked kerf l (OnB w ht∧(0≤kind∧kind<(l.length:Int)))
theorem askK_zero{kerf:Int}{l:List Kd}{w ht kind:Int}(h:askK kerf l w ht kind=0):chk kerf l=0∧OnB w ht∧∃k:Nat,kind=k∧k<l.length:=by
 obtain⟨h1,h2,h3,h4⟩:=asked_zero h
 obtain⟨k,rfl⟩:=Int.eq_ofNat_of_zero_le h3
 exact⟨h1,h2,k,rfl,by omega⟩
def withIs(kerf:Int)(l:List Kd)(w ht kind:Int):Bool:=decide (askK kerf l w ht kind=0)&&decide (0≤kw kerf l kind.toNat (w,ht) 0)
def withN(kerf:Int)(l:List Kd)(w ht kind:Int):Int:=if withIs kerf l w ht kind=true then kw kerf l kind.toNat (w,ht) 0 else 0
def withR(kerf:Int)(l:List Kd)(w ht kind:Int):Value:= .tuple #[.int .i64 (withN kerf l w ht kind), .bool (withIs kerf l w ht kind), .int .i64 (askK kerf l w ht kind)]
set_option maxHeartbeats 4000000 in
theorem with40(F:FnsU T){h:Heap}(hr:Rdy h){a:Option Addr}{n c:Nat}{l:List Kd}(hs:SliceOf h 5 (.slice a n c) n (kcs l))(kerf:Int)(hn:n<1000000)(w ht kind:Int):Pu T 40 [.agg #[.slice a n c, .int .i64 kerf], .int .i64 w, .int .i64 ht, .int .i64 kind] h (withR kerf l w ht kind):=by
 have hp:=F.toFnsT.toFnsV.p
 refine .of hp F.f40 hr rfl ?_
 have hx:Ext h (h.push (.cells [.slice a n c, .int .i64 kerf] true 1)):=(Ext.refl h).push _
 obtain rfl:n=l.length:=by have:=hs.len;rw[kcs_length]at this;omega
 refine y4 ?_;refine yB ?_;refine yM ?_;refine yM ?_;refine yM ?_;refine y3 ?_;refine wE_seq ?_;refine wE_draw ?_
 refine qN ?_
 refine qM ?_;refine qM ?_
 refine qN ?_
 refine qM ?_
 refine qC ?_
 refine FW.puD (board76 F.toFnsW (.of (hx.wf hr.wf)) w ht) (by apply ra_keepC rfl (rq_quiet rfl (a_mov (by exact rfl)) (by exact sv_int _ _)) rfl;apply ra_keepC rfl (rq_quiet rfl (a_loadN (by exact rfl) (by(simp(disch:=first|omega|(simp only[z1,z2];omega))only[z3,z4,z5,z6,z7,z1,z2, *];exact rfl)) (by exact rfl) (by exact rfl)) (by exact sv_agg (by refine sl_cons (s1_slice _ _ _) ?_;refine sl_cons (s1_int _ _) ?_;exact sl_nil))) rfl;apply ra_dropC rfl;apply ra_dropC rfl;apply ra_keepC rfl (rq_quiet rfl (a_loadN (by exact rfl) (by(simp(disch:=first|omega|(simp only[z1,z2];omega))only[z3,z4,z5,z6,z7,z1,z2, *];exact rfl)) (by exact rfl) (by exact rfl)) (by exact sv_agg (by refine sl_cons (s1_slice _ _ _) ?_;refine sl_cons (s1_int _ _) ?_;exact sl_nil))) rfl;exact ra_nil) ?_
 skip
 refine qC ?_
 refine FW.puD (isKind97 F.toFnsW.toFnsE.toFnsC (.of (hx.wf hr.wf)) kerf kind hn) (by apply ra_dropC rfl;apply ra_dropC rfl;apply ra_keepC rfl (rq_quiet rfl (a_loadN (by exact rfl) (by(simp(disch:=first|omega|(simp only[z1,z2];omega))only[z3,z4,z5,z6,z7,z1,z2, *];exact rfl)) (by exact rfl) (by exact rfl)) (by exact sv_agg (by refine sl_cons (s1_slice _ _ _) ?_;refine sl_cons (s1_int _ _) ?_;exact sl_nil))) rfl;exact ra_nil) ?_
 refine wD_new rfl rfl rfl (by exact rfl) (by exact rfl) (by exact rfl) (a_bslice (by exact rfl) (by exact rfl)) (by refine rs_cons (rq_quiet rfl (a_loadN (by exact rfl) (by(simp(disch:=first|omega|(simp only[z1,z2];omega))only[z3,z4,z5,z6,z7,z1,z2, *];exact rfl)) (by exact rfl) (by exact rfl)) (by exact sv_agg (by refine sl_cons (s1_slice _ _ _) ?_;refine sl_cons (s1_int _ _) ?_;exact sl_nil))) ?_;exact rs_nil) ?_
 refine qC ?_
 have hx2:=hx.push (.cells [.bool (decide (OnB w ht)), .bool (decide (0≤kind∧kind<(l.length:Int)))] true 1)
 refine FW.alD (startedB75 F.toFnsW.toFnsE (.of (hx2.wf hr.wf)) ((hs.ext hx2).log []) kerf hn (bl:=[decide (OnB w ht),decide (0≤kind∧kind<(l.length:Int))]) (m:=2) (.mem ⟨Nat.lt_succ_self _,⟨_,_,_,z3 _ _,rfl⟩,rfl⟩ (Nat.le_refl _)) (by omega)) (fun v h' m q=>StartQ.logs v h' m q) ?_
 rintro _ h1 hx3 ⟨p,rfl,hst⟩
 have e0:startE kerf l [decide (OnB w ht),decide (0≤kind∧kind<(l.length:Int))]=askK kerf l w ht kind:=startE_two ..
 rw[e0]at hst
 rw[e0]
 refine⟨_,by apply ra_dropC rfl;apply ra_dropC rfl;exact ra_nil,?_⟩
 have w1:WF h1:=hx3.wf (hx2.wf hr.wf)
 have hx13:Ext h h1:=hx2.trans hx3
 have hl1:h1.log=[]:=hx13.log.trans hr.log
 by_cases ha:askK kerf l w ht kind=0
 ·obtain⟨bb,wa,wc,rfl,gb,hws⟩:=hst ha
  obtain⟨hc,hb,k,rfl,hk⟩:=askK_zero ha
  have hks:=hs.ext hx13
  clear hst e0 hx3
  unfold withR withN withIs
  rw[ha,decide_eq_true rfl,Bool.true_and]
  simp only[Int.toNat_natCast,decide_eq_true_eq]
  refine qM ?_;refine qE ?_;refine qE ?_
  refine qM ?_;refine qM ?_;refine wD_nil ?_;refine y1 ?_;refine kS_n ?_;refine wE_seq ?_;refine y4 ?_
  refine yM ?_;refine yf ?_;refine y3 ?_;refine yX ?_;refine wE_skip ?_;refine kS_n ?_;refine y4 ?_
  refine yM ?_;refine yM ?_;refine yM ?_;refine yM ?_
  refine yC ?_
  refine FW.pu (kindlyK F (.of w1) hc hb hk (by omega) gb (hks.log []) (hws.log [])) ?_
  by_cases hn0:kw kerf l k (w,ht) 0<0
  ·rw[if_neg (by omega),decide_eq_false (by omega)]
   refine yM ?_;refine yE ?_;refine yE ?_;refine yM ?_;refine yM ?_;refine y3 ?_;refine wE_seq ?_
   refine y4 ?_;refine yM ?_;refine yt ?_;refine y3 ?_;refine yY ?_;refine y4 ?_
   refine yM ?_;refine yM ?_;refine yM ?_;refine y3 ?_;refine wE_ret ?_;refine kS_r ?_
   exact endP_ret hl1 rfl rfl
  ·rw[if_pos (by omega),decide_eq_true (by omega)]
   refine yM ?_;refine yE ?_;refine yE ?_;refine yM ?_;refine yM ?_;refine y3 ?_;refine wE_seq ?_
   refine y4 ?_;refine yM ?_;refine yf ?_;refine y3 ?_;refine yX ?_;refine wE_skip ?_;refine kS_n ?_;refine y4 ?_;refine yM ?_;refine yM ?_;refine yM ?_;refine yM ?_;refine y3 ?_;refine wE_ret ?_
   exact endP_ret hl1 rfl rfl
 ·unfold withR withN withIs
  rw[decide_eq_false ha,Bool.false_and]
  simp only[Bool.false_eq_true,if_false]
  refine qM ?_;refine qE ?_;refine qE ?_
  refine qM ?_;refine qM ?_;refine wD_nil ?_;refine y1 ?_;refine kS_n ?_;refine wE_seq ?_;refine y4 ?_
  refine yM ?_;refine yt ?_;refine y3 ?_;refine yY ?_;refine y4 ?_;refine yM ?_
  refine yM ?_;refine yM ?_;refine yM ?_;refine y3 ?_;refine wE_ret ?_;refine kS_r ?_
  exact endP_ret hl1 rfl rfl
end Go.A.Pk
end
section
set_option maxRecDepth 100000
namespace Go.A.Pk
variable {T:Nat→Option AFunc}
theorem kb_zero{kerf:Int}{l:List Kd}(hc:chk kerf l=0){k:Nat}(hk:k<l.length){w ht:Int}(hb:OnB w ht):kb kerf l k (w,ht) 0=bestV kerf l w ht:=by
 obtain⟨q1,q2,q3,q4⟩:=chk_iff.1 hc
 obtain⟨⟨e1,e2⟩,e3,e4⟩:=hb
 unfold kb
 rw[wsM_zero hk,bestV_eq q2.1 e1 e3];rfl
theorem kb_bd{kerf:Int}{l:List Kd}(hc:chk kerf l=0){k:Nat}(hk:k<l.length){w ht:Int}(hb:OnB w ht):0≤kb kerf l k (w,ht) 0∧kb kerf l k (w,ht) 0≤256000000:=by
 rw[kb_zero hc hk hb];exact bestV_bd hc hb
def dearN(kerf:Int)(l:List Kd)(w ht kind:Int):Int:=if withIs kerf l w ht kind=true then dearV kerf l kind.toNat (w,ht)else 0
def dearR(kerf:Int)(l:List Kd)(w ht kind:Int):Value:= .tuple #[.int .i64 (dearN kerf l w ht kind), .bool (withIs kerf l w ht kind), .int .i64 (askK kerf l w ht kind)]
set_option maxHeartbeats 8000000 in
theorem dearer42(F:FnsU T){h:Heap}(hr:Rdy h){a:Option Addr}{n c:Nat}{l:List Kd}(hs:SliceOf h 5 (.slice a n c) n (kcs l))(kerf:Int)(hn:n<1000000)(w ht kind:Int):Pu T 42 [.agg #[.slice a n c, .int .i64 kerf], .int .i64 w, .int .i64 ht, .int .i64 kind] h (dearR kerf l w ht kind):=by
 have hp:=F.toFnsT.toFnsV.p
 refine .of hp F.f42 hr rfl ?_
 have hx:Ext h (h.push (.cells [.slice a n c, .int .i64 kerf] true 1)):=(Ext.refl h).push _
 obtain rfl:n=l.length:=by have:=hs.len;rw[kcs_length]at this;omega
 refine y4 ?_;refine yB ?_;refine yM ?_;refine yM ?_;refine yM ?_;refine y3 ?_;refine wE_seq ?_;refine wE_draw ?_
 refine qN ?_
 refine qM ?_;refine qM ?_
 refine qN ?_
 refine qM ?_
 refine qC ?_
 refine FW.puD (board76 F.toFnsW (.of (hx.wf hr.wf)) w ht) (by apply ra_keepC rfl (rq_quiet rfl (a_mov (by exact rfl)) (by exact sv_int _ _)) rfl;apply ra_keepC rfl (rq_quiet rfl (a_loadN (by exact rfl) (by(simp(disch:=first|omega|(simp only[z1,z2];omega))only[z3,z4,z5,z6,z7,z1,z2, *];exact rfl)) (by exact rfl) (by exact rfl)) (by exact sv_agg (by refine sl_cons (s1_slice _ _ _) ?_;refine sl_cons (s1_int _ _) ?_;exact sl_nil))) rfl;apply ra_dropC rfl;apply ra_dropC rfl;apply ra_keepC rfl (rq_quiet rfl (a_loadN (by exact rfl) (by(simp(disch:=first|omega|(simp only[z1,z2];omega))only[z3,z4,z5,z6,z7,z1,z2, *];exact rfl)) (by exact rfl) (by exact rfl)) (by exact sv_agg (by refine sl_cons (s1_slice _ _ _) ?_;refine sl_cons (s1_int _ _) ?_;exact sl_nil))) rfl;exact ra_nil) ?_
 skip
 refine qC ?_
 refine FW.puD (isKind97 F.toFnsW.toFnsE.toFnsC (.of (hx.wf hr.wf)) kerf kind hn) (by apply ra_dropC rfl;apply ra_dropC rfl;apply ra_keepC rfl (rq_quiet rfl (a_loadN (by exact rfl) (by(simp(disch:=first|omega|(simp only[z1,z2];omega))only[z3,z4,z5,z6,z7,z1,z2, *];exact rfl)) (by exact rfl) (by exact rfl)) (by exact sv_agg (by refine sl_cons (s1_slice _ _ _) ?_;refine sl_cons (s1_int _ _) ?_;exact sl_nil))) rfl;exact ra_nil) ?_
 refine wD_new rfl rfl rfl (by exact rfl) (by exact rfl) (by exact rfl) (a_bslice (by exact rfl) (by exact rfl)) (by refine rs_cons (rq_quiet rfl (a_loadN (by exact rfl) (by(simp(disch:=first|omega|(simp only[z1,z2];omega))only[z3,z4,z5,z6,z7,z1,z2, *];exact rfl)) (by exact rfl) (by exact rfl)) (by exact sv_agg (by refine sl_cons (s1_slice _ _ _) ?_;refine sl_cons (s1_int _ _) ?_;exact sl_nil))) ?_;exact rs_nil) ?_
 refine qC ?_
 have hx2:=hx.push (.cells [.bool (decide (OnB w ht)), .bool (decide (0≤kind∧kind<(l.length:Int)))] true 1)
 refine FW.alD (startedB75 F.toFnsW.toFnsE (.of (hx2.wf hr.wf)) ((hs.ext hx2).log []) kerf hn (bl:=[decide (OnB w ht),decide (0≤kind∧kind<(l.length:Int))]) (m:=2) (.mem ⟨Nat.lt_succ_self _,⟨_,_,_,z3 _ _,rfl⟩,rfl⟩ (Nat.le_refl _)) (by omega)) (fun v h' m q=>StartQ.logs v h' m q) ?_
 rintro _ h1 hx3 ⟨p,rfl,hst⟩
 have e0:startE kerf l [decide (OnB w ht),decide (0≤kind∧kind<(l.length:Int))]=askK kerf l w ht kind:=startE_two ..
 rw[e0]at hst
 rw[e0]
 refine⟨_,by apply ra_dropC rfl;apply ra_dropC rfl;exact ra_nil,?_⟩
 have w1:WF h1:=hx3.wf (hx2.wf hr.wf)
 have hx13:Ext h h1:=hx2.trans hx3
 have hl1:h1.log=[]:=hx13.log.trans hr.log
 by_cases ha:askK kerf l w ht kind=0
 ·obtain⟨bb,wa,wc,rfl,gb,hws⟩:=hst ha
  obtain⟨hc,hb,k,rfl,hk⟩:=askK_zero ha
  have hks:=hs.ext hx13
  have hkb:=kb_bd hc hk hb
  clear hst e0 hx3
  unfold dearR dearN withIs
  rw[ha,decide_eq_true rfl,Bool.true_and]
  simp only[Int.toNat_natCast,decide_eq_true_eq]
  refine qM ?_;refine qE ?_;refine qE ?_
  refine qM ?_;refine qM ?_;refine wD_nil ?_;refine y1 ?_;refine kS_n ?_;refine wE_seq ?_;refine y4 ?_
  refine yM ?_;refine yf ?_;refine y3 ?_;refine yX ?_;refine wE_skip ?_;refine kS_n ?_;refine y4 ?_
  refine yM ?_;refine yM ?_;refine yM ?_;refine yM ?_
  refine yC ?_
  refine FW.pu (kindlyK F (.of w1) hc hb hk (by omega) gb (hks.log []) (hws.log [])) ?_
  by_cases hn0:kw kerf l k (w,ht) 0<0
  ·rw[if_neg (by omega),decide_eq_false (by omega)]
   refine yM ?_;refine yE ?_;refine yE ?_;refine yM ?_;refine yM ?_;refine y3 ?_;refine wE_seq ?_
   refine y4 ?_;refine yM ?_;refine yt ?_;refine y3 ?_;refine yY ?_;refine y4 ?_
   refine yM ?_;refine yM ?_;refine yM ?_;refine y3 ?_;refine wE_ret ?_;refine kS_r ?_
   exact endP_ret hl1 rfl rfl
  ·rw[if_pos (by omega),decide_eq_true (by omega)]
   have hle:kw kerf l k (w,ht) 0≤kb kerf l k (w,ht) 0:=U_le_V (chk_iff.1 hc).2.1.1 _
   refine yM ?_;refine yE ?_;refine yE ?_;refine yM ?_;refine yM ?_;refine y3 ?_;refine wE_seq ?_
   refine y4 ?_;refine yM ?_;refine yf ?_;refine y3 ?_;refine yX ?_;refine wE_skip ?_;refine kS_n ?_;refine y4 ?_;refine yM ?_;refine yM ?_;refine ysub ?_;refine yM ?_;refine yM ?_;refine y3 ?_;refine wE_seq ?_;refine wE_block ?_
   refine wE_loop (fun m e ds h'=>∃lo hi:Int,0≤lo∧lo≤hi∧hi≤256000000∧m=(hi-lo).toNat∧e=[(1, .int .i64 w),(2, .int .i64 ht),(3, .int .i64 k),(11, .pointer (some ⟨bb,0,none⟩)),(15, .int .i64 lo),(16, .int .i64 hi)]∧ds=[]∧h'=h1∧bsr (fun d=>kw kerf l k (w,ht) d==kb kerf l k (w,ht) d) lo hi=dearV kerf l k (w,ht))
    ⟨0,_,Int.le_refl _,by omega,by omega,rfl,rfl,rfl,rfl,rfl⟩ ?_
   rintro m e ds h' ⟨lo,hi,b1,b2,b3,rfl,rfl,rfl,rfl,hbs⟩
   rw[bsr]at hbs
   by_cases hlt:lo<hi
   ·rw[if_pos hlt]at hbs
    refine wE_seq ?_;refine y4 ?_;refine yM ?_;refine yM ?_;refine yt ?_;refine y3 ?_;refine yY ?_
    refine wE_skip ?_;refine kS_n ?_;refine wE_block ?_;refine y4 ?_;refine yM ?_;refine yM ?_;refine yadd ?_
    refine wO_val (a_num (by exact rfl) (by exact rfl) (m_quo2 (by omega) (by omega))) ?_
    refine yM ?_;refine y3 ?_;refine y4 ?_;refine yM ?_;refine yM ?_;refine yM ?_;refine yM ?_
    refine yM ?_
    refine yC ?_
    refine FW.pu (kindlyK F (.of w1) hc hb hk (by omega) gb (hks.log []) (hws.log [])) ?_
    cases hP:kw kerf l k (w,ht) ((lo+hi) / 2)==kb kerf l k (w,ht) ((lo+hi) / 2)with
    |true=>
     rw[hP,if_pos rfl]at hbs
     have hP':=eq_of_beq hP
     refine yM ?_;refine yE ?_;refine yE ?_;refine yM ?_;refine yM ?_;refine y3 ?_;refine y4 ?_;refine yM ?_;refine yM ?_;refine yt ?_;refine y3 ?_;refine yY ?_;refine wE_region ?_
     refine yM ?_;refine yM ?_;refine wO_nil ?_;refine y1 ?_;refine kB_n ?_;refine kS_n ?_
     exact⟨_,by omega,lo,_,b1,by omega,by omega,rfl,rfl,rfl,rfl,hbs⟩
    |false=>
     rw[hP,if_neg Bool.false_ne_true]at hbs
     have hP':=beq_eq_false_iff_ne.1 hP
     refine yM ?_;refine yE ?_;refine yE ?_;refine yM ?_;refine yM ?_;refine y3 ?_;refine y4 ?_;refine yM ?_;refine yM ?_;refine yf ?_;refine y3 ?_;refine yX ?_;refine wE_region ?_
     refine yM ?_;refine yadd ?_;refine yM ?_;refine wO_nil ?_;refine y1 ?_;refine kB_n ?_;refine kS_n ?_
     exact⟨_,by omega,_,hi,by omega,by omega,by omega,rfl,rfl,rfl,rfl,hbs⟩
   ·rw[if_neg hlt]at hbs
    refine wE_seq ?_;refine y4 ?_;refine yM ?_;refine yM ?_;refine yf ?_;refine y3 ?_;refine yX ?_
    refine wE_exit ?_;refine kS_e ?_;refine kS_e ?_;refine kB_e ?_;refine kS_n ?_;refine y4 ?_;refine yM ?_;refine yM ?_;refine yM ?_;refine yM ?_;refine y3 ?_;refine wE_ret ?_
    rw[←hbs]
    exact endP_ret hl1 rfl rfl
 ·unfold dearR dearN withIs
  rw[decide_eq_false ha,Bool.false_and]
  simp only[Bool.false_eq_true,if_false]
  refine qM ?_;refine qE ?_;refine qE ?_
  refine qM ?_;refine qM ?_;refine wD_nil ?_;refine y1 ?_;refine kS_n ?_;refine wE_seq ?_;refine y4 ?_
  refine yM ?_;refine yt ?_;refine y3 ?_;refine yY ?_;refine y4 ?_;refine yM ?_
  refine yM ?_;refine yM ?_;refine yM ?_;refine y3 ?_;refine wE_ret ?_;refine kS_r ?_
  exact endP_ret hl1 rfl rfl
end Go.A.Pk
end
