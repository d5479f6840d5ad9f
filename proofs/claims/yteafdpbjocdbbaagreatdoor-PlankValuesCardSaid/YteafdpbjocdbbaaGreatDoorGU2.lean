/- Walks of functions, plain laws, the table. -/
import Derived.Test.YteafdpbjocdbbaaGreatDoorGU1
import Derived.Test.YteafdpbjocdbbaaGreatDoorGF
import Derived.Test.YteafdpbjocdbbaaGreatDoorGU0
import Derived.Test.YteafdpbjocdbbaaGreatDoorGD
set_option linter.all false
section
set_option maxRecDepth 100000
namespace Go.A.Pk
variable {T:Nat→Option AFunc}
def wsP(l:List Kd):List Int:=l.map (·.worth)
def tabP(kerf:Int)(l:List Kd)(w ht:Int):Tab:=tabL kerf (wsP l) l (boardsL w.toNat ht.toNat)
def PlanO(kerf:Int)(l:List Kd)(w ht:Int)(v:Value)(h:Heap):Prop:=∃ns a c,v= .tuple #[.slice a ns.length c, .int .i64 (asked kerf l (OnB w ht))]∧SliceOf h 2 (.slice a ns.length c) ns.length (ncs ns)∧(U2 h (.slice a ns.length c)∧(c=UNK∨c<1000000))∧
 (asked kerf l (OnB w ht)=0→PlanR kerf (wsP l) l (tabP kerf l w ht) (w,ht) ns)∧(asked kerf l (OnB w ht)≠0→ns=[])
theorem PlanO.log{kerf:Int}{l:List Kd}{w ht:Int}(v:Value)(h':Heap)(m:List Nat)(q:PlanO kerf l w ht v h'):PlanO kerf l w ht v {h' with log:=m}:=by
 obtain⟨ns,a,c,h1,h2,h3,h4⟩:=q
 exact⟨ns,a,c,h1,h2.log m,h3,h4⟩
theorem PlanO.gc{kerf:Int}{l:List Kd}{w ht:Int}{h:Heap}(v:Value)(h1:Heap)(hv:noRef v=true)(q:PlanO kerf l w ht v h1):PlanO kerf l w ht v h:=by
 obtain⟨ns,a,c,rfl,s,u,r⟩:=q
 have hu:U2 h (.slice a ns.length c):=fun b o n e=>by cases e;simp[noRef,flatL,flat,scalL,scal,scal1]at hv
 refine⟨ns,a,c,rfl,?_,⟨hu,u.2⟩,r⟩
 clear r u hu
 generalize ns.length=n at*
 generalize ncs ns=cs at*
 cases s with
 |nil=>exact .nil
 |mem s _=>simp[noRef,flatL,flat,scalL,scal,scal1]at hv
end Go.A.Pk
end
section
set_option maxRecDepth 100000
namespace Go.A.Pk
variable {T:Nat→Option AFunc}
def ncI:List (Nat×Int)→List Value
 |[]=>[]
 |x::l=>[.int .u8 x.1, .int .i64 x.2]++ncI l
structure Sm where
 ok:Bool
 worth:Int
 cells:Int
 depth:Int
 used:List Int
def z12:List Int:=[0,0,0,0,0,0,0,0,0,0,0,0]
def sm0:Sm:=⟨false,0,0,0,z12⟩
def isP(k:Kd)(kind:Nat)(p:Int×Int):Prop:=(kind=1∧k.w=p.1∧k.h=p.2)∨(kind=2∧k.turn=true∧k.h=p.1∧k.w=p.2)
instance(k:Kd)(kind:Nat)(p:Int×Int):Decidable (isP k kind p):=by unfold isP;infer_instance
structure TB (s:Sm) (m:Nat):Prop where
 worth:0≤s.worth∧s.worth≤1000000*m
 cells:0≤s.cells∧s.cells≤256*m
 depth:0≤s.depth∧s.depth≤m
 len:s.used.length=12
 used:∀u∈s.used,0≤u∧u≤m
theorem TB.zero(b:Bool)(m:Nat):TB {sm0 with ok:=b} m:=⟨by show(0:Int)≤0∧(0:Int)≤_;omega,by show(0:Int)≤0∧(0:Int)≤_;omega,by show(0:Int)≤0∧(0:Int)≤_;omega,rfl,fun u hu=>by
 have:u=0:=by simpa[sm0,z12]using hu
 omega⟩
section
variable {base:Nat} {h:Heap} {e:Env}
end
end Go.A.Pk
end
section
set_option maxRecDepth 100000
namespace Go.A.Pk
variable {T:Nat→Option AFunc}
inductive ListsAt (h:Heap):Value→List (List Int)→Prop
 |nil:ListsAt h (.slice none 0 0) []
 |mem {b o c vs own t rows}:h.get b=some (.cells vs own t)→b<h.next→(∀i r,rows[i]? =some r→∃x,lget vs (o+i)=some x∧SliceOf h 1 x r.length (ints r))→ListsAt h (.slice (some ⟨b,o,none⟩) rows.length c) rows
theorem ListsAt.log{h:Heap}{v:Value}{rows:List (List Int)}(s:ListsAt h v rows)(m:List Nat):ListsAt {h with log:=m} v rows:=by
 cases s with
 |nil=>exact .nil
 |mem g1 g2 g3=>exact .mem g1 g2 fun i r e=>by obtain⟨x,h1,h2⟩:=g3 i r e;exact⟨x,h1,h2.log m⟩
theorem ListsAt.ext{h h':Heap}{v:Value}{rows:List (List Int)}(s:ListsAt h v rows)(x:Ext h h'):ListsAt h' v rows:=by
 cases s with
 |nil=>exact .nil
 |mem g1 g2 g3=>exact .mem ((x.old _ g2).trans g1) (Nat.lt_of_lt_of_le g2 x.next) fun i r e=>by obtain⟨y,h1,h2⟩:=g3 i r e;exact⟨y,h1,h2.ext x⟩
def rowsV(kerf:Int)(l:List Kd)(w ht:Nat):List (List Int):=(List.range w).map fun(i:Nat)=>(List.range ht).map fun(j:Nat)=>bestV kerf l (i+1:Nat) (j+1:Nat)
def rowF(u:Tab)(done:List (Nat×Nat))(i:Nat):List Int:=(done.filter fun y=>y.1==i+1).map fun y=>look u (y.1,y.2)
structure RowsK (lo:Nat) (H:Heap) (vs:List Value) (n:Nat) (f:Nat→List Int):Prop where
 len:vs.length=n
 own:∀i,i<n→∃v,lget vs i=some v∧Own lo H 1 v (f i).length (ints (f i))
 dist:∀i j q a b c d,i≠j→lget vs i=some (.slice (some ⟨q,0,none⟩) a b)→lget vs j=some (.slice (some ⟨q,0,none⟩) c d)→False
theorem own_below{lo n q a b:Nat}{h:Heap}{v:Value}{cs:List Value}(s:Own lo h 1 v n cs)(e:v= .slice (some ⟨q,0,none⟩) a b):lo≤q∧q<h.next:=by
 cases s with
 |nil=>cases e
 |full q1 q2 _ _ _=>cases e;exact⟨q1,q2⟩
theorem RowsK.up{lo n m q':Nat}{H H':Heap}{vs:List Value}{f g:Nat→List Int}{i:Nat}{v:Value}(s:RowsK lo H vs n f)(hi:i<n)(hlo:lo≤H.next)(hv:lget vs i=some v)(hq:H.next≤q')(hn:H.next≤H'.next)
 (own':Own H.next H' 1 (.slice (some ⟨q',0,none⟩) m UNK) (g i).length (ints (g i)))(hg:∀j,j≠i→g j=f j)(ha:∀z,lo≤z→z<H.next→(∀q a k,v= .slice (some ⟨q,0,none⟩) a k→z≠q)→H'.get z=H.get z):
 RowsK lo H' (vs.set i (.slice (some ⟨q',0,none⟩) m UNK)) n g:=by
 have hset:∀j,lget (vs.set i (.slice (some ⟨q',0,none⟩) m UNK)) j=if i=j then some (.slice (some ⟨q',0,none⟩) m UNK)else lget vs j:=fun j=>by
  rw[lget_eq,lget_eq,List.getElem?_set]
  by_cases h:i=j
  ·subst h;rw[if_pos rfl,if_pos rfl,if_pos (by rw[s.len];exact hi)]
  ·rw[if_neg h,if_neg h]
 have hb:∀j q a b,lget vs j=some (.slice (some ⟨q,0,none⟩) a b)→q<H.next:=fun j q a b e=>by
  have hj:j<n:=by
   rw[lget_eq]at e
   have:=(List.getElem?_eq_some_iff.1 e).1
   rw[←s.len];exact this
  obtain⟨v,h1,h2⟩:=s.own j hj
  rw[h1]at e
  exact(own_below h2 (Option.some.inj e)).2
 refine⟨by rw[List.length_set];exact s.len,fun j hj=> ?_,fun j k q a b c d hne e1 e2=> ?_⟩
 ·by_cases h:i=j
  ·subst h
   exact⟨_,by rw[hset,if_pos rfl],own'.low hlo⟩
  ·obtain⟨v',h1,h2⟩:=s.own j hj
   refine⟨v',by rw[hset,if_neg h];exact h1,?_⟩
   rw[hg j (Ne.symm h)]
   revert h2
   generalize ints (f j)=zs
   generalize(f j).length=m
   intro h2
   cases h2 with
   |nil=>exact .nil
   | @full q _ _ q1 q2 q3 q4 q5=>exact .full q1 (by omega) ((ha q q1 q2 fun q0 a k e hq=>by subst hq;subst e;exact s.dist i j _ _ _ _ _ h hv h1).trans q3) q4 q5
 ·rw[hset]at e1 e2
  by_cases h1:i=j
  ·rw[if_pos h1]at e1
   rw[if_neg (fun h=>hne (h1.symm.trans h))]at e2
   cases e1
   have:=hb _ _ _ _ e2
   omega
  ·rw[if_neg h1]at e1
   by_cases h2:i=k
   ·rw[if_pos h2]at e2
    cases e2
    have:=hb _ _ _ _ e1
    omega
   ·rw[if_neg h2]at e2
    exact s.dist j k q a b c d hne e1 e2
end Go.A.Pk
end
section
set_option maxRecDepth 100000
namespace Go.A.Pk
variable {T:Nat→Option AFunc}
def ValQ(kerf:Int)(l:List Kd)(w ht:Int)(v:Value)(h:Heap):Prop:=∃x,v= .tuple #[x, .int .i64 (asked kerf l (OnB w ht))]∧ListsAt h x (if asked kerf l (OnB w ht)=0 then rowsV kerf l w.toNat ht.toNat else [])
theorem ValQ.log{kerf:Int}{l:List Kd}{w ht:Int}(v:Value)(h':Heap)(m:List Nat)(q:ValQ kerf l w ht v h'):ValQ kerf l w ht v {h' with log:=m}:=by
 obtain⟨x,h1,h2⟩:=q
 exact⟨x,h1,h2.log m⟩
theorem ValQ.gc{kerf:Int}{l:List Kd}{w ht:Int}{h:Heap}(v:Value)(h1:Heap)(hv:noRef v=true)(q:ValQ kerf l w ht v h1):ValQ kerf l w ht v h:=by
 obtain⟨x,rfl,s⟩:=q
 refine⟨x,rfl,?_⟩
 generalize(if asked kerf l (OnB w ht)=0 then rowsV kerf l w.toNat ht.toNat else [])=rows at*
 cases s with
 |nil=>exact .nil
 |mem _ _ _=>simp[noRef,flatL,flat,scalL,scal,scal1]at hv
structure PV (l ob n:Nat) (H0:Heap) (L:AObj) (u:Tab) (done:List (Nat×Nat)) (H:Heap):Prop where
 old:∀z,z<l→z≠ob→H.get z=H0.get z
 loop:H.get l=some L
 nx:l<H.next
 rows:∃vs,H.get ob=some (.cells vs true 1)∧RowsK (l+1) H vs n (rowF u done)
theorem PV.stable{l ob n:Nat}{H0:Heap}{L:AObj}{u:Tab}(hob:ob<l)(done:List (Nat×Nat))(H H':Heap)(p:PV l ob n H0 L u done H)(hn:H.next≤H'.next)(h:∀x,x<H.next→H'.get x=H.get x):PV l ob n H0 L u done H':=by
 obtain⟨p1,p2,p3,vs,p4,p5⟩:=p
 exact⟨fun z hz hne=>(h z (by omega)).trans (p1 z hz hne),(h l p3).trans p2,by omega,vs,(h ob (by omega)).trans p4,p5.len,fun i hi=>by
  obtain⟨v,h1,h2⟩:=p5.own i hi
  exact⟨v,h1,h2.keep hn fun z _ hz=>h z hz⟩,p5.dist⟩
end Go.A.Pk
end
section
set_option maxRecDepth 100000
namespace Go.A.Pk
variable {T:Nat→Option AFunc}
theorem ListsAt.form{h:Heap}{v:Value}{rows:List (List Int)}(s:ListsAt h v rows):∃a c,v= .slice a rows.length c:=by
 cases s with
 |nil=>exact⟨_,_,rfl⟩
 |mem _ _ _=>exact⟨_,_,rfl⟩
theorem ListsAt.elem{h:Heap}{a:Option Addr}{n c:Nat}{rows:List (List Int)}(s:ListsAt h (.slice a n c) rows){i:Nat}{r:List Int}(hr:rows[i]? =some r):∃b o vs own t xa xc,a=some ⟨b,o,none⟩∧h.get b=some (.cells vs own t)∧b<h.next∧lget vs (o+i*1)=some (.slice xa r.length xc)∧SliceOf h 1 (.slice xa r.length xc) r.length (ints r):=by
 cases s with
 |nil=>cases hr
 | @mem b o _ vs own t _ g1 g2 g3=>
   obtain⟨x,h1,h2⟩:=g3 i r hr
   obtain⟨xa,xc,rfl⟩:=h2.form
   exact⟨b,o,vs,own,t,xa,xc,rfl,g1,g2,by rw[Nat.mul_one];exact h1,h2⟩
end Go.A.Pk
end
section
set_option maxRecDepth 100000
namespace Go.A.Pk
inductive ListsW (h:Heap):Value→List (List Int)→Prop
 |nil:ListsW h (.slice none 0 0) []
 |mem {b o c vs own t rows}:h.get b=some (.cells vs own t)→b<h.next→(∀i r,rows[i]? =some r→∃xa xc,lget vs (o+i)=some (.slice xa r.length xc)∧(r≠[]→SliceOf h 1 (.slice xa r.length xc) r.length (ints r)))→ListsW h (.slice (some ⟨b,o,none⟩) rows.length c) rows
theorem ListsW.form{h:Heap}{v:Value}{rows:List (List Int)}(s:ListsW h v rows):∃a c,v= .slice a rows.length c:=by
 cases s with
 |nil=>exact⟨_,_,rfl⟩
 |mem _ _ _=>exact⟨_,_,rfl⟩
theorem ListsW.agree{h h':Heap}{v:Value}{rows:List (List Int)}(s:ListsW h v rows)(hn:h.next≤h'.next)(ha:∀b vs o t,b<h.next→h.get b=some (.cells vs o t)→h'.get b=h.get b):ListsW h' v rows:=by
 cases s with
 |nil=>exact .nil
 | @mem b o _ vs own t _ g1 g2 g3=>
   refine .mem ((ha _ _ _ _ g2 g1).trans g1) (by omega) fun i r hi=> ?_
   obtain⟨xa,xc,h1,h2⟩:=g3 i r hi
   exact⟨xa,xc,h1,fun hr=>SliceOf.agree (h2 hr) hn ha⟩
theorem ListsW.log{h:Heap}{v:Value}{rows:List (List Int)}(s:ListsW h v rows)(m:List Nat):ListsW {h with log:=m} v rows:=s.agree (Nat.le_refl _) fun _ _ _ _ _ _=>rfl
theorem ListsW.ext{h h':Heap}{v:Value}{rows:List (List Int)}(s:ListsW h v rows)(x:Ext h h'):ListsW h' v rows:=s.agree x.next fun b _ _ _ hb _=>x.old b hb
theorem ListsW.elem{h:Heap}{a:Option Addr}{n c:Nat}{rows:List (List Int)}(s:ListsW h (.slice a n c) rows){i:Nat}{r:List Int}(hr:rows[i]? =some r):∃b o vs own t xa xc,a=some ⟨b,o,none⟩∧h.get b=some (.cells vs own t)∧b<h.next∧lget vs (o+i*1)=some (.slice xa r.length xc)∧(r≠[]→SliceOf h 1 (.slice xa r.length xc) r.length (ints r)):=by
 cases s with
 |nil=>cases hr
 | @mem b o _ vs own t _ g1 g2 g3=>
   obtain⟨xa,xc,h1,h2⟩:=g3 i r hr
   exact⟨b,o,vs,own,t,xa,xc,rfl,g1,g2,by rw[Nat.mul_one];exact h1,h2⟩
end Go.A.Pk
end
section
set_option maxRecDepth 100000
namespace Go.A.Pk
variable {T:Nat→Option AFunc}
set_option maxHeartbeats 4000000 in
theorem boards136X(hp:primAS T)(hf:T 136=some f136){h:Heap}(hr:Rdy h){bw bh l N lo w ht:Nat}{P:List (Nat×Nat)→Heap→Prop}{S:Heap→Prop}(hN:N≤h.next)(hlo:lo≤h.next)(hw16:w<1000)(hh16:ht<1000)(hlN:l<N)(Y:YldX T lo N l boardV (boardsL w ht) P S)
 (hbw:∀d H,P d H→H.get bw=some (.cells [.int .i64 w] true 1))(hbh:∀d H,P d H→H.get bh=some (.cells [.int .i64 ht] true 1))(h0:P [] h):
 GrX T 136 [.func (.yield l) #[] #[], .pointer (some ⟨bw,0,none⟩), .pointer (some ⟨bh,0,none⟩)] h lo (P (boardsL w ht)) S:=by
 have hlb:l<h.next:=by omega
 refine GrX.of (l:=l) hp hf hlo hlb (fun h1 h2 hn ha q=>Y.stable _ _ _ q (Nat.le_trans hN hn) fun x hx=>ha x (by omega)) Y.sloop ?_
 refine y4 ?_;refine yM ?_;refine y3 ?_;refine wE_block ?_
 refine wE_loop (fun k e ds h'=>∃i:Nat,i≤w∧k=w-i∧e=[(0, .func (.yield l) #[] #[]),(1, .pointer (some ⟨bw,0,none⟩)),(2, .pointer (some ⟨bh,0,none⟩)),(4, .int .i64 (i+1:Nat))]∧ds=[]∧Lk lo h h'∧P (boardsL i ht) h')
  ⟨0,Nat.zero_le _,rfl,rfl,rfl, .refl _ _,h0⟩ ?_
 rintro k e ds h' ⟨i,hi,rfl,rfl,rfl,hk,hP⟩
 have g1:=hbw _ _ hP
 by_cases hlt:i<w
 ·refine wE_seq ?_;refine y4 ?_;refine yM ?_;refine yL ?_;refine yt ?_;refine y3 ?_
  refine yY ?_;refine wE_skip ?_;refine kS_n ?_;refine wE_seq ?_;refine wE_block ?_;refine y4 ?_;refine yM ?_;refine y3 ?_;refine wE_block ?_
  refine wE_loop (fun k e ds h''=>∃j:Nat,j≤ht∧k=ht-j∧e=[(0, .func (.yield l) #[] #[]),(1, .pointer (some ⟨bw,0,none⟩)),(2, .pointer (some ⟨bh,0,none⟩)),(4, .int .i64 (i+1:Nat)),(5, .int .i64 (j+1:Nat))]∧ds=[]∧Lk lo h h''∧P (boardsL i ht++row (i+1) j) h'')
   ⟨0,Nat.zero_le _,rfl,rfl,rfl,hk,by simpa[row]using hP⟩ ?_
  clear g1 hP hk h'
  rintro k e ds h' ⟨j,hj,rfl,rfl,rfl,hk,hP⟩
  have g2:=hbh _ _ hP
  by_cases hjt:j<ht
  ·refine wE_seq ?_;refine y4 ?_;refine yM ?_;refine yL ?_;refine yt ?_;refine y3 ?_
   refine yY ?_;refine wE_skip ?_;refine kS_n ?_;refine wE_seq ?_;refine wE_block ?_;refine y4 ?_;refine yM ?_;refine yM ?_;refine yM ?_;refine wO_val (a_build (by exact rfl)) ?_
   refine wO_call (fn:= .yield l) (args:=[boardV (i+1,j+1)]) (by rfl) ?_
   refine Y.call hp (boardsL_mem hlt hjt) (hk.wf hr.wf) (Nat.le_trans hlo hk.next) (Nat.le_trans hN hk.next) hlb hP ?_ ?_
   rotate_left
   ·intro h9 hk9 hm9 hS9
    refine yA ?_;refine y3 ?_;refine yY ?_;refine wE_ret ?_;refine kB_r ?_;refine kS_r ?_;refine kS_r ?_;refine kB_r ?_;refine kB_r ?_;refine kS_r ?_;refine kS_r ?_;refine kB_r ?_
    exact endX_ret ((hk.trans hk9).log (by rw[hr.log];exact LogGe.nil _)) rfl hm9 hS9
   intro h2 hk2 _ hP2
   rw[List.append_assoc,←row_succ]at hP2
   refine yA ?_;refine y3 ?_;refine yX ?_;refine wE_skip ?_;refine kB_n ?_;refine kS_n ?_;refine wE_region ?_;refine yM ?_
   refine yinc ?_;refine yM ?_;refine y3 ?_
   exact⟨ht-(j+1),by omega,j+1,by omega,rfl,rfl,rfl,hk.trans hk2,hP2⟩
  ·obtain rfl:j=ht:=by omega
   refine wE_seq ?_;refine y4 ?_;refine yM ?_;refine yL ?_;refine yf ?_;refine y3 ?_
   refine yX ?_;refine wE_exit ?_;refine kS_e ?_;refine kS_e ?_;refine kB_e ?_;refine kB_n ?_;refine kS_n ?_;refine wE_region ?_;refine yM ?_;refine yinc ?_;refine yM ?_;refine y3 ?_
   exact⟨w-(i+1),by omega,i+1,by omega,rfl,rfl,rfl,hk,hP⟩
 ·obtain rfl:i=w:=by omega
  refine wE_seq ?_;refine y4 ?_;refine yM ?_;refine yL ?_;refine yf ?_;refine y3 ?_
  refine yX ?_;refine wE_exit ?_;refine kS_e ?_;refine kS_e ?_;refine kB_e ?_
  exact endX_end (hk.log (by rw[hr.log];exact LogGe.nil _)) rfl hP
theorem row111(hp:primAS T)(hf:T 111=some f111){h:Heap}(hr:Rdy h){q n c:Nat}{a:Option Addr}{ht:Int}(g:h.get q=some (.cells [.int .i64 ht] true 1)):Pu T 111 [.slice a n c, .pointer (some ⟨q,0,none⟩)] h (.bool (decide ((n:Int)≠ht))):=by
 refine .of hp hf hr rfl ?_
 by_cases he:(n:Int)≠ht
 ·rw[decide_eq_true he]
  refine y4 ?_;refine yM ?_;refine y3 ?_;refine y4 ?_;refine yM ?_;refine yD ?_
  refine yL ?_;refine yt ?_;refine yM ?_;refine y3 ?_;refine wE_ret ?_
  exact endP_ret hr.log rfl rfl
 ·rw[decide_eq_false he]
  refine y4 ?_;refine yM ?_;refine y3 ?_;refine y4 ?_;refine yM ?_;refine yD ?_
  refine yL ?_;refine yf ?_;refine yM ?_;refine y3 ?_;refine wE_ret ?_
  exact endP_ret hr.log rfl rfl
theorem index146(hp:primAS T)(hf:T 146=some f146)(hf2:T 111=some f111){h:Heap}(hr:Rdy h){q:Nat}{ht:Int}{v:Value}{rows:List (List Int)}(hv:ListsW h v rows)(hrl:rows.length<1000000)(g:h.get q=some (.cells [.int .i64 ht] true 1)):
 ∃z:Int,Pu T 146 [v, .func (.func 111) #[] #[.pointer (some ⟨q,0,none⟩)]] h (.int .i64 z)∧(0≤z↔ ∃r∈rows,(r.length:Int)≠ht):=by
 obtain⟨va,vc,rfl⟩:=hv.form
 have hrow:∀{k:Nat} {r:List Int},rows[k]? =some r→∃b o vs own t xa xc,va=some ⟨b,o,none⟩∧h.get b=some (.cells vs own t)∧lget vs (o+k*1)=some (.slice xa r.length xc):=fun hk=>by
  obtain⟨b,o,vs,own,t,xa,xc,q1,q2,_,q3,_⟩:=hv.elem hk
  exact⟨b,o,vs,own,t,xa,xc,q1,q2,q3⟩
 have key:∀(z:Int) (m:Nat),m≤rows.length→(∀j r,j<m→rows[j]? =some r→¬ (r.length:Int)≠ht)→(m<rows.length→z=(m:Int)∧∀r,rows[m]? =some r→(r.length:Int)≠ht)→(m=rows.length→z= -1)→Pu T 146 [.slice va rows.length vc, .func (.func 111) #[] #[.pointer (some ⟨q,0,none⟩)]] h (.int .i64 z):=by
  intro z m hm h1 h2 h3
  refine .of hp hf hr rfl ?_
  refine y4 ?_;refine yM ?_;refine y3 ?_;refine wE_seq ?_;refine y4 ?_;refine yM ?_;refine yD ?_;refine yM ?_
  refine y3 ?_;refine wE_block ?_
  refine wE_loop (fun k e ds h'=>∃i:Nat,i≤m∧k=rows.length-i∧e=[(0, .slice va rows.length vc),(1, .func (.func 111) #[] #[.pointer (some ⟨q,0,none⟩)]),(7, .int .i64 rows.length),(8, .int .i64 i)]∧ds=[]∧h=h')
   ⟨0,Nat.zero_le _,rfl,rfl,rfl,rfl⟩ ?_
  rintro k e ds _ ⟨i,hi,rfl,rfl,rfl,rfl⟩
  by_cases hlt:i<rows.length
  ·obtain⟨r,hri⟩:∃r,rows[i]? =some r:=⟨rows[i],List.getElem?_eq_getElem hlt⟩
   obtain⟨b,o,vs,own,t,xa,xc,rfl,g1,f1⟩:=hrow hri
   have C:=row111 hp hf2 (h:={h with log:=[]}) (.of hr.wf) (a:=xa) (n:=r.length) (c:=xc) (ht:=ht) g
   by_cases him:i<m
   ·rw[decide_eq_false (h1 i r him hri)]at C
    refine y4 ?_;refine yt ?_;refine y3 ?_;refine wE_seq ?_;refine yY ?_;refine wE_skip ?_;refine kS_n ?_;refine wE_seq ?_;refine wE_block ?_;refine y4 ?_;refine yM ?_;refine yM ?_;refine y3 ?_;refine y4 ?_;refine yM ?_;refine yM ?_;refine yM ?_
    refine wO_val (a_iaddrS (by exact rfl) (by exact rfl) (by omega)) ?_;refine wO_val (a_load (by exact rfl) (by assumption) (by assumption)) ?_
    refine yC ?_
    refine FW.pu C ?_
    refine y3 ?_;refine yX ?_;refine wE_skip ?_;refine kB_n ?_;refine kS_n ?_;refine wE_region ?_;refine yinc ?_;refine yM ?_;refine y3 ?_
    exact⟨rows.length-(i+1),by omega,i+1,by omega,rfl,rfl,rfl,rfl⟩
   ·obtain rfl:i=m:=by omega
    obtain⟨rfl,h4⟩:=h2 hlt
    rw[decide_eq_true (h4 r hri)]at C
    refine y4 ?_;refine yt ?_;refine y3 ?_;refine wE_seq ?_;refine yY ?_;refine wE_skip ?_;refine kS_n ?_;refine wE_seq ?_;refine wE_block ?_;refine y4 ?_;refine yM ?_;refine yM ?_;refine y3 ?_;refine y4 ?_;refine yM ?_;refine yM ?_;refine yM ?_
    refine wO_val (a_iaddrS (by exact rfl) (by exact rfl) (by omega)) ?_;refine wO_val (a_load (by exact rfl) (by assumption) (by assumption)) ?_
    refine yC ?_
    refine FW.pu C ?_
    refine y3 ?_;refine yY ?_;refine y4 ?_;refine yM ?_;refine yM ?_;refine y3 ?_;refine wE_ret ?_;refine kB_r ?_;refine kS_r ?_;refine kS_r ?_;refine kB_r ?_;refine kS_r ?_
    exact endP_ret hr.log rfl rfl
  ·obtain rfl:i=rows.length:=by omega
   obtain rfl:=h3 (by omega)
   refine y4 ?_;refine yf ?_;refine y3 ?_;refine wE_seq ?_;refine yX ?_;refine wE_exit ?_;refine kS_e ?_;refine kS_e ?_;refine kB_e ?_;refine kS_n ?_
   refine y4 ?_;refine yM ?_;refine y3 ?_;refine wE_ret ?_
   exact endP_ret hr.log rfl rfl
 by_cases hbad:∃m:Nat,∃r:List Int,rows[m]? =some r∧(r.length:Int)≠ht
 ·obtain⟨n0,hn0⟩:=hbad
  have hleast:∃m:Nat,(∃r:List Int,rows[m]? =some r∧(r.length:Int)≠ht)∧∀j,j<m→¬ ∃r:List Int,rows[j]? =some r∧(r.length:Int)≠ht:=by
   induction n0 using Nat.strongRecOn with
   |ind n0 ih=>
    by_cases hx:∃j,j<n0∧∃r:List Int,rows[j]? =some r∧(r.length:Int)≠ht
    ·obtain⟨j,hj,q⟩:=hx
     exact ih j hj q
    ·exact⟨n0,hn0,fun j hj q=>hx ⟨j,hj,q⟩⟩
  obtain⟨m,⟨r,hr1,hr2⟩,hl⟩:=hleast
  have hml:=(List.getElem?_eq_some_iff.1 hr1).1
  refine⟨(m:Int),key m m (by omega) (fun j r' hj q q2=>hl j hj ⟨r',q,q2⟩) (fun _=>⟨rfl,fun r' q=>by rw[hr1]at q;cases q;exact hr2⟩) (fun q=>by omega),fun _=>⟨r,List.mem_of_getElem? hr1,hr2⟩,fun _=>by omega⟩
 ·refine⟨-1,key (-1) rows.length (Nat.le_refl _) (fun j r _ q q2=>hbad ⟨j,r,q,q2⟩) (fun q=>by omega) (fun _=>rfl),fun q=>by omega,?_⟩
  rintro⟨r,q1,q2⟩
  obtain⟨j,hj,rfl⟩:=List.getElem_of_mem q1
  exact(hbad ⟨j,_,List.getElem?_eq_getElem hj,q2⟩).elim
theorem contains110(hp:primAS T)(hf:T 110=some f110)(hf1:T 146=some f146)(hf2:T 111=some f111){h:Heap}(hr:Rdy h){q:Nat}{ht:Int}{v:Value}{rows:List (List Int)}(hv:ListsW h v rows)(hrl:rows.length<1000000)(g:h.get q=some (.cells [.int .i64 ht] true 1)):
 ∃b:Bool,Pu T 110 [v, .func (.func 111) #[] #[.pointer (some ⟨q,0,none⟩)]] h (.bool b)∧(b=true↔ ∃r∈rows,(r.length:Int)≠ht):=by
 obtain⟨z,C,hz⟩:=index146 hp hf1 hf2 (h:={h with log:=[]}) (.of hr.wf) (hv.log []) hrl g
 refine⟨decide (0≤z),?_,by rw[decide_eq_true_iff];exact hz⟩
 obtain⟨va,vc,rfl⟩:=hv.form
 refine .of hp hf hr rfl ?_
 by_cases h0:0≤z
 ·rw[decide_eq_true h0]
  refine y4 ?_;refine yM ?_;refine y3 ?_;refine y4 ?_;refine yM ?_;refine yM ?_
  refine yC ?_
  refine FW.pu C ?_
  refine yt ?_;refine yM ?_;refine y3 ?_;refine wE_ret ?_
  exact endP_ret hr.log rfl rfl
 ·rw[decide_eq_false h0]
  refine y4 ?_;refine yM ?_;refine y3 ?_;refine y4 ?_;refine yM ?_;refine yM ?_
  refine yC ?_
  refine FW.pu C ?_
  refine yf ?_;refine yM ?_;refine y3 ?_;refine wE_ret ?_
  exact endP_ret hr.log rfl rfl
end Go.A.Pk
end
section
set_option maxRecDepth 100000
namespace Go.A.Pk
variable {T:Nat→Option AFunc}
def Nought(x:Int×Int):Prop:=x.1<1∨x.2<1
instance(x:Int×Int):Decidable (Nought x):=by unfold Nought;infer_instance
def never:Int:= -1099511627776
def leafW(ws:List Int)(kind:Nat)(x:Nat×Nat):Int:=if x.2=kind then ws.getD kind 0 else never
end Go.A.Pk
end
section
set_option maxRecDepth 100000
namespace Go.A.Pk
variable {T:Nat→Option AFunc}
theorem WD.gen{base:Nat}{ops:List AOper}{bf:List Nat}{rs:List Rec}{Q:Env→Heap→Prop}{is:List Nat}{e:Env}{h:Heap}(hK:∀hA,hA=h→WD T base ops bf Q is rs e hA):WD T base ops bf Q is rs e h:=hK h rfl
end Go.A.Pk
end
section
set_option maxRecDepth 100000
namespace Go.A.Pk
variable {T:Nat→Option AFunc}
theorem WE.gen{base:Nat}{rnd:Option Nat}{c:ACode}{Q:XQ}{e:Env}{ds:Dfs}{h:Heap}(hK:∀hA,hA=h→WE T base rnd c Q e ds hA):WE T base rnd c Q e ds h:=hK h rfl
end Go.A.Pk
end
section
set_option maxRecDepth 100000
namespace Go.A.Pk
variable {T:Nat→Option AFunc}
theorem wD_mapUp{base:Nat}{e:Env}{h:Heap}{ops:List AOper}{bf:List Nat}{rs rs':List Rec}{Q:Env→Heap→Prop}{i mask:Nat}{is:List Nat}{dst:Option Nat}{m k v:Operand}{r:Nat}{t:Tab}{x:Nat×Nat}{z:Int}{g:Option (Nat×Bool)}{er:Env}(ho:lget ops i=some ⟨dst, .mapUp true [.i .i64, .i .i64] m k v,g⟩)(hm:lget bf i=some mask)
 (he:keepE e (slotsA ⟨dst, .mapUp true [.i .i64, .i .i64] m k v,g⟩)=er)(hw:wantedA er g=some true)(h1:ev {h with log:=[]} er m=some (.map (some r)))(h2:ev {h with log:=[]} er k=some (boardV x))(h3:ev {h with log:=[]} er v=some (.int .i64 z))(h4:h.get r=some (.map (ents t)))(hlt:r<h.next)
 (hrs:recsAfter (h.wr base r (.map (ents (upd t x z)))) base [r] mask rs=some rs')(H:WD T base ops bf Q is rs' (dstE e dst (.tuple #[])) (h.wr base r (.map (ents (upd t x z))))):WD T base ops bf Q (i::is) rs e h:=
 wD_actH ho hm he hw rfl (a_mapUp (h:={h with log:=[]}) h1 h2 h3 h4) (eq_wrA hlt _) (lg_wr hlt _) hrs H
end Go.A.Pk
end
