/- Walks of functions, plain laws, the table. -/
import Derived.Test.YteafdpbjocdbbaaGreatDoorRU2
import Derived.Test.YteafdpbjocdbbaaGreatDoorRD
import Derived.Test.YteafdpbjocdbbaaGreatDoorRF
import Derived.Test.YteafdpbjocdbbaaGreatDoorRU1
import Derived.Test.YteafdpbjocdbbaaGreatDoorRU0
import Derived.Test.YteafdpbjocdbbaaGreatDoorRH
import Derived.Test.YteafdpbjocdbbaaGreatDoorRT
import Derived.Carry
import Derived.Lib.SmallJoins
import Derived.Deep.Slices
import Derived.Deep.Fields
import Derived.Test.YteafdpbjocdbbaaGreatDoorProg
import Derived.SizedLaws
import Derived.KernelRfl
set_option linter.all false
section
set_option maxRecDepth 100000
namespace Go.A.Pk
variable {T:Nat→Option AFunc}
theorem wsOf_bd{kerf:Int}{l:List Kd}(hc:chk kerf l=0):∀x∈wsOf l,0≤x∧x≤1000000:=fun x hx=>by
 obtain⟨k,hk,rfl⟩:=List.mem_map.1 hx
 obtain⟨q1,q2,q3,q4⟩:=chk_iff.1 hc
 exact(q3 k hk).2.2.2
end Go.A.Pk
end
section
set_option maxRecDepth 100000
namespace Go.A.Pk
variable {T:Nat→Option AFunc}
def IntsQ(er:Int)(xs:List Int)(v:Value)(h:Heap):Prop:=∃a c,v= .tuple #[.slice a xs.length c, .int .i64 er]∧SliceOf h 1 (.slice a xs.length c) xs.length (ints xs)
theorem IntsQ.log{er:Int}{xs:List Int}(v:Value)(h':Heap)(m:List Nat)(q:IntsQ er xs v h'):IntsQ er xs v {h' with log:=m}:=by
 obtain⟨a,c,h1,h2⟩:=q
 exact⟨a,c,h1,h2.log m⟩
theorem IntsQ.gc{er:Int}{xs:List Int}{h:Heap}(v:Value)(h1:Heap)(hv:noRef v=true)(q:IntsQ er xs v h1):IntsQ er xs v h:=by
 obtain⟨a,c,rfl,h2⟩:=q
 refine⟨a,c,rfl,?_⟩
 generalize xs.length=n at*
 generalize ints xs=cs at*
 cases h2 with
 |nil=>exact .nil
 |mem s _=>simp[noRef,flatL,flat,scalL,scal,scal1]at hv
theorem IntsQ.ret{er:Int}{xs:List Int}{s:Value}{h:Heap}(hs:SliceOf h 1 s xs.length (ints xs)):IntsQ er xs (.tuple #[s, .int .i64 er]) h:=by
 have hi:=hs.inv
 rcases hi with⟨c,rfl,h0,_⟩|⟨b,o,c,rfl,_,_⟩
 ·refine⟨none,c,?_,?_⟩
  ·rw[h0]
  ·rw[h0]at hs⊢;exact hs
 ·exact⟨_,_,rfl,hs⟩
end Go.A.Pk
end
section
set_option maxRecDepth 100000
namespace Go.A.Pk
variable {T:Nat→Option AFunc}
def grid(f:Nat→Nat→Int):List Int:=(List.range 289).map fun i=>f (i / 17) (i % 17)
def updF(f:Nat→Nat→Int)(a b:Nat)(z:Int)(x y:Nat):Int:=if x=a∧y=b then z else f x y
theorem grid_len(f:Nat→Nat→Int):(grid f).length=289:=by simp[grid]
theorem grid_congr{f g:Nat→Nat→Int}(h:∀x y,x<17→y<17→f x y=g x y):grid f=grid g:=by
 unfold grid
 apply List.map_congr_left
 intro i hi
 have:=List.mem_range.1 hi
 exact h _ _ (by omega) (by omega)
theorem grid_get{f:Nat→Nat→Int}{a b:Nat}(ha:a<17)(hb:b<17):lget (ints (grid f)) (0+a*17+b*1)=some (.int .i64 (f a b)):=by
 rw[lget_eq]
 have h:(ints (grid f))[a*17+b]? =some (.int .i64 (f a b)):=by
  unfold ints grid
  rw[List.getElem?_map,List.getElem?_map,List.getElem?_range (by omega)]
  have e1:(a*17+b) / 17=a:=by omega
  have e2:(a*17+b) % 17=b:=by omega
  simp only[z7,e1,e2]
 rw[show 0+a*17+b*1=a*17+b by omega]
 exact h
theorem grid_set{f:Nat→Nat→Int}{a b:Nat}(hb:b<17)(z:Int):(grid f).set (a*17+b) z=grid (updF f a b z):=by
 apply List.ext_getElem?
 intro i
 unfold grid
 rw[List.getElem?_set,List.getElem?_map,List.getElem?_map]
 by_cases hi:i<289
 ·rw[List.getElem?_range hi]
  unfold updF
  by_cases e:a*17+b=i
  ·rw[if_pos e,if_pos (by simp;omega)]
   simp only[z7]
   rw[if_pos (by omega)]
  ·rw[if_neg e]
   simp only[z7]
   rw[if_neg (by omega)]
 ·have hn:(List.range 289)[i]? =none:=List.getElem?_eq_none (by simp;omega)
  rw[hn]
  by_cases e:a*17+b=i
  ·rw[if_pos e,if_neg (by simp;omega)];rfl
  ·rw[if_neg e];rfl
theorem grid_put{f:Nat→Nat→Int}{a b:Nat}(hb:b<17)(z:Int):lputs (ints (grid f)) (0+a*17+b*1) (cellsOf (.int .i64 z))=ints (grid (updF f a b z)):=by
 rw[←grid_set hb]
 simp[cellsOf,lputs,lset_eq,ints,List.map_set]
theorem grid_st{f:Nat→Nat→Int}{a b:Nat}{z:Int}(ha:a<17)(hb:b<17):(Nat.beq (llen (cellsOf (.int .i64 z))) 1&&Nat.ble (0+a*17+b*1+1) (llen (ints (grid f)))&&ones (cellsOf (.int .i64 z)))=true:=by
 have h1:(ints (grid f)).length=289:=by rw[ints_len,grid_len]
 simp[cellsOf,ones,llen_eq,h1]
 omega
theorem grid_zero:lrep 289 (Value.int .i64 0)=ints (grid fun _ _=>0):=by
 have h:∀n,lrep n (Value.int .i64 0)=ints ((List.range n).map fun _=>(0:Int)):=by
  intro n
  induction n with
  |zero=>rfl
  |succ n ih=>
   rw[lrep,ih]
   simp[ints,List.range_succ_eq_map]
 exact h 289
def plankB(k:Kd)(a b:Nat):Bool:=decide (k.w=a∧k.h=b∨k.turn=true∧k.h=a∧k.w=b)
set_option maxHeartbeats 4000000 in
theorem plank112(hp:primAS T)(hf:T 112=some f112){h:Heap}(hr:Rdy h)(k:Kd)(a b:Nat):Pu T 112 [.agg (kc k).toArray, .int .i64 a, .int .i64 b] h (.bool (plankB k a b)):=by
 refine .of hp hf hr rfl ?_
 obtain⟨id,kw,kh,wo,tu⟩:=k
 unfold plankB kc
 simp only
 by_cases c1:¬kw≠a
 ·by_cases c2:¬kh≠b
  ·rw[decide_eq_true (by omega)]
   refine y4 ?_;refine yB ?_;refine yM ?_;refine y3 ?_;refine y4 ?_;refine yF ?_
   refine yL ?_;refine yM ?_
   refine yt ?_;refine yM ?_;refine yO ?_;refine yF ?_;refine yO ?_
   refine yL ?_;refine yO ?_;refine yM ?_;refine yO ?_
   refine yt ?_;refine yT ?_;refine yM ?_;refine yP ?_;refine yP ?_;refine yP ?_;refine wO_off2 (by exact rfl) ?_;refine wO_off2 (by exact rfl) ?_
   refine wO_off2 (by exact rfl) ?_;refine wO_off2 (by exact rfl) ?_;refine yP ?_;refine yP ?_;refine wO_off2 (by exact rfl) ?_;refine wO_off2 (by exact rfl) ?_;refine wO_off2 (by exact rfl) ?_;refine wO_off2 (by exact rfl) ?_;refine yP ?_
   refine yT ?_;refine yM ?_;refine y3 ?_;refine wE_ret ?_
   exact endP_ret hr.log rfl rfl
  ·cases tu with
   |false=>
    rw[decide_eq_false (by simp;omega)]
    refine y4 ?_;refine yB ?_;refine yM ?_;refine y3 ?_;refine y4 ?_;refine yF ?_
    refine yL ?_;refine yM ?_
    refine yt ?_;refine yM ?_;refine yO ?_;refine yF ?_;refine yO ?_
    refine yL ?_;refine yO ?_;refine yM ?_;refine yO ?_
    refine yf ?_;refine yT ?_;refine yM ?_;refine yO ?_;refine yF ?_;refine yO ?_
    refine yL ?_;refine yO ?_;refine yM ?_
    refine yP ?_;refine yP ?_;refine yP ?_;refine yP ?_;refine yO ?_;refine yU ?_;refine yO ?_;refine yM ?_;refine yP ?_
    refine yP ?_;refine yP ?_;refine yP ?_;refine yO ?_;refine yU ?_;refine yU ?_;refine yM ?_;refine y3 ?_;refine wE_ret ?_
    exact endP_ret hr.log rfl rfl
   |true=>
    by_cases c3:¬kh≠a
    ·by_cases c4:¬kw≠b
     ·rw[decide_eq_true (by simp;omega)]
      refine y4 ?_;refine yB ?_;refine yM ?_;refine y3 ?_;refine y4 ?_;refine yF ?_
      refine yL ?_;refine yM ?_
      refine yt ?_;refine yM ?_;refine yO ?_;refine yF ?_;refine yO ?_
      refine yL ?_;refine yO ?_
      refine yM ?_;refine yO ?_;refine yt ?_;refine yT ?_;refine yM ?_;refine yP ?_;refine yP ?_;refine yP ?_
      refine wO_off2 (by exact rfl) ?_;refine wO_off2 (by exact rfl) ?_;refine wO_off2 (by exact rfl) ?_;refine wO_off2 (by exact rfl) ?_;refine yP ?_;refine yP ?_;refine wO_off2 (by exact rfl) ?_;refine wO_off2 (by exact rfl) ?_;refine wO_off2 (by exact rfl) ?_;refine wO_off2 (by exact rfl) ?_
      refine yP ?_;refine yT ?_;refine yM ?_;refine y3 ?_;refine wE_ret ?_
      exact endP_ret hr.log rfl rfl
     ·rw[decide_eq_false (by simp;omega)]
      refine y4 ?_;refine yB ?_;refine yM ?_;refine y3 ?_;refine y4 ?_;refine yF ?_
      refine yL ?_;refine yM ?_
      refine yt ?_;refine yM ?_;refine yO ?_;refine yF ?_;refine yO ?_
      refine yL ?_;refine yO ?_;refine yM ?_;refine yO ?_
      refine yf ?_;refine yT ?_;refine yM ?_;refine yO ?_;refine yF ?_;refine yO ?_
      refine yL ?_;refine yO ?_;refine yM ?_;refine yO ?_
      refine yF ?_;refine yO ?_;refine yL ?_;refine yO ?_
      refine yM ?_;refine yO ?_;refine yt ?_;refine yO ?_;refine yT ?_;refine yO ?_;refine yM ?_;refine yO ?_;refine yF ?_
      refine yO ?_;refine yL ?_;refine yO ?_;refine yM ?_
      refine yO ?_;refine yf ?_;refine yO ?_;refine yT ?_;refine yU ?_;refine yM ?_;refine y3 ?_;refine wE_ret ?_
      exact endP_ret hr.log rfl rfl
    ·rw[decide_eq_false (by simp;omega)]
     refine y4 ?_;refine yB ?_;refine yM ?_;refine y3 ?_;refine y4 ?_;refine yF ?_
     refine yL ?_;refine yM ?_
     refine yt ?_;refine yM ?_;refine yO ?_;refine yF ?_;refine yO ?_
     refine yL ?_;refine yO ?_;refine yM ?_;refine yO ?_
     refine yf ?_;refine yT ?_;refine yM ?_;refine yO ?_;refine yF ?_;refine yO ?_
     refine yL ?_;refine yO ?_;refine yM ?_;refine yO ?_
     refine yF ?_;refine yO ?_;refine yL ?_;refine yO ?_
     refine yM ?_;refine yO ?_;refine yf ?_;refine yO ?_;refine yT ?_;refine yO ?_;refine yM ?_;refine yP ?_
     refine yP ?_;refine yP ?_;refine yP ?_;refine yO ?_;refine yU ?_;refine yU ?_;refine yM ?_;refine y3 ?_;refine wE_ret ?_
     exact endP_ret hr.log rfl rfl
 ·cases tu with
  |false=>
   rw[decide_eq_false (by simp;omega)]
   refine y4 ?_;refine yB ?_;refine yM ?_;refine y3 ?_;refine y4 ?_;refine yF ?_
   refine yL ?_;refine yM ?_
   refine yf ?_;refine yM ?_;refine yP ?_;refine yP ?_;refine yP ?_;refine yP ?_;refine yU ?_
   refine yM ?_;refine yO ?_;refine yF ?_;refine yO ?_
   refine yL ?_;refine yO ?_;refine yM ?_
   refine yP ?_;refine yP ?_;refine yP ?_;refine yP ?_;refine yO ?_;refine yU ?_;refine yO ?_;refine yM ?_;refine yP ?_
   refine yP ?_;refine yP ?_;refine yP ?_;refine yO ?_;refine yU ?_;refine yU ?_;refine yM ?_;refine y3 ?_;refine wE_ret ?_
   exact endP_ret hr.log rfl rfl
  |true=>
   by_cases c3:¬kh≠a
   ·by_cases c4:¬kw≠b
    ·rw[decide_eq_true (by simp;omega)]
     refine y4 ?_;refine yB ?_;refine yM ?_;refine y3 ?_;refine y4 ?_;refine yF ?_
     refine yL ?_;refine yM ?_
     refine yf ?_;refine yM ?_;refine yP ?_;refine yP ?_;refine yP ?_;refine yP ?_;refine yU ?_
     refine yM ?_;refine yO ?_;refine yF ?_;refine yO ?_
     refine yL ?_;refine yO ?_;refine yM ?_;refine yO ?_
     refine yF ?_;refine yO ?_;refine yL ?_;refine yO ?_
     refine yM ?_;refine yO ?_;refine yt ?_;refine yO ?_;refine yT ?_;refine yO ?_;refine yM ?_;refine yO ?_;refine yF ?_
     refine yO ?_;refine yL ?_;refine yO ?_;refine yM ?_
     refine yO ?_;refine yt ?_;refine yO ?_;refine yT ?_;refine yU ?_;refine yM ?_;refine y3 ?_;refine wE_ret ?_
     exact endP_ret hr.log rfl rfl
    ·rw[decide_eq_false (by simp;omega)]
     refine y4 ?_;refine yB ?_;refine yM ?_;refine y3 ?_;refine y4 ?_;refine yF ?_
     refine yL ?_;refine yM ?_
     refine yf ?_;refine yM ?_;refine yP ?_;refine yP ?_;refine yP ?_;refine yP ?_;refine yU ?_
     refine yM ?_;refine yO ?_;refine yF ?_;refine yO ?_
     refine yL ?_;refine yO ?_;refine yM ?_;refine yO ?_
     refine yF ?_;refine yO ?_;refine yL ?_;refine yO ?_
     refine yM ?_;refine yO ?_;refine yt ?_;refine yO ?_;refine yT ?_;refine yO ?_;refine yM ?_;refine yO ?_;refine yF ?_
     refine yO ?_;refine yL ?_;refine yO ?_;refine yM ?_
     refine yO ?_;refine yf ?_;refine yO ?_;refine yT ?_;refine yU ?_;refine yM ?_;refine y3 ?_;refine wE_ret ?_
     exact endP_ret hr.log rfl rfl
   ·rw[decide_eq_false (by simp;omega)]
    refine y4 ?_;refine yB ?_;refine yM ?_;refine y3 ?_;refine y4 ?_;refine yF ?_
    refine yL ?_;refine yM ?_
    refine yf ?_;refine yM ?_;refine yP ?_;refine yP ?_;refine yP ?_;refine yP ?_;refine yU ?_
    refine yM ?_;refine yO ?_;refine yF ?_;refine yO ?_
    refine yL ?_;refine yO ?_;refine yM ?_;refine yO ?_
    refine yF ?_;refine yO ?_;refine yL ?_;refine yO ?_
    refine yM ?_;refine yO ?_;refine yf ?_;refine yO ?_;refine yT ?_;refine yO ?_;refine yM ?_;refine yP ?_
    refine yP ?_;refine yP ?_;refine yP ?_;refine yO ?_;refine yU ?_;refine yU ?_;refine yM ?_;refine y3 ?_;refine wE_ret ?_
    exact endP_ret hr.log rfl rfl
end Go.A.Pk
end
section
set_option maxRecDepth 100000
namespace Go.A.Pk
variable {T:Nat→Option AFunc}
theorem V_bd{kerf W:Int}{ws:List Int}{kl:List Kd}(hk:0≤kerf)(hW:0≤W)(hws:∀x∈ws,0≤x∧x≤W)(x y:Nat):0≤V kerf ws kl ((x:Int),(y:Int))∧V kerf ws kl ((x:Int),(y:Int))≤W*((x:Int)*(y:Int)):=by
 refine⟨V_nonneg hk _,?_⟩
 have hU:Bd W (tabL kerf ws kl (boardsL x y)):=tabL_bd hW hk hws _ _ (fun x hx=>by have:=boards_of hx;omega) (fun e he=>by cases he)
 have h1:=look_bd ((x:Int),(y:Int)) hU
 rw[tab_V hk ((x:Int),(y:Int)) (fun _=>⟨Int.le_refl _,Int.le_refl _⟩)]at h1
 rcases h1 with h1|h1
 ·rw[h1];exact Int.mul_nonneg hW (Int.mul_nonneg (by omega) (by omega))
 ·exact h1.2.2.2
theorem a_max0{base:Nat}{h:Heap}{e:Env}{x y:Operand}{z:Int}{r:Nat}(hx:ev h e x=some (.int .i64 0))(hy:ev h e y=some (.int .i64 z))(hr:mx 0 z=r):aop h base e (.minmax true [x,y])=some (.val (.int .i64 (r:Int)) h):=by
 rw[←hr];exact a_max hx hy
structure Vt (q:Nat) (hA h':Heap) (f:Nat→Nat→Int):Prop where
 old:∀z,z<q→h'.get z=hA.get z
 obj:h'.get q=some (.cells (ints (grid f)) true 1)
 log:h'.log=[]
 wf:WF h'
 nx:q<h'.next
theorem Vt.wr{q:Nat}{hA h':Heap}{f:Nat→Nat→Int}(v:Vt q hA h' f){base a b:Nat}(z:Int)(hb:base≤q):Vt q hA (h'.wr base q (.cells (ints (grid (updF f a b z))) true 1)) (updF f a b z):=
 ⟨fun y hy=>(z5 (by omega)).trans (v.old y hy),Heap.get_wr_new v.obj,(Heap.log_wr_new hb).trans v.log,v.wf.as (AS.wr _ _ _ _),v.nx⟩
theorem Vt.congr{q:Nat}{hA h':Heap}{f g:Nat→Nat→Int}(v:Vt q hA h' f)(h:∀x y,x<17→y<17→f x y=g x y):Vt q hA h' g:=
 ⟨v.old,by rw[←grid_congr h];exact v.obj,v.log,v.wf,v.nx⟩
def doneF(g:Nat→Nat→Int)(a b x y:Nat):Int:=if x<a∨(x=a∧y<b)then g x y else 0
def Vf(kerf:Int)(ws:List Int)(kl:List Kd)(x y:Nat):Int:=V kerf ws kl ((x:Int),(y:Int))
theorem updF_self(f:Nat→Nat→Int)(a b:Nat)(z:Int):updF f a b z a b=z:=by unfold updF;rw[if_pos ⟨rfl,rfl⟩]
theorem updF_upd(f:Nat→Nat→Int)(a b:Nat)(z u:Int):updF (updF f a b z) a b u=updF f a b u:=by
 funext x y;unfold updF;split<;>rfl
theorem updF_left{g:Nat→Nat→Int}{a b n:Nat}(z:Int)(hn:n<a):updF (doneF g a b) a b z n b=g n b:=by
 unfold updF doneF;rw[if_neg (by omega),if_pos (by omega)]
theorem updF_up{g:Nat→Nat→Int}{a b n:Nat}(z:Int)(hn:n<b):updF (doneF g a b) a b z a n=g a n:=by
 unfold updF doneF;rw[if_neg (by omega),if_pos (by omega)]
theorem doneF_next{g:Nat→Nat→Int}{a b:Nat}:updF (doneF g a b) a b (g a b)=doneF g a (b+1):=by
 funext x y
 unfold updF doneF
 by_cases h:x=a∧y=b
 ·rw[if_pos h,if_pos (by omega),h.1,h.2]
 ·rw[if_neg h]
  by_cases h2:x<a∨(x=a∧y<b)
  ·rw[if_pos h2,if_pos (by omega)]
  ·rw[if_neg h2,if_neg (by omega)]
theorem leafM_kind{ws:List Int}{l:List Kd}{i a b:Nat}{k:Kd}(hk:l[i]? =some k)(m:Int):leafM ws (leavesL a b (l.take (i+1)) 0) m=if plankB k a b=true then mx (leafM ws (leavesL a b (l.take i) 0) m) (ws.getD i 0)else leafM ws (leavesL a b (l.take i) 0) m:=by
 rw[leaves_succ hk]
 unfold leafM
 rw[List.foldl_append]
 generalize List.foldl (fun m x=>mx m (ws.getD x.2 0)) m (leavesL a b (l.take i) 0)=u
 have hm:∀u w:Int,mx (mx u w) w=mx u w:=fun u w=>by
  unfold mx
  by_cases h:w>u
  ·rw[if_pos h,if_neg (by omega)]
  ·rw[if_neg h,if_neg h]
 unfold leafAt plankB
 by_cases h1:(a:Int)=k.w∧(b:Int)=k.h
 ·by_cases h2:k.turn=true∧(a:Int)=k.h∧(b:Int)=k.w
  ·rw[if_pos h1,if_pos h2,if_pos (by simp;omega)]
   show mx (mx u (ws.getD i 0)) (ws.getD i 0)=_
   exact hm _ _
  ·rw[if_pos h1,if_neg h2,if_pos (by simp;omega)];rfl
 ·by_cases h2:k.turn=true∧(a:Int)=k.h∧(b:Int)=k.w
  ·rw[if_neg h1,if_pos h2,if_pos (by simp only[decide_eq_true_eq];exact .inr ⟨h2.1,h2.2.1.symm,h2.2.2.symm⟩)];rfl
  ·rw[if_neg h1,if_neg h2,if_neg (by simp only[decide_eq_true_eq];rintro(q|q);exact h1 ⟨q.1.symm,q.2.symm⟩;exact h2 ⟨q.1,q.2.1.symm,q.2.2.symm⟩)];rfl
theorem foldM_row{f:Nat×Nat→Int}{c n:Nat}{m:Int}:foldM f (row c (n+1)) m=mx (foldM f (row c n) m) (f (c,n+1)):=by
 rw[row_succ];unfold foldM;rw[List.foldl_append];rfl
theorem cut_left{kerf:Int}{ws:List Int}{kl:List Kd}{a b n r:Nat}(hn:n≤a)(hr:mx 0 ((a:Int)-n-kerf)=r):V kerf ws kl (oneB (3,n) a b)+V kerf ws kl (twoB kerf (3,n) a b)=Vf kerf ws kl n b+Vf kerf ws kl r b:=by
 unfold oneB twoB Vf
 simp only[if_true]
 congr 1
 unfold mx at hr
 split at hr
 ·rw[hr]
 ·rw[V_out (by simp;omega),V_out (by simp;omega)]
theorem cut_up{kerf:Int}{ws:List Int}{kl:List Kd}{a b n r:Nat}(hn:n≤b)(hr:mx 0 ((b:Int)-n-kerf)=r):V kerf ws kl (oneB (4,n) a b)+V kerf ws kl (twoB kerf (4,n) a b)=Vf kerf ws kl a n+Vf kerf ws kl a r:=by
 unfold oneB twoB Vf
 simp only[show¬ (4:Nat)=3 by omega,if_false]
 congr 1
 unfold mx at hr
 split at hr
 ·rw[hr]
 ·rw[V_out (by simp;omega),V_out (by simp;omega)]
theorem ws_at{l:List Kd}{i:Nat}{k:Kd}(h:l[i]? =some k):(wsOf l).getD i 0=k.worth:=by simp[wsOf,List.getD,h]
structure FnsRB (T:Nat→Option AFunc):Prop where
 p:primAS T
 f93:T 93=some f93
 f112:T 112=some f112
theorem scalL_ints:∀xs:List Int,scalL (ints xs)=true
 |[]=>rfl
 |x::xs=>scalL_ints xs
theorem ones_ints:∀xs:List Int,ones (ints xs)=true
 |[]=>rfl
 |x::xs=>ones_ints xs
set_option maxHeartbeats 16000000 in
theorem rbest93(F:FnsRB T){h:Heap}(hr:Rdy h){a0:Option Addr}{n c:Nat}{l:List Kd}{kerf W:Int}(hs:SliceOf h 5 (.slice a0 n c) n (kcs l))(hn:n<1000)(hk:0≤kerf∧kerf≤100)(hW:0≤W∧W≤1000000000)(hws:∀x∈wsOf l,0≤x∧x≤W):
 Pu T 93 [.agg #[.slice a0 n c, .int .i64 kerf]] h (.agg (ints (grid (Vf kerf (wsOf l) l))).toArray):=by
 refine .of F.p F.f93 hr (scalL_ints _) ?_
 obtain rfl:n=l.length:=by have:=hs.len;rw[kcs_length]at this;omega
 have hVb:∀x y:Nat,x≤16→y≤16→0≤Vf kerf (wsOf l) l x y∧Vf kerf (wsOf l) l x y≤256000000000:=fun x y hx hy=>by
  have h1:=V_bd (kl:=l) hk.1 hW.1 hws x y
  have h2:=area_mono (W:=W) (a:=x) (b:=y) (c:=16) (d:=16) hW.1 (by omega) (by omega) (by omega) (by omega)
  unfold Vf
  refine⟨h1.1,?_⟩
  omega
 generalize hG:Vf kerf (wsOf l) l=G at*
 refine y4 ?_;refine yB ?_;refine wO_val a_new ?_;refine y3 ?_;refine y4 ?_;refine wO_val a_new ?_;refine y3 ?_;refine wE_seq ?_;refine y4 ?_;refine yM ?_;refine y3 ?_;refine wE_block ?_
 refine WE.gen ?_
 intro hA hAe
 have A1:hA.get h.next=some (.cells [.slice a0 l.length c, .int .i64 kerf] true 1):=by rw[hAe];(simp(disch:=first|omega|(simp only[z1,z2];omega))only[z3,z4,z5,z6,z7,z1,z2, *];exact rfl)
 have A2:hA.get (h.next+1)=some (.cells (ints (grid fun _ _=>0)) true 1):=by rw[hAe,←grid_zero];(simp(disch:=first|omega|(simp only[z1,z2];omega)|(simp only[z1,z2];done)|fail)only[z8,z4,z5,z9,z7,z1,z2, *];done)
 have A3:hA.get (h.next+2)=some (.cells (ints (grid fun _ _=>0)) true 1):=by rw[hAe,←grid_zero];(simp(disch:=first|omega|(simp only[z1,z2];omega)|(simp only[z1,z2];done)|fail)only[z8,z4,z5,z9,z7,z1,z2, *];done)
 have A0:∀z,z<h.next→hA.get z=h.get z:=fun z hz=>by rw[hAe];simp(disch:=first|omega|(simp only[z1,z2];omega))only[z5,z4]
 have A5:hA.next=h.next+3:=by rw[hAe];rfl
 have A6:hA.log=[]:=by rw[hAe];exact hr.log
 have A7:WF hA:=by rw[hAe];exact((hr.wf.push _).push _).push _
 clear hAe
 refine wE_loop (fun m e ds h'=>∃a:Nat,1≤a∧a≤17∧m=17-a∧e=[(1, .pointer (some ⟨h.next,0,none⟩)),(2, .pointer (some ⟨h.next+1,0,none⟩)),(3, .pointer (some ⟨h.next+2,0,none⟩)),(4, .int .i64 a)]∧ds=[]∧Vt (h.next+2) hA h' (doneF G a 1))
  ⟨1,by omega,by omega,rfl,rfl,rfl,⟨fun _ _=>rfl,by rw[A3];refine congrArg (fun q=>some (AObj.cells (ints q) true 1)) (grid_congr fun x y hx hy=> ?_);unfold doneF;split;rw[←hG];unfold Vf;rw[V_out (by simp;omega)];rfl,A6,A7,by omega⟩⟩ ?_
 rintro m e ds h4 ⟨a,ha1,ha2,rfl,rfl,rfl,w4⟩
 by_cases hlt4:a<17
 ·refine wE_seq ?_;refine y4 ?_;refine yM ?_;refine yt ?_;refine y3 ?_;refine yY ?_;refine wE_skip ?_;refine kS_n ?_
  refine wE_seq ?_;refine wE_block ?_;refine y4 ?_;refine yM ?_;refine y3 ?_;refine wE_block ?_
  refine wE_loop (fun m e ds h'=>∃b:Nat,1≤b∧b≤17∧m=17-b∧e=[(1, .pointer (some ⟨h.next,0,none⟩)),(2, .pointer (some ⟨h.next+1,0,none⟩)),(3, .pointer (some ⟨h.next+2,0,none⟩)),(4, .int .i64 a),(5, .int .i64 b)]∧ds=[]∧Vt (h.next+2) hA h' (doneF G a b))
   ⟨1,by omega,by omega,rfl,rfl,rfl,w4⟩ ?_
  rintro m e ds h5 ⟨b,hb1,hb2,rfl,rfl,rfl,w5⟩
  by_cases hlt5:b<17
  ·refine wE_seq ?_;refine y4 ?_;refine yM ?_;refine yt ?_;refine y3 ?_;refine yY ?_;refine wE_skip ?_;refine kS_n ?_
   refine wE_seq ?_;refine wE_block ?_;refine wE_seq ?_;refine y4 ?_;refine yM ?_;refine y3 ?_;refine wE_block ?_
   refine wE_loop (fun m e ds h'=>∃i:Nat,i≤l.length∧m=l.length-i∧e=[(1, .pointer (some ⟨h.next,0,none⟩)),(2, .pointer (some ⟨h.next+1,0,none⟩)),(3, .pointer (some ⟨h.next+2,0,none⟩)),(4, .int .i64 a),(5, .int .i64 b),(6, .int .i64 i)]∧ds=[]∧Vt (h.next+2) hA h' (updF (doneF G a b) a b (leafM (wsOf l) (leavesL a b (l.take i) 0) 0)))
    ⟨0,by omega,rfl,rfl,rfl,w5.congr fun x y _ _=>by
     unfold updF doneF
     by_cases q:x=a∧y=b
     ·rw[if_pos q,if_neg (by omega)];rfl
     ·rw[if_neg q]⟩ ?_
   rintro m e ds h6 ⟨i,hin,rfl,rfl,rfl,w6⟩
   have g3:=w6.obj
   have g1:=(w6.old h.next (by omega)).trans A1
   have k3:=w6.nx
   by_cases hlt6:i<l.length
   ·obtain⟨x,hxl⟩:∃x,l[i]? =some x:=⟨l[i],List.getElem?_eq_getElem hlt6⟩
    have hstep:=leafM_kind (ws:=wsOf l) (a:=a) (b:=b) hxl 0
    rw[ws_at hxl]at hstep
    rcases hs.inv with⟨_,_,h0,_⟩|⟨b0,o0,cap,hv,sl,hcap⟩
    ·omega
    cases hv
    obtain⟨vs,own,t0,g5,g6⟩:=slice_elem sl hxl
    have kb0:=WF.get_lt hr.wf g5
    have gs:=(w6.old b0 (by omega)).trans ((A0 b0 kb0).trans g5)
    have e3:lget vs (o0+i*5+3)=some (.int .i64 x.worth):=elem_get g6 3 (by omega)
    have c1:=grid_get (f:=updF (doneF G a b) a b (leafM (wsOf l) (leavesL a b (l.take i) 0) 0)) (a:=a) (b:=b) (by omega) (by omega)
    rw[updF_self]at c1
    generalize hP:leafM (wsOf l) (leavesL a b (l.take i) 0) 0=P at*
    refine wE_seq ?_;refine y4 ?_;refine yM ?_;refine yF ?_;refine yL ?_;refine yD ?_;refine yt ?_;refine y3 ?_;refine yY ?_;refine wE_skip ?_;refine kS_n ?_;refine wE_seq ?_;refine wE_block ?_;refine y4 ?_;refine yF ?_;refine yL ?_
    refine yM ?_;refine wO_val (a_iaddrS (by exact rfl) (by exact rfl) (by omega)) ?_
    refine wO_val (a_loadN (by exact rfl) gs g6 (by exact rfl)) ?_
    refine yM ?_;refine yM ?_
    refine yC ?_
    refine FW.pu (plank112 F.p F.f112 (.of w6.wf) x a b) ?_
    cases hpl:plankB x a b with
    |true=>
     rw[hpl,if_pos rfl]at hstep
     refine y3 ?_;refine yY ?_;refine wE_draw ?_;refine qM ?_;refine qM ?_
     refine qM ?_;refine qM ?_;refine wD_quiet rfl rfl rfl (by exact rfl) (by exact rfl) (by exact rfl) (a_iaddrA (by exact rfl) (by exact rfl) (by omega)) ?_
     refine wD_quiet rfl rfl rfl (by exact rfl) (by exact rfl) (by exact rfl) (a_iaddrA (by exact rfl) (by exact rfl) (by omega)) ?_;refine wD_quiet rfl rfl rfl (by exact rfl) (by exact rfl) (by exact rfl) (a_load (by exact rfl) (by assumption) (by assumption)) ?_;refine qF ?_
     refine qL ?_;refine qM ?_;refine wD_quiet rfl rfl rfl (by exact rfl) (by exact rfl) (by exact rfl) (a_iaddrS (by exact rfl) (by exact rfl) (by omega)) ?_
     refine qF ?_;refine wD_quiet rfl rfl rfl (by exact rfl) (by exact rfl) (by exact rfl) (a_load (by exact rfl) (by assumption) (by assumption)) ?_
     refine wD_quiet rfl rfl rfl (by exact rfl) (by exact rfl) (by exact rfl) (a_max (by exact rfl) (by exact rfl)) ?_
     refine wD_quiet rfl rfl rfl (by exact rfl) (by exact rfl) (by exact rfl) (a_iaddrA (by exact rfl) (by exact rfl) (by omega)) ?_;refine wD_quiet rfl rfl rfl (by exact rfl) (by exact rfl) (by exact rfl) (a_iaddrA (by exact rfl) (by exact rfl) (by omega)) ?_
     refine wD_store (ws:=ints (grid (updF (updF (doneF G a b) a b P) a b (mx P x.worth)))) rfl rfl rfl (by exact rfl) (by exact rfl) (by exact rfl) (by assumption) (grid_st (by omega) (by omega)) (grid_put (by omega) _) (by omega) (by omega) (by apply ra_dropC rfl;apply ra_dropC rfl;apply ra_dropC rfl;apply ra_dropC rfl;apply ra_dropC rfl;apply ra_dropC rfl;apply ra_dropC rfl;apply ra_dropC rfl;apply ra_dropC rfl;apply ra_dropC rfl;apply ra_dropC rfl;apply ra_dropC rfl;apply ra_dropC rfl;apply ra_dropC rfl;apply ra_dropC rfl;apply ra_dropC rfl;exact ra_nil) ?_
     refine wD_nil ?_;refine y1 ?_;refine kB_n ?_;refine kS_n ?_;refine wE_region ?_;refine yM ?_;refine yinc ?_;refine yM ?_;refine y3 ?_
     refine⟨l.length-(i+1),by omega,i+1,by omega,rfl,rfl,rfl,?_⟩
     have:=w6.wr (base:=h.next) (a:=a) (b:=b) (mx P x.worth) (by omega)
     rw[hstep]
     rw[updF_upd]at this⊢
     exact this
    |false=>
     rw[hpl,if_neg Bool.false_ne_true]at hstep
     refine y3 ?_;refine yX ?_;refine wE_skip ?_;refine kB_n ?_;refine kS_n ?_;refine wE_region ?_;refine yM ?_;refine yinc ?_
     refine yM ?_;refine y3 ?_
     refine⟨l.length-(i+1),by omega,i+1,by omega,rfl,rfl,rfl,?_⟩
     rw[hstep]
     exact w6
   ·obtain rfl:i=l.length:=by omega
    rw[List.take_of_length_le (Nat.le_refl _)]at w6
    generalize hM0:leafM (wsOf l) (leavesL a b l 0) 0=M0 at*
    have v7:=w6
    refine wE_seq ?_;refine y4 ?_;refine yM ?_;refine yF ?_;refine yL ?_;refine yD ?_;refine yf ?_;refine y3 ?_;refine yX ?_;refine wE_exit ?_;refine kS_e ?_;refine kS_e ?_;refine kB_e ?_;refine kS_n ?_;refine wE_seq ?_;refine y4 ?_;refine yM ?_;refine y3 ?_;refine wE_block ?_
    refine wE_loop (fun m e ds h'=>∃n:Nat,n+1≤a∧m=a-n∧e=[(1, .pointer (some ⟨h.next,0,none⟩)),(2, .pointer (some ⟨h.next+1,0,none⟩)),(3, .pointer (some ⟨h.next+2,0,none⟩)),(4, .int .i64 a),(5, .int .i64 b),(7, .int .i64 (n+1:Nat))]∧ds=[]∧Vt (h.next+2) hA h' (updF (doneF G a b) a b (foldM (fun x=>V kerf (wsOf l) l (oneB x a b)+V kerf (wsOf l) l (twoB kerf x a b)) (row 3 n) M0)))
     ⟨0,by omega,rfl,rfl,rfl,by simpa[row,foldM]using v7⟩ ?_
    rintro m e ds h7 ⟨n,hn2,rfl,rfl,rfl,w7⟩
    have g3:=w7.obj
    have g1:=(w7.old h.next (by omega)).trans A1
    have k3:=w7.nx
    by_cases hlt7:n+1<a
    ·obtain⟨r,hr1⟩:∃r:Nat,mx 0 ((a:Int)-(n+1:Nat)-kerf)=r:=by
      have:0≤mx 0 ((a:Int)-(n+1:Nat)-kerf):=mx_ge.1
      exact⟨_,(Int.toNat_of_nonneg this).symm⟩
     have hrl:r<a:=by unfold mx at hr1;split at hr1<;>omega
     have c1:=grid_get (f:=updF (doneF G a b) a b (foldM (fun x=>V kerf (wsOf l) l (oneB x a b)+V kerf (wsOf l) l (twoB kerf x a b)) (row 3 n) M0)) (a:=a) (b:=b) (by omega) (by omega)
     have c2:=grid_get (f:=updF (doneF G a b) a b (foldM (fun x=>V kerf (wsOf l) l (oneB x a b)+V kerf (wsOf l) l (twoB kerf x a b)) (row 3 n) M0)) (a:=n+1) (b:=b) (by omega) (by omega)
     have c3:=grid_get (f:=updF (doneF G a b) a b (foldM (fun x=>V kerf (wsOf l) l (oneB x a b)+V kerf (wsOf l) l (twoB kerf x a b)) (row 3 n) M0)) (a:=r) (b:=b) (by omega) (by omega)
     rw[updF_self]at c1
     rw[updF_left _ (by omega)]at c2 c3
     have hcut:=cut_left (ws:=wsOf l) (kl:=l) (a:=a) (b:=b) (n:=n+1) (r:=r) (kerf:=kerf) (by omega) hr1
     rw[hG]at hcut
     have hb2:=hVb (n+1) b (by omega) (by omega)
     have hb3:=hVb r b (by omega) (by omega)
     have hnext:mx (foldM (fun x=>V kerf (wsOf l) l (oneB x a b)+V kerf (wsOf l) l (twoB kerf x a b)) (row 3 n) M0) (G (n+1) b+G r b)=(foldM (fun x=>V kerf (wsOf l) l (oneB x a b)+V kerf (wsOf l) l (twoB kerf x a b)) (row 3 (n+1)) M0):=by rw[foldM_row,hcut]
     generalize hP:(foldM (fun x=>V kerf (wsOf l) l (oneB x a b)+V kerf (wsOf l) l (twoB kerf x a b)) (row 3 n) M0)=P at*
     refine wE_seq ?_;refine y4 ?_;refine yM ?_;refine yM ?_;refine yt ?_;refine y3 ?_;refine yY ?_
     refine wE_skip ?_;refine kS_n ?_;refine wE_seq ?_;refine wE_block ?_;refine wE_draw ?_;refine qM ?_;refine qM ?_;refine qM ?_
     refine qM ?_;refine wD_quiet rfl rfl rfl (by exact rfl) (by exact rfl) (by exact rfl) (a_iaddrA (by exact rfl) (by exact rfl) (by omega)) ?_;refine wD_quiet rfl rfl rfl (by exact rfl) (by exact rfl) (by exact rfl) (a_iaddrA (by exact rfl) (by exact rfl) (by omega)) ?_
     refine wD_quiet rfl rfl rfl (by exact rfl) (by exact rfl) (by exact rfl) (a_load (by exact rfl) (by assumption) (by assumption)) ?_;refine qM ?_;refine qM ?_
     refine wD_quiet rfl rfl rfl (by exact rfl) (by exact rfl) (by exact rfl) (a_iaddrA (by exact rfl) (by exact rfl) (by omega)) ?_;refine wD_quiet rfl rfl rfl (by exact rfl) (by exact rfl) (by exact rfl) (a_iaddrA (by exact rfl) (by exact rfl) (by omega)) ?_;refine wD_quiet rfl rfl rfl (by exact rfl) (by exact rfl) (by exact rfl) (a_load (by exact rfl) (by assumption) (by assumption)) ?_
     refine qM ?_;refine qM ?_;refine wD_quiet rfl rfl rfl (by exact rfl) (by exact rfl) (by exact rfl) (a_num (by exact rfl) (by exact rfl) (by exact m_sub (wrapA_i64 (by omega) (by omega)))) ?_
     refine qF ?_;refine qL ?_;refine wD_quiet rfl rfl rfl (by exact rfl) (by exact rfl) (by exact rfl) (a_num (by exact rfl) (by exact rfl) (by exact m_sub (wrapA_i64 (by omega) (by omega)))) ?_
     refine wD_quiet rfl rfl rfl (by exact rfl) (by exact rfl) (by exact rfl) (a_max0 (by exact rfl) (by exact rfl) hr1) ?_
     refine qM ?_;refine wD_quiet rfl rfl rfl (by exact rfl) (by exact rfl) (by exact rfl) (a_iaddrA (by exact rfl) (by exact rfl) (by omega)) ?_;refine wD_quiet rfl rfl rfl (by exact rfl) (by exact rfl) (by exact rfl) (a_iaddrA (by exact rfl) (by exact rfl) (by omega)) ?_
     refine wD_quiet rfl rfl rfl (by exact rfl) (by exact rfl) (by exact rfl) (a_load (by exact rfl) (by assumption) (by assumption)) ?_;refine wD_quiet rfl rfl rfl (by exact rfl) (by exact rfl) (by exact rfl) (a_num (by exact rfl) (by exact rfl) (by exact m_add (wrapA_i64 (by omega) (by omega)))) ?_
     refine wD_quiet rfl rfl rfl (by exact rfl) (by exact rfl) (by exact rfl) (a_max (by exact rfl) (by exact rfl)) ?_
     refine wD_quiet rfl rfl rfl (by exact rfl) (by exact rfl) (by exact rfl) (a_iaddrA (by exact rfl) (by exact rfl) (by omega)) ?_;refine wD_quiet rfl rfl rfl (by exact rfl) (by exact rfl) (by exact rfl) (a_iaddrA (by exact rfl) (by exact rfl) (by omega)) ?_
     refine wD_store (ws:=ints (grid (updF (updF (doneF G a b) a b P) a b (mx P (G (n+1) b+G r b))))) rfl rfl rfl (by exact rfl) (by exact rfl) (by exact rfl) (by assumption) (grid_st (by omega) (by omega)) (grid_put (by omega) _) (by omega) (by omega) (by apply ra_dropC rfl;apply ra_dropC rfl;apply ra_dropC rfl;apply ra_dropC rfl;apply ra_dropC rfl;apply ra_dropC rfl;apply ra_dropC rfl;apply ra_dropC rfl;apply ra_dropC rfl;apply ra_dropC rfl;apply ra_dropC rfl;apply ra_dropC rfl;apply ra_dropC rfl;apply ra_dropC rfl;apply ra_dropC rfl;apply ra_dropC rfl;apply ra_dropC rfl;apply ra_dropC rfl;apply ra_dropC rfl;apply ra_dropC rfl;apply ra_dropC rfl;apply ra_dropC rfl;apply ra_dropC rfl;apply ra_dropC rfl;apply ra_dropC rfl;apply ra_dropC rfl;apply ra_dropC rfl;exact ra_nil) ?_
     refine wD_nil ?_;refine y1 ?_;refine kB_n ?_;refine kS_n ?_;refine wE_region ?_;refine yM ?_;refine yinc ?_;refine yM ?_;refine y3 ?_
     refine⟨a-(n+1),by omega,n+1,by omega,rfl,rfl,rfl,?_⟩
     have:=w7.wr (base:=h.next) (a:=a) (b:=b) (mx P (G (n+1) b+G r b)) (by omega)
     rw[←hnext]
     rw[updF_upd]at this⊢
     exact this
    ·obtain rfl:n=a-1:=by omega
     generalize hM1:foldM (fun x=>V kerf (wsOf l) l (oneB x a b)+V kerf (wsOf l) l (twoB kerf x a b)) (row 3 (a-1)) M0=M1 at*
     have v8:=w7
     refine wE_seq ?_;refine y4 ?_;refine yM ?_;refine yM ?_;refine yf ?_;refine y3 ?_;refine yX ?_
     refine wE_exit ?_;refine kS_e ?_;refine kS_e ?_;refine kB_e ?_;refine kS_n ?_;refine y4 ?_;refine yM ?_;refine y3 ?_;refine wE_block ?_
     refine wE_loop (fun m e ds h'=>∃n:Nat,n+1≤b∧m=b-n∧e=[(1, .pointer (some ⟨h.next,0,none⟩)),(2, .pointer (some ⟨h.next+1,0,none⟩)),(3, .pointer (some ⟨h.next+2,0,none⟩)),(4, .int .i64 a),(5, .int .i64 b),(8, .int .i64 (n+1:Nat))]∧ds=[]∧Vt (h.next+2) hA h' (updF (doneF G a b) a b (foldM (fun x=>V kerf (wsOf l) l (oneB x a b)+V kerf (wsOf l) l (twoB kerf x a b)) (row 4 n) M1)))
      ⟨0,by omega,rfl,rfl,rfl,by simpa[row,foldM]using v8⟩ ?_
     rintro m e ds h8 ⟨n,hn2,rfl,rfl,rfl,w8⟩
     have g3:=w8.obj
     have g1:=(w8.old h.next (by omega)).trans A1
     have k3:=w8.nx
     by_cases hlt8:n+1<b
     ·obtain⟨r,hr1⟩:∃r:Nat,mx 0 ((b:Int)-(n+1:Nat)-kerf)=r:=by
       have:0≤mx 0 ((b:Int)-(n+1:Nat)-kerf):=mx_ge.1
       exact⟨_,(Int.toNat_of_nonneg this).symm⟩
      have hrl:r<b:=by unfold mx at hr1;split at hr1<;>omega
      have c1:=grid_get (f:=updF (doneF G a b) a b (foldM (fun x=>V kerf (wsOf l) l (oneB x a b)+V kerf (wsOf l) l (twoB kerf x a b)) (row 4 n) M1)) (a:=a) (b:=b) (by omega) (by omega)
      have c2:=grid_get (f:=updF (doneF G a b) a b (foldM (fun x=>V kerf (wsOf l) l (oneB x a b)+V kerf (wsOf l) l (twoB kerf x a b)) (row 4 n) M1)) (a:=a) (b:=n+1) (by omega) (by omega)
      have c3:=grid_get (f:=updF (doneF G a b) a b (foldM (fun x=>V kerf (wsOf l) l (oneB x a b)+V kerf (wsOf l) l (twoB kerf x a b)) (row 4 n) M1)) (a:=a) (b:=r) (by omega) (by omega)
      rw[updF_self]at c1
      rw[updF_up _ (by omega)]at c2 c3
      have hcut:=cut_up (ws:=wsOf l) (kl:=l) (a:=a) (b:=b) (n:=n+1) (r:=r) (kerf:=kerf) (by omega) hr1
      rw[hG]at hcut
      have hb2:=hVb a (n+1) (by omega) (by omega)
      have hb3:=hVb a r (by omega) (by omega)
      have hnext:mx (foldM (fun x=>V kerf (wsOf l) l (oneB x a b)+V kerf (wsOf l) l (twoB kerf x a b)) (row 4 n) M1) (G a (n+1)+G a r)=(foldM (fun x=>V kerf (wsOf l) l (oneB x a b)+V kerf (wsOf l) l (twoB kerf x a b)) (row 4 (n+1)) M1):=by rw[foldM_row,hcut]
      generalize hP:(foldM (fun x=>V kerf (wsOf l) l (oneB x a b)+V kerf (wsOf l) l (twoB kerf x a b)) (row 4 n) M1)=P at*
      refine wE_seq ?_;refine y4 ?_;refine yM ?_;refine yM ?_;refine yt ?_;refine y3 ?_;refine yY ?_
      refine wE_skip ?_;refine kS_n ?_;refine wE_seq ?_;refine wE_block ?_;refine wE_draw ?_;refine qM ?_;refine qM ?_;refine qM ?_
      refine qM ?_;refine wD_quiet rfl rfl rfl (by exact rfl) (by exact rfl) (by exact rfl) (a_iaddrA (by exact rfl) (by exact rfl) (by omega)) ?_;refine wD_quiet rfl rfl rfl (by exact rfl) (by exact rfl) (by exact rfl) (a_iaddrA (by exact rfl) (by exact rfl) (by omega)) ?_
      refine wD_quiet rfl rfl rfl (by exact rfl) (by exact rfl) (by exact rfl) (a_load (by exact rfl) (by assumption) (by assumption)) ?_;refine qM ?_;refine qM ?_
      refine wD_quiet rfl rfl rfl (by exact rfl) (by exact rfl) (by exact rfl) (a_iaddrA (by exact rfl) (by exact rfl) (by omega)) ?_;refine wD_quiet rfl rfl rfl (by exact rfl) (by exact rfl) (by exact rfl) (a_iaddrA (by exact rfl) (by exact rfl) (by omega)) ?_;refine wD_quiet rfl rfl rfl (by exact rfl) (by exact rfl) (by exact rfl) (a_load (by exact rfl) (by assumption) (by assumption)) ?_
      refine qM ?_;refine qM ?_;refine qM ?_
      refine wD_quiet rfl rfl rfl (by exact rfl) (by exact rfl) (by exact rfl) (a_num (by exact rfl) (by exact rfl) (by exact m_sub (wrapA_i64 (by omega) (by omega)))) ?_;refine qF ?_;refine qL ?_
      refine wD_quiet rfl rfl rfl (by exact rfl) (by exact rfl) (by exact rfl) (a_num (by exact rfl) (by exact rfl) (by exact m_sub (wrapA_i64 (by omega) (by omega)))) ?_
      refine wD_quiet rfl rfl rfl (by exact rfl) (by exact rfl) (by exact rfl) (a_max0 (by exact rfl) (by exact rfl) hr1) ?_
      refine wD_quiet rfl rfl rfl (by exact rfl) (by exact rfl) (by exact rfl) (a_iaddrA (by exact rfl) (by exact rfl) (by omega)) ?_;refine wD_quiet rfl rfl rfl (by exact rfl) (by exact rfl) (by exact rfl) (a_iaddrA (by exact rfl) (by exact rfl) (by omega)) ?_;refine wD_quiet rfl rfl rfl (by exact rfl) (by exact rfl) (by exact rfl) (a_load (by exact rfl) (by assumption) (by assumption)) ?_
      refine wD_quiet rfl rfl rfl (by exact rfl) (by exact rfl) (by exact rfl) (a_num (by exact rfl) (by exact rfl) (by exact m_add (wrapA_i64 (by omega) (by omega)))) ?_
      refine wD_quiet rfl rfl rfl (by exact rfl) (by exact rfl) (by exact rfl) (a_max (by exact rfl) (by exact rfl)) ?_
      refine wD_quiet rfl rfl rfl (by exact rfl) (by exact rfl) (by exact rfl) (a_iaddrA (by exact rfl) (by exact rfl) (by omega)) ?_;refine wD_quiet rfl rfl rfl (by exact rfl) (by exact rfl) (by exact rfl) (a_iaddrA (by exact rfl) (by exact rfl) (by omega)) ?_
      refine wD_store (ws:=ints (grid (updF (updF (doneF G a b) a b P) a b (mx P (G a (n+1)+G a r))))) rfl rfl rfl (by exact rfl) (by exact rfl) (by exact rfl) (by assumption) (grid_st (by omega) (by omega)) (grid_put (by omega) _) (by omega) (by omega) (by apply ra_dropC rfl;apply ra_dropC rfl;apply ra_dropC rfl;apply ra_dropC rfl;apply ra_dropC rfl;apply ra_dropC rfl;apply ra_dropC rfl;apply ra_dropC rfl;apply ra_dropC rfl;apply ra_dropC rfl;apply ra_dropC rfl;apply ra_dropC rfl;apply ra_dropC rfl;apply ra_dropC rfl;apply ra_dropC rfl;apply ra_dropC rfl;apply ra_dropC rfl;apply ra_dropC rfl;apply ra_dropC rfl;apply ra_dropC rfl;apply ra_dropC rfl;apply ra_dropC rfl;apply ra_dropC rfl;apply ra_dropC rfl;apply ra_dropC rfl;apply ra_dropC rfl;apply ra_dropC rfl;exact ra_nil) ?_
      refine wD_nil ?_;refine y1 ?_;refine kB_n ?_;refine kS_n ?_;refine wE_region ?_;refine yM ?_;refine yinc ?_;refine yM ?_;refine y3 ?_
      refine⟨b-(n+1),by omega,n+1,by omega,rfl,rfl,rfl,?_⟩
      have:=w8.wr (base:=h.next) (a:=a) (b:=b) (mx P (G a (n+1)+G a r)) (by omega)
      rw[←hnext]
      rw[updF_upd]at this⊢
      exact this
     ·obtain rfl:n=b-1:=by omega
      have hval:foldM (fun x=>V kerf (wsOf l) l (oneB x a b)+V kerf (wsOf l) l (twoB kerf x a b)) (row 4 (b-1)) M1=G a b:=by
       rw[←hG]
       unfold Vf
       rw[V_eq hk.1 ha1 hb1,hM0,←hM1]
       unfold cutsL foldM
       rw[List.foldl_append]
      rw[hval,doneF_next]at w8
      refine wE_seq ?_;refine y4 ?_;refine yM ?_;refine yM ?_;refine yf ?_;refine y3 ?_;refine yX ?_
      refine wE_exit ?_;refine kS_e ?_;refine kS_e ?_;refine kB_e ?_;refine kB_n ?_;refine kS_n ?_;refine wE_region ?_;refine yM ?_;refine yinc ?_;refine yM ?_;refine y3 ?_
      exact⟨17-(b+1),by omega,b+1,by omega,by omega,rfl,rfl,rfl,w8⟩
  ·obtain rfl:b=17:=by omega
   refine wE_seq ?_;refine y4 ?_;refine yM ?_;refine yf ?_;refine y3 ?_;refine yX ?_;refine wE_exit ?_;refine kS_e ?_
   refine kS_e ?_;refine kB_e ?_;refine kB_n ?_;refine kS_n ?_;refine wE_region ?_;refine yM ?_;refine yinc ?_;refine yM ?_;refine y3 ?_
   refine⟨17-(a+1),by omega,a+1,by omega,by omega,rfl,rfl,rfl,w5.congr fun x y hx hy=> ?_⟩
   unfold doneF
   by_cases hq:x<a∨(x=a∧y<17)
   ·rw[if_pos hq,if_pos (by omega)]
   ·rw[if_neg hq]
    split
    ·rename_i hq2
     rw[←hG];unfold Vf
     rw[V_out (by simp;omega)]
    ·rfl
 ·obtain rfl:a=17:=by omega
  have hfin:grid (doneF G 17 1)=grid G:=grid_congr fun x y hx hy=>by unfold doneF;rw[if_pos (by omega)]
  have hl:(ints (grid G)).length=289:=by rw[ints_len,grid_len]
  have hl0:(ints (grid fun _ _=>0)).length=289:=by rw[ints_len,grid_len]
  have eA:ltake 289 (ldrop 0 (ints (grid G)))=ints (grid G):=by rw[ltake_eq,ldrop_eq,List.drop_zero,List.take_of_length_le (by omega)]
  have eB:lputs (ints (grid fun _ _=>0)) 0 (ints (grid G))=ints (grid G):=by
   rw[lputs_mid (by omega),List.take_zero,List.nil_append,Nat.zero_add,hl,List.drop_of_length_le (by omega),List.append_nil]
  have eC:ones (ints (grid G))=true:=ones_ints _
  have wo:=w4.obj
  rw[hfin]at wo
  have wl:=w4.log
  have g2:=(w4.old (h.next+1) (by omega)).trans A2
  have hz:PLift (h4.get (h.next+2)=some (.cells (ints (grid G)) true 1)∧h4.get (h.next+1)=some (.cells (ints (grid fun _ _=>0)) true 1)):=⟨⟨wo,g2⟩⟩
  clear wo g2 w4 A1 A2 A3
  generalize ints (grid G)=XS at*
  generalize ints (grid fun _ _=>0)=ZS at*
  refine wE_seq ?_;refine y4 ?_;refine yM ?_;refine yf ?_;refine y3 ?_;refine yX ?_;refine wE_exit ?_;refine kS_e ?_
  refine kS_e ?_;refine kB_e ?_;refine kS_n ?_;refine y4 ?_
  refine wO_val (a_loadN (l:=XS) (by exact rfl) hz.down.1 eA (by rw[llen_eq,hl];rfl)) ?_
  refine wO_val (a_store (ws:=XS) (by exact rfl) (by exact rfl) hz.down.2 (by simp[cellsOf,llen_eq,hl,hl0,eC]) (by show lputs ZS 0 XS=XS;exact eB)) ?_
  refine y3 ?_;refine wE_ret ?_
  exact endP_ret ((Heap.log_wr_new (by omega)).trans wl) (res_cells (b:=h.next+1) (l:=XS) (by exact rfl) (Heap.get_wr_new hz.down.2) eA (by rw[llen_eq,hl];rfl) res_nil) rfl
end Go.A.Pk
end
section
set_option maxRecDepth 100000
namespace Go.A.Pk
variable {T:Nat→Option AFunc}
theorem lputs_all{Z X:List Value}(h:X.length=Z.length):lputs Z 0 X=X:=by
 rw[lputs_mid (by omega),List.take_zero,List.nil_append,Nat.zero_add,List.drop_of_length_le (by omega),List.append_nil]
theorem st_all{Z X:List Value}(hx:X.length=289)(hz:Z.length=289)(ho:ones X=true):(Nat.beq (llen (cellsOf (.agg X.toArray))) 289&&Nat.ble (0+289) (llen Z)&&ones (cellsOf (.agg X.toArray)))=true:=by
 simp[cellsOf,llen_eq,hx,hz,ho]
theorem rep_len:(lrep 289 (Value.int .i64 0)).length=289:=by rw[grid_zero,ints_len,grid_len]
structure FnsRW (T:Nat→Option AFunc):Prop extends FnsRB T where
 f100:T 100=some f100
end Go.A.Pk
end
section
set_option maxRecDepth 100000
namespace Go.A.Pk
variable {T:Nat→Option AFunc}
structure FnsRC (T:Nat→Option AFunc):Prop extends FnsRW T,FnsD T where
 f33:T 33=some f33
 f41:T 41=some f41
 f101:T 101=some f101
set_option maxHeartbeats 8000000 in
theorem rbest33(F:FnsRC T){h:Heap}(hr:Rdy h){a:Option Addr}{n c:Nat}{l:List Kd}(hs:SliceOf h 5 (.slice a n c) n (kcs l))(kerf:Int)(hn:n<1000000)(w ht:Int):Pu T 33 [.agg #[.slice a n c, .int .i64 kerf], .int .i64 w, .int .i64 ht] h (bestR kerf l w ht):=by
 refine .of F.toFnsRW.p F.f33 hr rfl ?_
 have hx:Ext h (h.push (.cells [.slice a n c, .int .i64 kerf] true 1)):=(Ext.refl h).push _
 obtain rfl:n=l.length:=by have:=hs.len;rw[kcs_length]at this;omega
 have C1:=asked79 F.toFnsD (.of (hx.wf hr.wf)) ((hs.ext hx).log []) kerf w ht hn
 change Pu T 79 _ _ (.int .i64 (asked kerf l (OnB w ht)))at C1
 refine y4 ?_;refine yB ?_;refine yM ?_;refine yM ?_;refine y3 ?_;refine y4 ?_
 refine yN ?_;refine yM ?_;refine yM ?_
 refine yC ?_
 refine FW.pu C1 ?_
 by_cases hA:asked kerf l (OnB w ht)=0
 ·rw[bestR_ok hA]
  obtain⟨hc,hb⟩:=asked_zero hA
  obtain⟨q1,q2,q3,q4⟩:=chk_iff.1 hc
  have hb0:=hb
  obtain⟨⟨e1,e2⟩,e3,e4⟩:=hb0
  obtain⟨w,rfl⟩:=Int.eq_ofNat_of_zero_le (show 0≤w by omega)
  obtain⟨ht,rfl⟩:=Int.eq_ofNat_of_zero_le (show 0≤ht by omega)
  have C2:=rbest93 F.toFnsRB (.of (hx.wf hr.wf)) ((hs.ext hx).log []) (W:=1000000) (by omega) ⟨q2.1,by omega⟩ (by omega) (wsOf_bd hc)
  have hv:bestV kerf l w ht=Vf kerf (wsOf l) l w ht:=bestV_eq q2.1 e1 e3
  rw[hv]
  have c1:=grid_get (f:=Vf kerf (wsOf l) l) (a:=w) (b:=ht) (by omega) (by omega)
  have hl:(ints (grid (Vf kerf (wsOf l) l))).length=289:=by rw[ints_len,grid_len]
  have eC:ones (ints (grid (Vf kerf (wsOf l) l)))=true:=ones_ints _
  refine yM ?_;refine y3 ?_;refine wE_seq ?_;refine y4 ?_;refine yM ?_;refine yf ?_;refine y3 ?_;refine yX ?_;refine wE_skip ?_;refine kS_n ?_;refine y4 ?_
  refine yN ?_
  refine yC ?_
  refine FW.pu C2 ?_
  generalize ints (grid (Vf kerf (wsOf l) l))=XS at*
  refine wO_val a_new ?_
  refine wO_val (a_store (ws:=XS) (by exact rfl) (by exact rfl) (by(simp(disch:=first|omega|(simp only[z1,z2];omega)|(simp only[z1,z2];done)|fail)only[z8,z4,z5,z9,z7,z1,z2, *];exact rfl)) (st_all hl rep_len eC) (lputs_all (by show XS.length=_;rw[hl,rep_len]))) ?_
  refine y3 ?_;refine y4 ?_;refine yM ?_;refine yM ?_;refine wO_val (a_iaddrA (by exact rfl) (by exact rfl) (by omega)) ?_;refine wO_val (a_iaddrA (by exact rfl) (by exact rfl) (by omega)) ?_
  refine wO_val (a_load (by exact rfl) (by(simp(disch:=first|omega|(simp only[z1,z2];omega)|(simp only[z1,z2];done)|fail)only[z8,z4,z5,z9,z7,z1,z2, *];exact rfl)) (by assumption)) ?_;refine yM ?_
  refine yM ?_;refine y3 ?_;refine wE_ret ?_
  exact endP_ret ((Heap.log_wr_new (by(simp only[z1,z2];omega))).trans hr.log) rfl rfl
 ·rw[bestR_no hA]
  refine yM ?_;refine y3 ?_;refine wE_seq ?_;refine y4 ?_;refine yM ?_;refine yt ?_;refine y3 ?_;refine yY ?_;refine y4 ?_;refine yM ?_;refine yM ?_;refine yM ?_;refine y3 ?_;refine wE_ret ?_;refine kS_r ?_
  exact endP_ret hr.log rfl rfl
end Go.A.Pk
end
section
set_option maxRecDepth 100000
namespace Go.A.Pk
variable {T:Nat→Option AFunc}
theorem a_sliceArr{base:Nat}{h:Heap}{e:Env}{size b o n i j:Nat}{x:Operand}{lo hi:Option Operand}(hx:ev h e x=some (.pointer (some ⟨b,o,none⟩)))(hl:bnd h e 0 lo=some i)(hh:bnd h e n hi=some j)(h1:i≤j)(h2:j≤n)(h3:i<n)(h4:n<1000000):
 aop h base e (.slice (.arr n size) x lo hi none)=some (.val (.slice (some ⟨b,o+i*size,none⟩) (j-i) (n-i)) h):=by
 simp only[aop,hx,sliceOp,hl,hh,nbeq_not (show n≠UNK by unfold UNK;omega),nble_of h1,nble_of h2,nbeq_not (show n≠i by omega),Bool.and_self,cond_true,cond_false,asPair]
theorem wO_app1p{base:Nat}{rnd:Option Nat}{Q:XQ}{e:Env}{ds:Dfs}{h:Heap}{lo sz bytes n:Nat}{dst:Option Nat}{os:List AOper}{x y:Operand}{v u:Value}{cs c1:List Value}(s:Own lo h sz v n cs)(hn:n<1000000)(hsz:0<sz)(hb:bytes≤100000)(hbase:base≤lo)
 (hx:ev h e x=some v)(hy:ev h e y=some u)(hs:srcCells h sz u=some (c1,1))(hl1:c1.length=sz)(h1:ones c1=true)
 (hK:∀h',Own h.next h' sz (.slice (some ⟨h.next,0,none⟩) (n+1) UNK) (n+1) (cs++c1)→h'.next=h.next+1→h'.log=h.log→(WF h→WF h')→(∀z,z<h.next→(∀q a c,v= .slice (some ⟨q,0,none⟩) a c→z≠q)→h'.get z=h.get z)→WO T base rnd Q os (dstE e dst (.slice (some ⟨h.next,0,none⟩) (n+1) UNK)) ds h'):WO T base rnd Q (⟨dst, .append sz bytes x y,none⟩::os) e ds h:=by
 have hbd:(2*(n+1)+768)*bytes≤281474976710656:=by
  have:(2*(n+1)+768)*bytes≤2000768*100000:=Nat.mul_le_mul (by omega) hb
  omega
 cases s with
 |nil=>
  refine wO_val (a_app_nil (n:=1) hx hy hs (by omega) (by simpa using hbd) rfl) ?_
  exact hK _ (Own.full (lo:=h.next) (h:=h.push (.cells c1 true sz)) (sz:=sz) (q:=h.next) (n:=1) (cs:=c1) (Nat.le_refl _) (Nat.lt_succ_self _) (z3 _ _) (by omega) (by omega)) rfl rfl (fun w=>w.push _) (fun z hz _=>z4 hz)
 | @full q _ _ q1 q2 q3 q4 q5=>
   refine wO_val (a_app_open (n:=1) (vs:=cs) (ws:=cs++c1) hx hy hs (by omega) q3 q4 hsz h1 hbd (lcat_eq _ _)) ?_
   exact hK _ (.full (Nat.le_refl _) (Nat.lt_succ_self _) (z3 _ _) (by rw[List.length_append,q4,hl1,Nat.add_mul,Nat.one_mul]) (by omega)) rfl (Heap.log_wr_new (o:= .dead) (by omega)) (fun w=>(w.as (AS.wr base _ q .dead)).push _) (fun z hz hne=>(z4 (by exact hz)).trans (z5 (hne q _ _ rfl)))
theorem grid_row{f:Nat→Nat→Int}{a m:Nat}(ha:a<17)(hm:m≤16):ltake (m*1) (ldrop (0+a*17+1*1) (ints (grid f)))=ints ((List.range m).map fun j=>f a (j+1)):=by
 rw[ltake_eq,ldrop_eq,Nat.mul_one]
 apply List.ext_getElem?
 intro k
 rw[List.getElem?_take]
 by_cases hk:k<m
 ·rw[if_pos hk,List.getElem?_drop]
  have:=grid_get (f:=f) (a:=a) (b:=k+1) ha (by omega)
  rw[lget_eq]at this
  rw[show 0+a*17+1*1+k=0+a*17+(k+1)*1 by omega,this]
  simp[ints,hk]
 ·rw[if_neg hk]
  symm
  apply List.getElem?_eq_none
  simp[ints]
  omega
structure FnsRV (T:Nat→Option AFunc):Prop extends FnsRC T where
 f35:T 35=some f35
structure RowsD (h:Heap) (lo i:Nat) (v:Value) (row:Nat→List Int):Prop where
 own:∃cs,Own lo h 1 v i cs∧∀k,k<i→∃q,lget cs k=some (.slice (some ⟨q,0,none⟩) (row k).length UNK)∧q<h.next∧h.get q=some (.cells (ints (row k)) true 1)∧∀a b,v≠ .slice (some ⟨q,0,none⟩) a b
def rowV(kerf:Int)(l:List Kd)(ht i:Nat):List Int:=(List.range ht).map fun(j:Nat)=>bestV kerf l (i+1:Nat) (j+1:Nat)
theorem rowsV_at{kerf:Int}{l:List Kd}{w ht i:Nat}{r:List Int}(e:(rowsV kerf l w ht)[i]? =some r):i<w∧r=rowV kerf l ht i:=by
 unfold rowsV at e
 rw[List.getElem?_map]at e
 by_cases hi:i<w
 ·rw[List.getElem?_range hi]at e
  cases e
  exact⟨hi,rfl⟩
 ·rw[List.getElem?_eq_none (by simp;omega)]at e
  cases e
theorem RowsD.lists{h:Heap}{lo w ht:Nat}{v:Value}{kerf:Int}{l:List Kd}(s:RowsD h lo w v (rowV kerf l ht))(hw:0<w)(hht:0<ht)(hh:ht<1000):ListsAt h v (rowsV kerf l w ht):=by
 obtain⟨cs,own,hk⟩:=s.own
 cases own with
 |nil=>omega
 | @full q _ _ q1 q2 q3 q4 q5=>
   have:=ListsAt.mem (h:=h) (b:=q) (o:=0) (c:=UNK) (rows:=rowsV kerf l w ht) q3 q2 fun i r e=>by
    obtain⟨hi,rfl⟩:=rowsV_at e
    obtain⟨q',h1,h2,h3,_⟩:=hk i hi
    refine⟨_,by rw[Nat.zero_add];exact h1, .mem ⟨h2,⟨_,_,_,h3,?_⟩,by simp[ints]⟩ (by simp[rowV,UNK];omega)⟩
    rw[ltake_eq,ldrop_eq,List.drop_zero,List.take_of_length_le (by simp[ints])]
   rw[show(rowsV kerf l w ht).length=w by simp[rowsV]]at this
   exact this
set_option maxHeartbeats 8000000 in
theorem rvalues35(F:FnsRV T){h:Heap}(hr:Rdy h){a:Option Addr}{n c:Nat}{l:List Kd}(hs:SliceOf h 5 (.slice a n c) n (kcs l))(kerf:Int)(hn:n<1000000)(w ht:Int):
 Al T 35 [.agg #[.slice a n c, .int .i64 kerf], .int .i64 w, .int .i64 ht] h (ValQ kerf l w ht):=by
 refine .of F.toFnsRW.p F.f35 hr ValQ.gc ?_
 have hx:Ext h (h.push (.cells [.slice a n c, .int .i64 kerf] true 1)):=(Ext.refl h).push _
 obtain rfl:n=l.length:=by have:=hs.len;rw[kcs_length]at this;omega
 have C1:=asked79 F.toFnsD (.of (hx.wf hr.wf)) ((hs.ext hx).log []) kerf w ht hn
 change Pu T 79 _ _ (.int .i64 (asked kerf l (OnB w ht)))at C1
 refine y4 ?_;refine yB ?_;refine yM ?_;refine yM ?_;refine y3 ?_;refine y4 ?_
 refine yN ?_;refine yM ?_;refine yM ?_
 refine yC ?_
 refine FW.pu C1 ?_
 by_cases hA:asked kerf l (OnB w ht)=0
 ·obtain⟨hc,hb⟩:=asked_zero hA
  obtain⟨q1,q2,q3,q4⟩:=chk_iff.1 hc
  have hb0:=hb
  obtain⟨⟨e1,e2⟩,e3,e4⟩:=hb0
  obtain⟨w,rfl⟩:=Int.eq_ofNat_of_zero_le (show 0≤w by omega)
  obtain⟨ht,rfl⟩:=Int.eq_ofNat_of_zero_le (show 0≤ht by omega)
  have C2:=rbest93 F.toFnsRB (.of (hx.wf hr.wf)) ((hs.ext hx).log []) (W:=1000000) (by omega) ⟨q2.1,by omega⟩ (by omega) (wsOf_bd hc)
  have hrow:∀i,i<w→ltake (ht*1) (ldrop (0+(i+1)*17+1*1) (ints (grid (Vf kerf (wsOf l) l))))=ints (rowV kerf l ht i):=fun i hi=>by
   rw[grid_row (by omega) (by omega)]
   congr 1
   apply List.map_congr_left
   intro j hj
   exact(bestV_eq q2.1 (by omega) (by omega)).symm
  have hl:(ints (grid (Vf kerf (wsOf l) l))).length=289:=by rw[ints_len,grid_len]
  have eC:ones (ints (grid (Vf kerf (wsOf l) l)))=true:=ones_ints _
  have hQ:∀v H,ValQ kerf l w ht v H=∃x,v= .tuple #[x, .int .i64 0]∧ListsAt H x (rowsV kerf l w ht):=fun v H=>by unfold ValQ;rw[hA,if_pos rfl];rfl
  rw[hA]
  refine yM ?_;refine y3 ?_;refine wE_seq ?_;refine y4 ?_;refine yM ?_;refine yf ?_;refine y3 ?_;refine yX ?_;refine wE_skip ?_;refine kS_n ?_;refine y4 ?_
  refine yN ?_
  refine yC ?_
  refine FW.pu C2 ?_
  generalize ints (grid (Vf kerf (wsOf l) l))=XS at*
  refine wO_val a_new ?_
  refine wO_val (a_store (ws:=XS) (by exact rfl) (by exact rfl) (by(simp(disch:=first|omega|(simp only[z1,z2];omega)|(simp only[z1,z2];done)|fail)only[z8,z4,z5,z9,z7,z1,z2, *];exact rfl)) (st_all hl rep_len eC) (lputs_all (by show XS.length=_;rw[hl,rep_len]))) ?_
  refine y3 ?_;refine y4 ?_;refine yM ?_;refine y3 ?_;refine wE_seq ?_;refine y4 ?_;refine yM ?_;refine y3 ?_;refine wE_block ?_
  refine WE.genT ?_
  intro hB hBe
  have B9:hB.get (h.next+1)=some (.cells XS true 1):=by rw[hBe];(simp(disch:=first|omega|(simp only[z1,z2];omega)|(simp only[z1,z2];done)|fail)only[z8,z4,z5,z9,z7,z1,z2, *];done)
  have Bx:Ext h hB:=by rw[hBe];exact(hx.push _).wr (by(simp only[z1,z2];omega)) (by(simp only[z1,z2];omega))
  have Bn:hB.next=h.next+2:=by rw[hBe];rfl
  clear hBe C1 C2
  refine wE_loop (fun k e ds h'=>∃(i:Nat) (v:Value),i≤w∧k=w-i∧e=[(1, .int .i64 w),(2, .int .i64 ht),(9, .pointer (some ⟨h.next+1,0,none⟩)),(10,v),(11, .int .i64 (i+1:Nat))]∧ds=[]∧Ext hB h'∧RowsD h' hB.next i v (rowV kerf l ht))
   ⟨0,_,Nat.zero_le _,rfl,rfl,rfl, .refl _,⟨[], .nil,fun k hk=>by omega⟩⟩ ?_
  rintro k e ds h1 ⟨i,v,hi,rfl,rfl,rfl,hx1,hR⟩
  have g9:=(hx1.old _ (by omega)).trans B9
  have hn1:=hx1.next
  by_cases hlt:i<w
  ·have hrw:=hrow i hlt
   have hrl:(ints (rowV kerf l ht i)).length=ht:=by simp[ints,rowV]
   refine wE_seq ?_;refine y4 ?_;refine yM ?_;refine yM ?_;refine yt ?_;refine y3 ?_;refine yY ?_
   refine wE_skip ?_;refine kS_n ?_;refine wE_seq ?_;refine wE_block ?_;refine wE_region ?_;refine yM ?_;refine wO_val (a_bslice (by exact rfl) (by exact rfl)) ?_;refine yM ?_;refine wO_val (a_iaddrA (by exact rfl) (by exact rfl) (by omega)) ?_;refine yM ?_
   refine yinc ?_
   refine wO_val (a_sliceArr (i:=1) (j:=ht+1) (by exact rfl) (bnd_some (n:=1) (by exact rfl)) (bnd_some (n:=ht+1) (by exact rfl)) (by omega) (by omega) (by omega) (by omega)) ?_
   refine wO_val (a_app_full (c:=0) (len:=0) (n:=ht) (o:=0) (vs:=[]) (ws:=ints (rowV kerf l ht i)) (by exact rfl) (by exact rfl) (src_slice (n:=ht) (cs:=ints (rowV kerf l ht i)) ((z4 (by omega)).trans g9) hrw (by omega)) (by omega) (by omega) (by unfold UNK;omega) (z3 _ _) (by simp) (by omega) (by rfl)) ?_
   refine wO_val (a_bslice (by exact rfl) (by exact rfl)) ?_
   refine WO.gen ?_
   intro hC hCe
   have hxC:Ext h1 hC:=by rw[hCe];exact(((Ext.refl h1).push _).push _).push _
   have Cn:hC.next=h1.next+3:=by rw[hCe];rfl
   have C1:hC.get (h1.next+1)=some (.cells (ints (rowV kerf l ht i)) true 1):=by rw[hCe];exact(z4 (by show h1.next+1<h1.next+2;omega)).trans (z3 _ _)
   have C2:hC.get (h1.next+2)=some (.cells [.slice (some ⟨h1.next+1,0,none⟩) (0+ht) UNK] true 1):=by rw[hCe];exact z3 _ _
   clear hCe
   obtain⟨cs,own,hk⟩:=hR.own
   have hbl:∀q a k,v= .slice (some ⟨q,0,none⟩) a k→hB.next≤q∧q<h1.next:=fun q a k e=>own_below own e
   have hcl:cs.length=i:=by
    revert own
    generalize cs=zs
    intro own
    cases own with
    |nil=>rfl
    |full _ _ _ q4 _=>omega
   refine wO_app1p (lo:=hB.next) (n:=i) (c1:=[.slice (some ⟨h1.next+1,0,none⟩) (0+ht) UNK]) (own.ext hxC) (by omega) (by omega) (by omega) (by omega) (by exact rfl) (by exact rfl) (src_slice (n:=1) (cs:=[.slice (some ⟨h1.next+1,0,none⟩) (0+ht) UNK]) C2 rfl rfl) rfl rfl ?_
   intro h4 own4 n4 l4 w4 o4
   refine yM ?_;refine wO_nil ?_;refine y1 ?_;refine kB_n ?_;refine kS_n ?_;refine wE_region ?_;refine yM ?_;refine yinc ?_;refine yM ?_;refine y3 ?_
   refine⟨w-(i+1),by omega,i+1,_,by omega,rfl,rfl,rfl,⟨by omega,l4.trans (hxC.log.trans hx1.log),fun z hz=>(o4 z (by omega) fun q a k e=>by have:=hbl q a k e;omega).trans ((hxC.old z (by omega)).trans (hx1.old z hz)),fun hw=>w4 (hxC.wf (hx1.wf hw))⟩,⟨_,own4.low (by omega),fun k hki=> ?_⟩⟩
   by_cases hk2:k<i
   ·obtain⟨q,r1,r2,r3,r4⟩:=hk k hk2
    refine⟨q,?_,by omega,(o4 q (by omega) fun q' a c e hq=>r4 a c (by rw[hq];exact e)).trans ((hxC.old q r2).trans r3),fun a b e=> ?_⟩
    ·rw[lget_eq]at r1⊢
     rw[List.getElem?_append_left (by omega)]
     exact r1
    ·cases e
     omega
   ·obtain rfl:k=i:=by omega
    have hlen:(rowV kerf l ht k).length=ht:=by simp[rowV]
    refine⟨h1.next+1,?_,by omega,(o4 _ (by omega) fun q a c e=>by have:=hbl q a c e;omega).trans C1,fun a b e=> ?_⟩
    ·rw[lget_eq,List.getElem?_append_right (by omega),hcl,Nat.sub_self,hlen,Nat.zero_add]
     rfl
    ·injection e with e1
     injection e1 with e2
     injection e2 with e3
     omega
  ·obtain rfl:i=w:=by omega
   refine wE_seq ?_;refine y4 ?_;refine yM ?_;refine yM ?_;refine yf ?_;refine y3 ?_;refine yX ?_
   refine wE_exit ?_;refine kS_e ?_;refine kS_e ?_;refine kB_e ?_;refine kS_n ?_;refine y4 ?_;refine yM ?_;refine yM ?_;refine yM ?_;refine y3 ?_;refine wE_ret ?_
   refine endA_ret (vs:=[v, .int .i64 0]) ((Bx.trans hx1).log.trans hr.log) (by rfl) ?_
   rw[hQ]
   exact⟨_,rfl,hR.lists (by omega) (by omega) (by omega)⟩
 ·refine yM ?_;refine y3 ?_;refine wE_seq ?_;refine y4 ?_;refine yM ?_;refine yt ?_;refine y3 ?_;refine yY ?_;refine y4 ?_;refine yM ?_;refine yM ?_;refine yM ?_;refine y3 ?_;refine wE_ret ?_;refine kS_r ?_
  exact endA_ret (vs:=[.slice none 0 0, .int .i64 (asked kerf l (OnB w ht))]) (hx.log.trans hr.log) rfl ⟨_,rfl,by rw[if_neg hA];exact .nil⟩
end Go.A.Pk
end
section
namespace Go.A.Pk
def nI(ns:List (Nat×Nat)):List (Nat×Int):=ns.map fun x=>(x.1,(x.2:Int))
theorem leafAt_inv{k:Kd}{i a b:Nat}{x:Nat×Nat}(h:x∈leafAt k i a b):x.2=i∧((x.1=1∧(a:Int)=k.w∧(b:Int)=k.h)∨(x.1=2∧k.turn=true∧(a:Int)=k.h∧(b:Int)=k.w)):=by
 unfold leafAt at h
 rcases List.mem_append.1 h with h|h
 ·split at h
  ·rename_i q
   rw[List.mem_singleton.1 h]
   exact⟨rfl, .inl ⟨rfl,q⟩⟩
  ·cases h
 ·split at h
  ·rename_i q
   rw[List.mem_singleton.1 h]
   exact⟨rfl, .inr ⟨rfl,q⟩⟩
  ·cases h
theorem leaves_inv{a b:Nat}:∀{l:List Kd} {i:Nat} {x:Nat×Nat},x∈leavesL a b l i→∃j k,l[j]? =some k∧x.2=i+j∧((x.1=1∧(a:Int)=k.w∧(b:Int)=k.h)∨(x.1=2∧k.turn=true∧(a:Int)=k.h∧(b:Int)=k.w))
 |[],_,x,h=>by cases h
 |k::l,i,x,h=>by
  simp only[leavesL,List.mem_append]at h
  rcases h with h|h
  ·obtain⟨h1,h2⟩:=leafAt_inv h
   exact⟨0,k,rfl,h1,h2⟩
  ·obtain⟨j,k',h1,h2,h3⟩:=leaves_inv h
   exact⟨j+1,k',h1,by omega,h3⟩
theorem foldM_att{α:Type}{f:α→Int}:∀{xs:List α} {m:Int},foldM f xs m=m∨∃x∈xs,foldM f xs m=f x
 |[],m=> .inl rfl
 |y::xs,m=>by
  show foldM f xs (mx m (f y))=m∨∃x∈y::xs,foldM f xs (mx m (f y))=f x
  rcases foldM_att (f:=f) (xs:=xs) (m:=mx m (f y))with h|⟨x,hx,h⟩
  ·rw[h]
   by_cases hc:f y≤m
   ·left;unfold mx;split<;>omega
   ·right;exact⟨y,List.mem_cons_self ..,by unfold mx;split<;>omega⟩
  ·right;exact⟨x,List.mem_cons_of_mem _ hx,h⟩
theorem plan_nil{kerf:Int}{ws:List Int}{kl:List Kd}{t:Tab}{p:Int×Int}{ns:List (Nat×Nat)}(h:PlanR kerf ws kl t p ns)(hp:¬ (1≤p.1∧1≤p.2)):ns=[]:=by
 cases h with
 |none _=>rfl
 |leaf q1 q2 _ _=>exact absurd ⟨by dsimp only;omega,by dsimp only;omega⟩ hp
 |cut q1 q2 _ _ _ _=>exact absurd ⟨by dsimp only;omega,by dsimp only;omega⟩ hp
 |waste q1 q2 _ _=>exact absurd ⟨by dsimp only;omega,by dsimp only;omega⟩ hp
theorem plan_tree{kerf:Int}{l:List Kd}{t:Tab}{W Hh:Int}(hk:0≤kerf)(hV:∀q:Int×Int,1≤q.1→q.1≤W→1≤q.2→q.2≤Hh→look t q=V kerf (wsP l) l q)(h0:∀q:Int×Int,¬ (1≤q.1∧1≤q.2)→look t q=0){p:Int×Int}{ns:List (Nat×Nat)}(R:PlanR kerf (wsP l) l t p ns):
 1≤p.1→1≤p.2→p.1≤W→p.2≤Hh→∀(f:Nat) (rest:List (Nat×Int)),p.1+p.2≤f→(treeS kerf l f p (nI ns++rest)).1.ok=true∧(treeS kerf l f p (nI ns++rest)).1.worth=look t p∧(treeS kerf l f p (nI ns++rest)).2=ns.length:=by
 induction R with
 |none h=>intro h1 h2;exact absurd ⟨h1,h2⟩ h
 | @leaf a b x ha hb hx hw=>
   intro h1 h2 h3 h4 f rest hf
   obtain⟨j,k,hj,hj2,hk3⟩:=leaves_inv hx
   have ex:x.2=j:=by omega
   have hjl:j<l.length:=(List.getElem?_eq_some_iff.1 hj).1
   have hn34:¬ (x.1=3∨x.1=4):=by rcases hk3 with⟨e,_⟩|⟨e,_⟩<;>omega
   have hwk:(wsP l).getD x.2 0=k.worth:=by rw[wsP,List.getD_eq_getElem?_getD,List.getElem?_map,ex,hj];rfl
   have e1:∀f:Nat,treeS kerf l f ((a:Int),(b:Int)) (nI [x]++rest)=nodeS l (x.1,(x.2:Int)) ((a:Int),(b:Int)):=fun f=>by
    show treeS kerf l f ((a:Int),(b:Int)) ((x.1,(x.2:Int))::rest)=_
    cases f<;>rw[treeS,if_neg hn34]
   have e2:nodeS l (x.1,(x.2:Int)) ((a:Int),(b:Int))=(⟨decide (isP k x.1 ((a:Int),(b:Int))),k.worth,(a:Int)*b,0,z12.set x.2 1⟩,1):=by
    unfold nodeS plankS
    rw[if_neg (show¬x.1=0 by rcases hk3 with⟨e,_⟩|⟨e,_⟩<;>omega),if_pos (show x.1=1∨x.1=2 by rcases hk3 with⟨e,_⟩|⟨e,_⟩<;>omega),if_pos (by omega)]
    simp only[Int.toNat_natCast,ex,hj]
   rw[e1,e2]
   refine⟨decide_eq_true ?_,hwk.symm.trans hw,rfl⟩
   unfold isP
   rcases hk3 with⟨e,e3,e4⟩|⟨e,e3,e4,e5⟩
   ·exact .inl ⟨e,e3.symm,e4.symm⟩
   ·exact .inr ⟨e,e3,e4.symm,e5.symm⟩
 | @cut a b x n1 n2 ha hb hx hw r1 r2 ih1 ih2=>
   intro h1 h2 h3 h4 f rest hf
   dsimp only at h1 h2 h3 h4 hf
   obtain⟨f,rfl⟩:∃f',f=f'+1:=⟨f-1,by omega⟩
   have eo:oneI (x.1,(x.2:Int)) ((a:Int),(b:Int))=oneB x a b:=by unfold oneI oneB;rfl
   have et:twoI kerf (x.1,(x.2:Int)) ((a:Int),(b:Int))=twoB kerf x a b:=by unfold twoI twoB;rfl
   have hx34:x.1=3∨x.1=4:=by rcases cuts_of hx with⟨e,_⟩|⟨e,_⟩<;>omega
   have hat:1≤(x.2:Int)∧(x.2:Int)≤sizeI (x.1,(x.2:Int)) ((a:Int),(b:Int))-1:=by
    unfold sizeI
    rcases cuts_of hx with⟨e,q1,q2⟩|⟨e,q1,q2⟩
    ·rw[if_pos e];dsimp only;omega
    ·rw[if_neg (show¬ (x.1,(x.2:Int)).1=3 by show¬x.1=3;omega)];dsimp only;omega
   have hone:1≤(oneB x a b).1∧1≤(oneB x a b).2∧(oneB x a b).1≤W∧(oneB x a b).2≤Hh∧(oneB x a b).1+(oneB x a b).2≤f:=by
    rcases cuts_of hx with⟨e3,_,_⟩|⟨e4,_,_⟩
    ·simp only[oneB,e3,if_true];omega
    ·have q3:¬x.1=3:=by omega
     simp only[oneB,if_neg q3];omega
   have htwo:((twoB kerf x a b).1≤W∧(twoB kerf x a b).2≤Hh∧(twoB kerf x a b).1+(twoB kerf x a b).2≤f)∧(sizeI (x.1,(x.2:Int)) ((a:Int),(b:Int))-x.2-kerf<1↔ ¬ (1≤(twoB kerf x a b).1∧1≤(twoB kerf x a b).2)):=by
    unfold sizeI
    rcases cuts_of hx with⟨e3,_,_⟩|⟨e4,_,_⟩
    ·simp only[twoB,e3,if_true];omega
    ·have q3:¬x.1=3:=by omega
     simp only[twoB,if_neg q3];omega
   obtain⟨i1,i2,i3⟩:=ih1 hone.1 hone.2.1 hone.2.2.1 hone.2.2.2.1 f (nI n2++rest) hone.2.2.2.2
   have eL:nI (x::(n1++n2))++rest=(x.1,(x.2:Int))::(nI n1++(nI n2++rest)):=by simp[nI]
   have e1:treeS kerf l (f+1) ((a:Int),(b:Int)) (nI (x::(n1++n2))++rest)=joinS kerf (sizeI (x.1,(x.2:Int)) ((a:Int),(b:Int))) x.2 (treeS kerf l f (oneB x a b) (nI n1++(nI n2++rest))) (treeS kerf l f (twoB kerf x a b) ((nI n1++(nI n2++rest)).drop (treeS kerf l f (oneB x a b) (nI n1++(nI n2++rest))).2)):=by
    rw[eL,treeS,if_pos hx34,if_pos hat,eo,et]
   have ed:(nI n1++(nI n2++rest)).drop n1.length=nI n2++rest:=by
    have:n1.length=(nI n1).length:=by simp[nI]
    rw[this,List.drop_left]
   rw[e1,i3,ed]
   generalize treeS kerf l f (oneB x a b) (nI n1++(nI n2++rest))=one at*
   unfold joinS
   rw[if_pos i1]
   by_cases hr:sizeI (x.1,(x.2:Int)) ((a:Int),(b:Int))-x.2-kerf<1
   ·have hnb:=htwo.2.1 hr
    have z2:n2=[]:=plan_nil r2 hnb
    have z3:=h0 _ hnb
    rw[if_pos hr]
    refine⟨i1,?_,?_⟩
    ·show one.1.worth=_
     rw[←hw,z3,i2];omega
    ·rw[z2];simp;omega
   ·have hb2:1≤(twoB kerf x a b).1∧1≤(twoB kerf x a b).2:=Classical.byContradiction fun q=>hr (htwo.2.2 q)
    obtain⟨j1,j2,j3⟩:=ih2 hb2.1 hb2.2 htwo.1.1 htwo.1.2.1 f rest htwo.1.2.2
    rw[if_neg hr,if_pos j1]
    refine⟨rfl,?_,?_⟩
    ·show one.1.worth+(treeS kerf l f (twoB kerf x a b) (nI n2++rest)).1.worth=_
     rw[i2,j2];exact hw
    ·show 1+one.2+(treeS kerf l f (twoB kerf x a b) (nI n2++rest)).2=_
     rw[i3,j3];simp;omega
 | @waste a b ha hb hlf hct=>
   intro h1 h2 h3 h4 f rest hf
   have e1:∀f:Nat,treeS kerf l f ((a:Int),(b:Int)) (nI [(0,0)]++rest)=({sm0 with ok:=true},1):=fun f=>by
    show treeS kerf l f ((a:Int),(b:Int)) ((0,0)::rest)=_
    cases f<;>(rw[treeS,if_neg (by omega)];rfl)
   rw[e1]
   refine⟨rfl,?_,rfl⟩
   show(0:Int)=_
   have hVe:=hV ((a:Int),(b:Int)) h1 h3 h2 h4
   have hV0:=V_nonneg (kerf:=kerf) (ws:=wsP l) (kl:=l) hk ((a:Int),(b:Int))
   rw[V_eq hk ha hb]at hVe
   by_cases hz:look t ((a:Int),(b:Int))=0
   ·exact hz.symm
   ·exfalso
    have hpos:0<look t ((a:Int),(b:Int)):=by rw[hV _ h1 h3 h2 h4]at hz⊢;omega
    have hsub:∀x∈cutsL a b,V kerf (wsP l) l (oneB x a b)+V kerf (wsP l) l (twoB kerf x a b)=look t (oneB x a b)+look t (twoB kerf x a b):=fun x hx=>by
     have q1:∀q:Int×Int,q.1≤W→q.2≤Hh→V kerf (wsP l) l q=look t q:=fun q y1 y2=>by
      by_cases hq:1≤q.1∧1≤q.2
      ·exact(hV q hq.1 y1 hq.2 y2).symm
      ·rw[h0 q hq,V_out hq]
     dsimp only at h3 h4
     rcases cuts_of hx with⟨e3,_,_⟩|⟨e4,_,_⟩
     ·rw[q1 _ (by simp only[oneB,e3,if_true];omega) (by simp only[oneB,e3,if_true];omega),q1 _ (by simp only[twoB,e3,if_true];omega) (by simp only[twoB,e3,if_true];omega)]
     ·have q3:¬x.1=3:=by omega
      rw[q1 _ (by simp only[oneB,if_neg q3];omega) (by simp only[oneB,if_neg q3];omega),q1 _ (by simp only[twoB,if_neg q3];omega) (by simp only[twoB,if_neg q3];omega)]
    rcases foldM_att (f:=fun x=>V kerf (wsP l) l (oneB x a b)+V kerf (wsP l) l (twoB kerf x a b)) (xs:=cutsL a b) (m:=leafM (wsP l) (leavesL a b l 0) 0)with h|⟨x,hx,h⟩
    ·rw[h]at hVe
     rcases foldM_att (f:=fun x:Nat×Nat=>(wsP l).getD x.2 0) (xs:=leavesL a b l 0) (m:=0)with g|⟨x,hx,g⟩
     ·have:leafM (wsP l) (leavesL a b l 0) 0=0:=g
      omega
     ·exact hlf x hx (g.symm.trans hVe.symm)
    ·rw[h]at hVe
     exact hct hpos x hx ((hsub x hx).symm.trans hVe.symm)
end Go.A.Pk
end
section
set_option maxRecDepth 100000
namespace Go.A.Pk
variable {T:Nat→Option AFunc}
theorem nI_len(ns:List (Nat×Nat)):(nI ns).length=ns.length:=by simp[nI]
theorem planS_best{kerf:Int}{l:List Kd}{w ht:Int}(hc:chk kerf l=0)(hb:OnB w ht){ns:List (Nat×Nat)}(R:PlanR kerf (wsP l) l (tabP kerf l w ht) (w,ht) ns):(planS kerf l (w,ht) (nI ns)).ok=true∧(planS kerf l (w,ht) (nI ns)).worth=bestV kerf l w ht:=by
 have hk:=(chk_iff.1 hc).2.1.1
 have hbb:=hb
 obtain⟨⟨h1,h2⟩,h3,h4⟩:=hbb
 have:=plan_tree hk (W:=w) (Hh:=ht) (fun q a1 a2 a3 a4=>by rw[look_tabP hc hb,if_pos ⟨a1,a2,a3,a4⟩,bestV_eq hk a1 a3];rfl) (fun q hq=>by rw[look_tabP hc hb,if_neg (fun q1=>hq ⟨q1.1,q1.2.2.1⟩)]) R h1 h3 (Int.le_refl _) (Int.le_refl _) 32 [] (by simp only;omega)
 rw[List.append_nil]at this
 obtain⟨t1,t2,t3⟩:=this
 have e:planS kerf l (w,ht) (nI ns)=(treeS kerf l 32 (w,ht) (nI ns)).1:=by
  unfold planS
  rw[if_pos ⟨t1,by rw[t3,nI_len]⟩]
 rw[e]
 refine⟨t1,t2.trans ?_⟩
 rw[look_tabP hc hb,if_pos ⟨h1,Int.le_refl _,h3,Int.le_refl _⟩]
end Go.A.Pk
end
section
set_option maxRecDepth 100000
namespace Go.A.Pk
variable {T:Nat→Option AFunc}
structure FnsBe (T:Nat→Option AFunc):Prop extends FnsVl T,FnsRV T,FnsCk T where
 f5:T 5=some f5
 f37:T 37=some f37
 f48:T 48=some f48
 c19:∀{h:Heap},Rdy h→Pu T 19 [] h (.bool true)
set_option maxHeartbeats 16000000 in
theorem law5(F:FnsBe T){h:Heap}(hr:Rdy h){a:Option Addr}{n c:Nat}{l:List Kd}(hs:SliceOf h 5 (.slice a n c) n (kcs l))(kerf w ht:Int):
 Pu T 5 [.agg #[.slice a n c, .int .i64 kerf], .int .i64 w, .int .i64 ht] h (.bool true):=by
 have hp:=F.toFnsW.toFnsV.p
 refine .of hp F.f5 hr rfl ?_
 have hx:Ext h (h.push (.cells [.slice a n c, .int .i64 kerf] true 1)):=(Ext.refl h).push _
 obtain rfl:n=l.length:=by have:=hs.len;rw[kcs_length]at this;omega
 refine y4 ?_;refine yB ?_;refine yM ?_;refine y3 ?_;refine wE_seq ?_;refine y4 ?_
 refine yN ?_
 refine yC ?_
 refine FW.pu (few18 F.toFnsW.toFnsE.toFnsC (.of (hx.wf hr.wf)) kerf) ?_
 by_cases hfew:l.length≤16
 ·have hn:l.length<1000000:=by omega
  rw[decide_eq_true hfew]
  have C1:=best32 F.toFnsW (.of (hx.wf hr.wf)) ((hs.ext hx).log []) kerf hn w ht
  have C2:=rbest33 F.toFnsRC (.of (hx.wf hr.wf)) ((hs.ext hx).log []) kerf hn w ht
  unfold bestR at C1 C2
  generalize hbw:(if asked kerf l (OnB w ht)=0 then bestV kerf l w ht else 0)=bw at C1 C2
  refine yA ?_;refine y3 ?_;refine yX ?_;refine wE_skip ?_;refine kS_n ?_;refine y4 ?_
  refine yN ?_;refine yM ?_;refine yM ?_
  refine yC ?_
  refine FW.pu C1 ?_
  refine yM ?_;refine yE ?_;refine yE ?_;refine yM ?_;refine yM ?_;refine y3 ?_;refine y4 ?_;refine yN ?_;refine yM ?_
  refine yM ?_
  refine yC ?_
  refine FW.pu C2 ?_
  clear C1 C2
  refine yM ?_;refine yE ?_;refine yE ?_;refine yM ?_;refine yM ?_;refine y3 ?_;refine y4 ?_;refine yN ?_;refine yM ?_
  refine yM ?_
  refine yC ?_
  refine FW.al (values34 F.toFnsVl (.of (hx.wf hr.wf)) ((hs.ext hx).log []) kerf hn w ht) (fun v h' m q=>ValQ.log v h' m q) ?_
  rintro _ h2 hx2 ⟨v2,rfl,q2⟩
  have hx12:=hx.trans hx2
  have k2:=hx2.next
  have k1:h.next<h2.next:=k2
  have G4:h2.get h.next=some (.cells [.slice a l.length c, .int .i64 kerf] true 1):=by rw[hx2.old _ (by(simp only[z1,z2];omega))];(simp(disch:=first|omega|(simp only[z1,z2];omega))only[z3,z4,z5,z6,z7,z1,z2, *];exact rfl)
  refine yM ?_;refine yE ?_;refine yE ?_;refine yM ?_;refine yM ?_;refine y3 ?_;refine y4 ?_;refine yN ?_;refine yM ?_;refine yM ?_
  refine yC ?_
  refine FW.al (rvalues35 F.toFnsRV (.of (hx12.wf hr.wf)) ((hs.ext hx12).log []) kerf hn w ht) (fun v h' m q=>ValQ.log v h' m q) ?_
  rintro _ h3 hx3 ⟨v3,rfl,q3⟩
  have hx13:=hx12.trans hx3
  have k3:=hx3.next
  have G5:h3.get h.next=some (.cells [.slice a l.length c, .int .i64 kerf] true 1):=(hx3.old _ k1).trans G4
  clear G4
  refine yM ?_;refine yE ?_;refine yE ?_;refine yM ?_;refine yM ?_;refine y3 ?_;refine y4 ?_;refine yN ?_;refine yM ?_;refine yM ?_
  refine yC ?_
  refine FW.al (plan36 F.toFnsVl.toFnsPn (.of (hx13.wf hr.wf)) ((hs.ext hx13).log []) kerf hn w ht) (fun v h' m q=>PlanO.log v h' m q) ?_
  rintro _ h4 hx4 ⟨ns,pa,pc,rfl,sp,⟨up,uc⟩,rp,rn⟩
  have hx14:=hx13.trans hx4
  have k4:h3.next≤h4.next:=hx4.next
  have k14:h.next<h4.next:=by have:h2.next≤h3.next:=k3;omega
  have G6:h4.get h.next=some (.cells [.slice a l.length c, .int .i64 kerf] true 1):=(hx4.old _ (by have:h2.next≤h3.next:=k3;omega)).trans G5
  have s1:=(q2.ext hx3).ext hx4
  have s2:=q3.ext hx4
  clear G5 q2 q3 hx2 hx3 hx4 k2 k3 k4
  have hrows:∀rows,rows=(if asked kerf l (OnB w ht)=0 then rowsV kerf l w.toNat ht.toNat else [])→rows.length<1000000∧∀r∈rows,r.length<1000000:=fun rows e=>by
   by_cases ha:asked kerf l (OnB w ht)=0
   ·rw[if_pos ha]at e
    obtain⟨_,⟨⟨_,e1⟩,_,e2⟩⟩:=asked_zero ha
    subst e
    refine⟨by simp[rowsV];omega,fun r hm=> ?_⟩
    simp only[rowsV,List.mem_map]at hm
    obtain⟨i,_,rfl⟩:=hm
    simp;omega
   ·rw[if_neg ha]at e
    subst e
    exact⟨by simp,fun r hm=>by cases hm⟩
  have C3:=sameLists37 hp F.f37 F.f48 (.of (hx14.wf hr.wf)) (s1.log []) (s2.log []) (hrows _ rfl).1 (hrows _ rfl).2
  clear hrows s1 s2
  refine yM ?_;refine yE ?_;refine yE ?_;refine yM ?_;refine yM ?_;refine y3 ?_;refine wE_seq ?_
  refine y4 ?_;refine yM ?_;refine yM ?_;refine yf ?_;refine yM ?_;refine yO ?_;refine yM ?_;refine yO ?_;refine yM ?_
  refine yO ?_;refine yf ?_;refine yU ?_;refine yM ?_;refine yO ?_;refine yM ?_;refine yO ?_;refine yM ?_;refine yO ?_
  refine yC ?_
  refine FW.pu C3 ?_
  clear C3
  by_cases ha:asked kerf l (OnB w ht)=0
  ·obtain⟨hc,hb⟩:=asked_zero ha
   have R:=rp ha
   obtain⟨b1,b2⟩:=planS_best hc hb R
   have hlen:=plan_len (chk_iff.1 hc).2.1.1 R
   have hlen':ns.length≤1000:=by
    obtain⟨⟨y1,y2⟩,y3,y4⟩:=hb
    have:areaN (w,ht)≤16*16:=Nat.mul_le_mul (by show w.toNat≤16;omega) (by show ht.toNat≤16;omega)
    omega
   have C4:=checkPlan38 F.toFnsCk (w:=w) (ht:=ht) (kerf:=kerf) (ns:=nI ns) (qa:=pa) (qc:=pc) hn (by rw[nI_len];exact hlen') (.of (hx14.wf hr.wf)) ((hs.ext hx14).log []) (by rw[nI_len,nI,←ncs_ncI];exact sp.log []) (by rw[nI_len];exact up) (uc.symm)
   unfold checkR at C4
   rw[nI_len,if_pos ha,b1,b2]at C4
   rw[if_pos ha]at hbw
   rw[hbw]at C4
   rw[ha]
   clear b1 b2 R hlen hlen' rp rn sp up uc ha hbw
   refine yO ?_;refine yA ?_;refine yU ?_;refine yM ?_;refine yO ?_;refine yM ?_;refine yO ?_;refine yM ?_;refine yO ?_
   refine yf ?_;refine yU ?_;refine yM ?_;refine yO ?_;refine yM ?_;refine yO ?_;refine yM ?_;refine yO ?_
   refine yf ?_;refine yU ?_;refine y3 ?_;refine yX ?_;refine wE_skip ?_;refine kS_n ?_;refine wE_seq ?_;refine y4 ?_;refine yM ?_;refine yf ?_;refine y3 ?_;refine yX ?_;refine wE_skip ?_;refine kS_n ?_;refine y4 ?_
   refine yN ?_;refine yM ?_;refine yM ?_;refine yM ?_
   refine yC ?_
   refine FW.pu C4 ?_
   clear C4
   refine yM ?_;refine yE ?_;refine yE ?_;refine yE ?_;refine yM ?_;refine yM ?_;refine yM ?_;refine y3 ?_;refine y4 ?_
   refine yC ?_
   refine FW.pu (F.c19 (.of (hx14.wf hr.wf))) ?_
   refine yM ?_;refine yO ?_;refine yM ?_;refine yT ?_;refine yM ?_;refine yO ?_;refine yM ?_;refine yO ?_;refine yt ?_
   refine yT ?_;refine yM ?_;refine yO ?_;refine yM ?_;refine yO ?_;refine yM ?_;refine yO ?_;refine yt ?_
   refine yT ?_;refine yM ?_;refine y3 ?_;refine wE_ret ?_
   exact endP_ret (hx14.log.trans hr.log) rfl rfl
  ·obtain rfl:=rn ha
   refine yO ?_;refine yA ?_;refine yU ?_;refine yM ?_;refine yO ?_;refine yM ?_;refine yO ?_;refine yM ?_;refine yO ?_
   refine yf ?_;refine yU ?_;refine yM ?_;refine yO ?_;refine yM ?_;refine yO ?_;refine yM ?_;refine yO ?_
   refine yf ?_;refine yU ?_;refine y3 ?_;refine yX ?_;refine wE_skip ?_;refine kS_n ?_;refine wE_seq ?_;refine y4 ?_;refine yM ?_;refine yt ?_;refine y3 ?_;refine yY ?_;refine y4 ?_
   refine yC ?_
   refine FW.pu (F.c19 (.of (hx14.wf hr.wf))) ?_
   refine yM ?_;refine yO ?_;refine yM ?_;refine yO ?_;refine yD ?_;refine yO ?_;refine wO_val (a_num (by exact rfl) (by exact rfl) (by exact m_eql)) ?_;refine yT ?_;refine yM ?_
   refine y3 ?_;refine wE_ret ?_;refine kS_r ?_
   exact endP_ret (hx14.log.trans hr.log) rfl rfl
 ·rw[decide_eq_false hfew]
  refine yA ?_;refine y3 ?_;refine yY ?_;refine y4 ?_
  refine yC ?_
  refine FW.pu (F.c19 (.of (hx.wf hr.wf))) ?_
  refine yM ?_;refine y3 ?_;refine wE_ret ?_;refine kS_r ?_
  exact endP_ret (hx.log.trans hr.log) rfl rfl
end Go.A.Pk
end
section
set_option maxRecDepth 100000
namespace Go.A.Pk
variable {T:Nat→Option AFunc}
theorem Al.mono{f:Nat}{args:List Value}{h:Heap}{Q Q':Value→Heap→Prop}(H:Al T f args h Q)(hq:∀v h',Q v h'→Q' v h'):Al T f args h Q':=
 CW.mono H fun r h' ⟨hx,v,hv,q⟩=>⟨hx,v,hv,hq _ _ q⟩
end Go.A.Pk
end
section
set_option maxRecDepth 100000
open Go Go.A Go.Proofs
namespace Go.A.Pk
def tree1:Tr:=(.node (.node (.node (.node (.node (.node .nil 15 f15 .nil) 18 f18 .nil) 19 (.prim (pConst (.bool true))) (.node .nil 39 f39 .nil)) 59 f59 (.node (.node .nil 60 f60 .nil) 61 f61 (.node .nil 62 f62 .nil))) 63 f63 (.node (.node (.node .nil 64 f64 .nil) 65 f65 (.node .nil 66 f66 .nil)) 67 f67 (.node (.node .nil 68 f68 .nil) 75 f75 (.node .nil 77 f77 .nil)))) 79 f79 (.node (.node (.node (.node .nil 80 f80 .nil) 96 f96 (.node .nil 97 f97 .nil)) 99 f99 (.node (.node .nil 113 f113 .nil) 114 f114 (.node .nil 115 f115 .nil))) 116 f116 (.node (.node (.node .nil 117 f117 .nil) 118 f118 (.node .nil 119 f119 .nil)) 122 f122 (.node (.node .nil 123 f123 .nil) 147 f147 (.node .nil 149 f149 .nil)))))
def T1:Nat→Option AFunc:=tree1.get
theorem ok19:Entry Tryz.prog 19 (.prim (pConst (.bool true))):= .prim (pConst_ok sound Tryz.func19 (of_decide_eq_true (by kernel_rfl)) (by kernel_rfl) (of_decide_eq_true (by kernel_rfl)) (by kernel_rfl) rfl StkQ.run)
end Go.A.Pk
end
section
namespace Go.A
open Go.ChangeShapes Go.WideShapes Go.ChangeAt Go.RowKit
section
variable {H:Type} {enc:TypeId×Value→H} {P:Program}
theorem trodAll_stays(hl:laidOutB P=true){W W':World}(hb:Below W.heap.size W W'):∀{ts:List TypeId} {vs:List Value} {ds:List (DataW H)} {ps:List MemPlace},(∀t∈ts,P.readableRec t=true∧t<P.types.size)→DataW.TrodAll enc P W 0 (fun _=>true) true ts vs ds ps→
 (∀x∈ps,x.block<W.heap.size)→DataW.TrodAll enc P W' 0 (fun b=>decide (b<W.heap.size)) true ts vs ds ps
 |[],vs,ds,ps,_,h,_=>by
  obtain⟨rfl,rfl,rfl⟩:=trodAll_nil h
  exact trodAll_mk0
 |t::ts,vs,ds,ps,hr,h,hlt=>by
  obtain⟨v,vs',d,ds',p,q,rfl,rfl,rfl,hd,hrest⟩:=trodAll_cons h
  have h1:=hr t (List.mem_cons_self ..)
  exact⟨p,q,Below.trod hl h1.1 h1.2 hd hb fun x hx=>hlt x (List.mem_append_left _ hx),trodAll_stays hl hb (fun t ht=>hr t (List.mem_cons_of_mem _ ht)) hrest fun x hx=>hlt x (List.mem_append_right _ hx),rfl⟩
theorem law_post{f:Func}{s:ChangeSpec}{W W':World}{args:Array Value}{ds gs:List (DataW H)}{before:List MemPlace}{tb:TypeId}(hW:DataW.Whole enc P f.params.toList s.vars false W args.toList ds gs before)(hv:s.vars=[])
 (hfn:(s.fn H ds).results=[.lit (.bool true)]∧(s.fn H ds).args=ds∧(s.fn H ds).vars=[])(hl:laidOutB P=true)(hr:∀t∈f.params.toList,P.readableRec t=true∧t<P.types.size)(hres:f.resultTypes= #[tb])(htb:P.underlying tb=some .bool)(hb:Below W.heap.size W W'):
 s.post enc P f false true false false W args (.bool true) W':=by
 have hW':=hW
 obtain⟨p,q,hA,hV,hpq,hz,hn⟩:=hW
 rw[hv]at hV
 obtain⟨rfl,rfl⟩:=trodVars_none hV
 have hbp:before=p:=by simpa using hpq
 subst hbp
 obtain⟨h1,h2,h3⟩:=hfn
 have hlt:∀x∈before,x.block<W.heap.size:=fun x hx=>by simpa using hW'.lt x hx
 refine⟨ds,[],before,[],before,[],hW',?_,?_,?_,hb.frame _,fun h=>by cases h⟩
 ·rw[List.append_nil,h1,hres]
  exact trodAll_cons_mk (shut_bool htb _) trodAll_mk0
 ·rw[List.append_nil,h2]
  exact trodAll_stays hl hb hr hA hlt
 ·rw[List.append_nil,h3,hv]
  rfl
end
end Go.A
end
section
set_option maxRecDepth 100000
namespace Go.A.Pk
open Go Go.Proofs Go.Joins Go.ChangeShapes Go.WideShapes Go.RowKit Go.Deep
instance:Inhabited Kd:=⟨⟨0,0,0,0,false⟩⟩
inductive KindsAt (W:World):Value→List Kd→Prop
 |nil:KindsAt W (.slice none 0 0) []
 |empty {b o cap c el fz}:W.heap[b]? =some (.cells c el fz)→cap<UNK→KindsAt W (.slice (some ⟨b,o,none⟩) 0 cap) []
 |full {b o cap c el fz} {l:List Kd}:W.heap[b]? =some (.cells c el fz)→l≠[]→l.length≤cap→cap<UNK→(∀j,j<l.length*5→c[o+j]? =(kcs l)[j]?)→KindsAt W (.slice (some ⟨b,o,none⟩) l.length cap) l
theorem kcs_get:∀{l:List Kd} {i:Nat} {k:Kd} {j:Nat},l[i]? =some k→j<5→(kcs l)[i*5+j]? =(kc k)[j]?
 |[],i,k,j,h,_=>by simp at h
 |x::l,0,k,j,h,hj=>by
  simp only[List.getElem?_cons_zero,Option.some.injEq]at h
  subst h
  simp only[kcs,Nat.zero_mul,Nat.zero_add]
  rw[List.getElem?_append_left (by simpa[kc]using hj)]
 |x::l,i+1,k,j,h,hj=>by
  rw[List.getElem?_cons_succ]at h
  have:=kcs_get (l:=l) h hj
  simp only[kcs]
  rw[List.getElem?_append_right (by simp[kc];omega),←this]
  congr 1
  simp[kc];omega
section
variable {H:Type} {enc:TypeId×Value→H} {W:World} {base:Nat} {spare:Nat→Bool} {held:Bool}
theorem cells3:Tryz.prog.cellsOf 3=1:=by kernel_rfl
theorem cells4:Tryz.prog.cellsOf 4=1:=by kernel_rfl
theorem cells69:Tryz.prog.cellsOf 69=5:=by kernel_rfl
theorem kind_cells{fuel:Nat}{cs:List Value}{x:DataW H×List MemPlace}(h:DataW.trod enc Tryz.prog W base spare held fuel 69 cs=some x):∃k:Kd,cs=kc k:=by
 obtain⟨xs,n,_,hx,hcl,hlen,hg⟩:=DataW.trod_struct Tryz.underlying69 h
 rw[cells69]at hcl
 match cs,hcl with
 |[c0,c1,c2,c3,c4],_=>
  match xs,hlen with
  |[y0,y1,y2,y3,y4],_=>
   have g0:DataW.trod enc Tryz.prog W base spare held n 3 [c0]=some y0:=by have:=hg 0 _ rfl;simpa[cells3]using this
   have g1:DataW.trod enc Tryz.prog W base spare held n 3 [c1]=some y1:=by have:=hg 1 _ rfl;simpa[cells3]using this
   have g2:DataW.trod enc Tryz.prog W base spare held n 3 [c2]=some y2:=by have:=hg 2 _ rfl;simpa[cells3]using this
   have g3:DataW.trod enc Tryz.prog W base spare held n 3 [c3]=some y3:=by have:=hg 3 _ rfl;simpa[cells3]using this
   have g4:DataW.trod enc Tryz.prog W base spare held n 4 [c4]=some y4:=by have:=hg 4 _ rfl;simpa[cells4]using this
   obtain⟨a0,h0,_⟩:=DataW.trod_int Tryz.underlying3 g0
   obtain⟨a1,h1,_⟩:=DataW.trod_int Tryz.underlying3 g1
   obtain⟨a2,h2,_⟩:=DataW.trod_int Tryz.underlying3 g2
   obtain⟨a3,h3,_⟩:=DataW.trod_int Tryz.underlying3 g3
   obtain⟨a4,h4,_⟩:=DataW.trod_bool Tryz.underlying4 g4
   cases h0;cases h1;cases h2;cases h3;cases h4
   exact⟨⟨a0,a1,a2,a3,a4⟩,rfl⟩
theorem add_eq(b o n:Nat):(Addr.mk b o none).add n=⟨b,o+n,none⟩:=by
 unfold Addr.add
 by_cases h:n=0
 ·rw[if_pos h,h,Nat.add_zero]
 ·rw[if_neg h]
theorem open_saw{v:Value}{d:DataW H}{p:List MemPlace}(hv:Value.okWide Tryz.prog W .any base 24 v)(h:DataW.Trod enc Tryz.prog W 0 (fun _=>true) held 24 v d p)(hz:∀n∈d.weights Tryz.prog 24,n≤reachBytes):∃sl kerf l,v= .agg #[sl, .int .i64 kerf]∧KindsAt W sl l:=by
 have hv0:=hv
 obtain⟨v0,v1,y0,y1,n,rfl,hd,_,h0,h1⟩:=open_agg2 Tryz.underlying24 (by kernel_rfl) (by kernel_rfl) hv h
 obtain⟨kerf,hk,_⟩:=DataW.trod_int Tryz.underlying3 h1
 cases hk
 have hcell:Cell.okWide Tryz.prog W .any base 22 v0:=by
  simp only[Value.okWide,Tryz.underlying24]at hv0
  obtain⟨cs,hcs,_,ts,hts,_,hrow⟩:=hv0
  cases hcs
  have e:Tryz.prog.cellTypes Tryz.prog.depth 24=some [22,3]:=by kernel_rfl
  rw[e]at hts
  cases hts
  obtain⟨u,hu,hc⟩:=hrow 0 v0 rfl
  cases hu
  exact hc
 rcases open_slice Tryz.underlying22 h0 with⟨h2,_⟩|⟨a,len,cap,m,n',D,Pl,h2,_,hl,hcap,hm,hy,hx⟩
 ·cases h2
  exact⟨_,kerf,[],rfl, .nil⟩
 ·cases h2
  simp only[Cell.okWide,Cell.ok,Tryz.underlying22,World.has]at hcell
  obtain⟨_,_,_,hspot,row,cells,hsh,_⟩:=hcell
  obtain⟨b,o,sp⟩:=a
  simp only at hspot hsh
  subst hspot
  rw[if_pos rfl]at hm
  subst hm
  have hcapU:m<UNK:=by
   have e40:Tryz.prog.bytesOf 69=40:=by kernel_rfl
   have:=hz (m*40) (by
    rw[hd,hy]
    simp only[DataW.weights,Tryz.underlying24,DataW.weightsEach,Tryz.underlying22,List.map_cons,List.map_nil,e40,List.length_map,List.length_range,show len+(m-len)=m by omega]
    simp)
   unfold reachBytes at this
   unfold UNK;omega
  obtain⟨c,el,fz,hheap⟩:∃c el fz,W.heap[b]? =some (.cells c el fz):=by
   unfold World.shape? at hsh
   split at hsh
   ·rename_i c el fz he;exact⟨c,el,fz,he⟩
   ·cases hsh
  have hlm:len≤m:=hl
  obtain⟨f,hf⟩:=choose_lt (α:=Kd) (n:=len) (p:=fun i k=>∀j,j<5→c[o+(i*5+j)]? =(kc k)[j]?) (fun i hi=>by
   obtain⟨cs',hc,ht⟩:=hx i (by omega)
   obtain⟨k,hk⟩:=kind_cells ht
   subst hk
   refine⟨k,fun j hj=> ?_⟩
   rw[cells69]at hc
   obtain⟨_,_,hat⟩:=World.cells?_some hc
   have:=hat j hj
   rw[add_eq,add_eq]at this
   rw[←this,Nat.add_assoc]
   unfold World.cell?
   simp only[hheap]
   rfl)
  by_cases h0:len=0
  ·subst h0
   exact⟨_,kerf,[],rfl, .empty hheap hcapU⟩
  ·have hlen:((List.range len).map f).length=len:=by simp
   refine⟨_,kerf,(List.range len).map f,rfl,?_⟩
   have:=KindsAt.full (W:=W) (o:=o) (cap:=m) (l:=(List.range len).map f) hheap (by intro e;rw[e]at hlen;simp at hlen;omega) (by omega) hcapU (fun j hj=>by
    rw[hlen]at hj
    have h5:j / 5<len:=by omega
    have e1:j=j / 5*5+j % 5:=by omega
    have g1:=hf (j / 5) h5 (j % 5) (by omega)
    have g2:=kcs_get (l:=(List.range len).map f) (i:=j / 5) (k:=f (j / 5)) (j:=j % 5) (by simp[h5]) (by omega)
    rw[←e1]at g1 g2
    rw[g1,g2])
   rw[hlen]at this
   exact this
end
end Go.A.Pk
end
section
set_option maxRecDepth 100000
namespace Go.A.Pk
open Go Go.Proofs Go.RowKit
theorem R.single{P:Program}{W:World}{n b d:Nat}{vs:List Value}{sz e:Nat}{c:Array Value}{el:TypeId}{fz:Nat×Nat}(hn:P.globals.size≤n)(hW:W.heap[b]? =some (.cells c el fz))(h1:d+vs.length≤e)(h2:e≤c.size)
 (hv:∀i,i<vs.length→∃v',c[d+i]? =some v'∧VR (fun x=>if x=n then some ⟨b,d,e,sz⟩else none) (gv vs i) v'):R P (fun x=>if x=n then some ⟨b,d,e,sz⟩else none) ⟨[(n, .cells vs false sz)],n+1,[]⟩ W:=by
 have hg:∀x o,(⟨[(n, .cells vs false sz)],n+1,[]⟩:Heap).get x=some o→x=n∧o= .cells vs false sz:=fun x o hx=>by
  simp only[Heap.get,getO,cond_eq_ite,beq_eq,decide_eq_true_eq]at hx
  split at hx
  ·rename_i he;cases hx;exact⟨he.symm,rfl⟩
  ·cases hx
 refine⟨Nat.le_succ_of_le hn,fun g o hgs hx=> ?_,fun x o hx=> ?_,fun x o hx=> ?_,fun x k hk=> ?_,fun x y o o' k k' hne hx hy=> ?_⟩
 ·obtain⟨rfl,_⟩:=hg _ _ hx;omega
 ·obtain⟨rfl,rfl⟩:=hg _ _ hx
  intro k hk
  dsimp only at hk
  rw[if_pos rfl]at hk
  cases hk
  exact⟨rfl,c,el,fz,hW,h1,h2,hv,fun h=>by cases h⟩
 ·obtain⟨rfl,_⟩:=hg _ _ hx;exact Nat.lt_succ_self _
 ·split at hk
  ·rename_i he;subst he;cases hk
   exact⟨Nat.lt_succ_self _,(Array.getElem?_eq_some_iff.1 hW).1⟩
  ·cases hk
 ·obtain⟨rfl,_⟩:=hg _ _ hx
  obtain⟨rfl,_⟩:=hg _ _ hy
  exact(hne rfl).elim
theorem St.below{μ μ':Mu}{h h':Heap}{W W':World}(s:St μ h W μ' h' W')(hro:∀b o,h.get b=some o→o.ro=true∨o.live=false):Below W.heap.size W W':=
 ⟨s.same.os,s.same.tape,s.same.out,s.le,fun r hr=>s.keep r hr fun⟨b,o,k,g1,g2,g3,_⟩=>by
  rcases hro b o g1 with q|q
  ·rw[q]at g3;cases g3
  ·rw[q]at g2;cases g2⟩
structure Laid (W:World) (sl:Value) (l:List Kd) (h:Heap) (μ:Mu) (v:Value) (n c:Nat) (a:Option Addr):Prop where
 rel:R Tryz.prog μ h W
 ro:∀b o,h.get b=some o→o.ro=true∨o.live=false
 rdy:Rdy h
 val:VR μ v sl
 form:v= .slice a n c
 at':SliceOf h 5 (.slice a n c) n (kcs l)
theorem KindsAt.laid{W:World}{sl:Value}{l:List Kd}(hk:KindsAt W sl l):∃h μ v n c a,Laid W sl l h μ v n c a:=by
 have hg:Tryz.prog.globals.size≤8:=of_decide_eq_true (by kernel_rfl)
 have hro:∀vs,∀b o,(⟨[(8, .cells vs false 5)],9,[]⟩:Heap).get b=some o→o.ro=true∨o.live=false:=fun vs b o hx=>by
  simp only[Heap.get,getO,cond_eq_ite]at hx
  split at hx
  ·cases hx;exact .inl rfl
  ·cases hx
 have hrd:∀vs,Rdy (⟨[(8, .cells vs false 5)],9,[]⟩:Heap):=fun vs=>⟨⟨by simp,fun b hb=>by simp at hb;subst hb;show 8<9;omega⟩,rfl⟩
 cases hk with
 |nil=>
  exact⟨⟨[],8,[]⟩,fun _=>none, .slice none 0 0,0,0,none,R.none hg,(fun b o hx=>by cases hx),⟨⟨by simp,fun b hb=>by simp at hb⟩,rfl⟩, .sliceN _ _,rfl, .nil⟩
 | @empty b o cap c el fz hW hc=>
   refine⟨⟨[(8, .cells [] false 5)],9,[]⟩,fun x=>if x=8 then some ⟨b,0,0,5⟩else none, .slice (some ⟨8,o,none⟩) 0 cap,0,cap,some ⟨8,o,none⟩,R.single hg hW (Nat.le_refl _) (Nat.zero_le _) (fun i hi=>by simp at hi),hro _,hrd _,?_,rfl,?_⟩
   ·have:=VR.slice (μ:=fun x=>if x=8 then some (⟨b,0,0,5⟩:Blk)else none) (b:=8) (o:=o) (l:=0) (c:=cap) (k:=⟨b,0,0,5⟩) (by simp) hc (Nat.zero_le _)
    simpa using this
   ·refine .mem ⟨by show 8<9;omega,⟨[],false,5,rfl,?_⟩,rfl⟩ (Nat.zero_le _)
    cases o<;>rfl
 | @full b o cap c el fz _ hW hne hl hc hat=>
   have hlen:=kcs_length l
   have hpos:0<l.length:=List.length_pos_iff.2 hne
   have hsz:o+l.length*5≤c.size:=by
    have h1:=hat (l.length*5-1) (by omega)
    have h2:(kcs l)[l.length*5-1]? =some ((kcs l)[l.length*5-1]'(by omega)):=List.getElem?_eq_getElem _
    rw[h2]at h1
    have:=(Array.getElem?_eq_some_iff.1 h1).1
    omega
   refine⟨⟨[(8, .cells (kcs l) false 5)],9,[]⟩,fun x=>if x=8 then some ⟨b,o,o+l.length*5,5⟩else none, .slice (some ⟨8,0,none⟩) l.length cap,l.length,cap,some ⟨8,0,none⟩,R.single hg hW (by rw[hlen];exact Nat.le_refl _) hsz (fun i hi=> ?_),hro _,hrd _,?_,rfl,?_⟩
   ·rw[hlen]at hi
    have h2:(kcs l)[i]? =some ((kcs l)[i]'(by omega)):=List.getElem?_eq_getElem _
    refine⟨_,(hat i hi).trans h2,?_⟩
    have e:gv (kcs l) i=(kcs l)[i]'(by omega):=by unfold gv;rw[lget_eq,h2];rfl
    rw[e]
    refine(VR.noRef ?_).1
    have hflat:∀(l:List Kd),∀x∈kcs l,noRef x=true:=fun l=>by
     induction l with
     |nil=>intro x hx;cases hx
     |cons k l ih=>
      intro x hx
      simp only[kcs,kc,List.mem_append,List.mem_cons,List.not_mem_nil,or_false]at hx
      rcases hx with(rfl|rfl|rfl|rfl|rfl)|hx
      ·rfl
      ·rfl
      ·rfl
      ·rfl
      ·rfl
      ·exact ih x hx
    exact hflat l _ (List.getElem_mem _)
   ·have:=VR.slice (μ:=fun x=>if x=8 then some (⟨b,o,o+l.length*5,5⟩:Blk)else none) (b:=8) (o:=0) (l:=l.length) (c:=cap) (k:=⟨b,o,o+l.length*5,5⟩) (by simp) hc hl
    simpa using this
   ·refine .mem ⟨by show 8<9;omega,⟨kcs l,false,5,rfl,?_⟩,hlen⟩ hl
    rw[ltake_eq,ldrop_eq,List.drop_zero,List.take_of_length_le (by omega)]
end Go.A.Pk
end
section
set_option maxRecDepth 100000
open Go Go.A Go.Proofs Go.RowKit
namespace Go.A.Pk
theorem c5:compF Tryz.prog Tryz.f5 [[1,2,3],[1,2,3,22],[6],[1,2,3,7,8],[1,2,3,7,8,9,10],[1,2,3,7,8,9,10,11,12],[1,2,3,7,8,9,10,11,12,13,14],[1,2,3,7,8,9,10,11,12,13,14,15,16],[1,2,3,9,10,15,82],[6],[1,2,3,9,15,84],[6],[9,17,18,19],[6]]=some f5:=by kernel_rfl
theorem c33:compF Tryz.prog Tryz.f33 [[1,2,3],[1,2,3,8],[1,2,3,8,15],[6,7],[1,2,9],[6,7]]=some f33:=by kernel_rfl
theorem c35:compF Tryz.prog Tryz.f35 [[1,2,3],[1,2,3,8],[1,2,3,8,17],[6,7],[1,2,9],[1,2,9,10],[1,2,9,10,11],[1,2,9,10,11,23],[1,2,9,10,11],[1,2,9,10,11],[6,7]]=some f35:=by kernel_rfl
theorem c36:compF Tryz.prog Tryz.f36 [[1,2,3],[1,2,8,9],[1,2,8,9,20],[6,7],[6,7]]=some f36:=by kernel_rfl
theorem c38:compF Tryz.prog Tryz.f38 [[1,2,3,4],[1,2,3,4,11],[1,2,3,4,11,18],[8,9,10],[12],[8,9,10]]=some f38:=by kernel_rfl
theorem c41:compF Tryz.prog Tryz.f41 [[1,2,3,4],[1,2,3,4,11],[1,2,3,4,11,19],[8,9,10],[1,2,12],[1,2,12,29],[8,9,10],[8,9,10]]=some f41:=by kernel_rfl
theorem c93:compF Tryz.prog Tryz.f93 [[1,2],[1,2,3],[1,2,3,4],[1,2,3,4,10],[1,2,3,4,5],[1,2,3,4,5,14],[1,2,3,4,5,6],[1,2,3,4,5,6,21],[1,2,3,4,5,6,31],[1,2,3,4,5,6],[1,2,3,4,5,6],[1,2,3,4,5,7],[1,2,3,4,5,7,50],[1,2,3,4,5,7],[1,2,3,4,5,7],[1,2,3,4,5,8],[1,2,3,4,5,8,82],[1,2,3,4,5,8],[1,2,3,4,5,8],[1,2,3,4,5],[1,2,3,4],[2]]=some f93:=by kernel_rfl
theorem c95:compF Tryz.prog Tryz.f95 [[1,2,3,4,8],[3,8,9,10],[8,9,27],[8],[8]]=some f95:=by kernel_rfl
theorem c100:compF Tryz.prog Tryz.f100 [[1,2,4],[1,2,4,5],[1,2,4,5,6],[1,2,4,5,6,7],[1,2,4,5,6,7,18],[1,2,4,5,6,7,8],[1,2,4,5,6,7,8,22],[1,2,4,5,6,7,8],[1,2,4,5,6,7,8],[1,2,4,5,6,7],[1,2,4,5,6,9],[1,2,4,5,6,9,30],[1,2,4,5,6,9,10],[1,2,4,5,6,9,10,34],[1,2,4,5,6,9,10,44],[1,2,4,5,6,9,10],[1,2,4,5,6,9,10,11],[1,2,4,5,6,9,10,11,57],[1,2,4,5,6,9,10,11,12],[1,2,4,5,6,9,10,11],[1,2,4,5,6,9,10,11],[1,2,4,5,6,9,10,13],[1,2,4,5,6,9,10,13,101],[1,2,4,5,6,9,10,13,14],[1,2,4,5,6,9,10,13],[1,2,4,5,6,9,10,13],[1,2,4,5,6,9,10],[1,2,4,5,6,9],[4]]=some f100:=by kernel_rfl
theorem c101:compF Tryz.prog Tryz.f101 [[1,2,3,4],[1,2,3,4,9],[1,2,9,10],[8]]=some f101:=by kernel_rfl
theorem c112:compF Tryz.prog Tryz.f112 [[1,2,3],[6]]=some f112:=by kernel_rfl
theorem c137:compF Tryz.prog Tryz.f137 [[1,2,3,4,8],[1,2,3,4,8,26],[8,9],[1,2,3,4,8,10],[1,2,3,4,8,10,32],[1,2,3,4,8,10,32,33],[8,9],[1,2,3,4,8,10,32,39],[1,2,3,4,8,10,32,39],[1,2,4,8,10,49],[8,9],[1,2,8,10,11],[1,2,8,10,11,12],[1,2,8,10,11,12,13],[8,10,14],[8,14],[8,9],[1,2,3,4,8,10,32,106],[1,2,3,4,8,10,106],[1,2,3,4,8,10,15],[1,2,3,4,8,10,15,16],[1,2,3,4,8,10,15,16,113],[1,2,3,4,8,10,15,16],[1,2,3,4,8,10,15,16,120],[8,9],[1,2,3,4,8,10,15,16,17],[1,2,3,4,8,10,15,16,17],[1,2,3,4,8,10,15,16,17,123],[1,2,3,4,8,10,15,16,17,18],[1,2,3,4,8,10,15,16,17,18],[1,2,3,4,8,10,15,16,17,18,146],[8,9],[1,2,3,4,8,15,17,18,19],[1,2,3,4,8,15,17,18,19,156],[8,17,18],[8,9],[1,2,3,4,8,15,17,18,19,20],[1,2,3,4,8,15,17,18,19,20],[1,2,3,4,8,17,18,19,20,165],[8,17,18,20,21],[8,17,18,20,21],[8,17,18,20,21,190],[8,9],[8,17,18,20,21,22],[8,17,18,20,21,22,23],[8,17,18,20,21,22,23,210],[8,17,18,20,21,22,23],[8,17,18,20,21,22,23],[8,9],[8,9]]=some f137:=by kernel_rfl
def tree5:Tr:=(.node (.node (.node (.node (.node (.node .nil 5 f5 .nil) 18 f18 (.node .nil 19 (.prim (pConst (.bool true))) .nil)) 32 f32 (.node (.node .nil 33 f33 .nil) 34 f34 .nil)) 35 f35 (.node (.node (.node .nil 36 f36 .nil) 37 f37 .nil) 38 f38 (.node (.node .nil 41 f41 .nil) 48 f48 .nil))) 66 f66 (.node (.node (.node (.node .nil 67 f67 .nil) 75 f75 .nil) 76 f76 (.node (.node .nil 77 f77 .nil) 79 f79 .nil)) 80 f80 (.node (.node (.node .nil 83 f83 .nil) 84 f84 .nil) 93 f93 (.node (.node .nil 94 f94 .nil) 95 f95 .nil)))) 96 f96 (.node (.node (.node (.node (.node .nil 97 f97 .nil) 99 f99 (.node .nil 100 f100 .nil)) 101 f101 (.node (.node .nil 104 f104 .nil) 105 f105 .nil)) 106 f106 (.node (.node (.node .nil 112 f112 .nil) 113 f113 .nil) 117 f117 (.node (.node .nil 118 f118 .nil) 119 f119 .nil))) 122 f122 (.node (.node (.node (.node .nil 123 f123 .nil) 125 f125 .nil) 126 f126 (.node (.node .nil 136 f136 .nil) 137 f137 .nil)) 140 f140 (.node (.node (.node .nil 141 f141 .nil) 147 f147 .nil) 149 f149 (.node (.node .nil 150 f150 .nil) 176 f176 .nil)))))
def T5:Nat→Option AFunc:=tree5.get
theorem all5:tree5.all (Entry Tryz.prog):=by
 unfold tree5
 exact(Tr.all_node (Tr.all_node (Tr.all_node (Tr.all_node (Tr.all_node (Tr.all_node Tr.all_nil (.of Tryz.func5 c5) Tr.all_nil) (.of Tryz.func18 c18) (Tr.all_node Tr.all_nil ok19 Tr.all_nil)) (.of Tryz.func32 c32) (Tr.all_node (Tr.all_node Tr.all_nil (.of Tryz.func33 c33) Tr.all_nil) (.of Tryz.func34 c34) Tr.all_nil)) (.of Tryz.func35 c35) (Tr.all_node (Tr.all_node (Tr.all_node Tr.all_nil (.of Tryz.func36 c36) Tr.all_nil) (.of Tryz.func37 c37) Tr.all_nil) (.of Tryz.func38 c38) (Tr.all_node (Tr.all_node Tr.all_nil (.of Tryz.func41 c41) Tr.all_nil) (.of Tryz.func48 c48) Tr.all_nil))) (.of Tryz.func66 c66) (Tr.all_node (Tr.all_node (Tr.all_node (Tr.all_node Tr.all_nil (.of Tryz.func67 c67) Tr.all_nil) (.of Tryz.func75 c75) Tr.all_nil) (.of Tryz.func76 c76) (Tr.all_node (Tr.all_node Tr.all_nil (.of Tryz.func77 c77) Tr.all_nil) (.of Tryz.func79 c79) Tr.all_nil)) (.of Tryz.func80 c80) (Tr.all_node (Tr.all_node (Tr.all_node Tr.all_nil (.of Tryz.func83 c83) Tr.all_nil) (.of Tryz.func84 c84) Tr.all_nil) (.of Tryz.func93 c93) (Tr.all_node (Tr.all_node Tr.all_nil (.of Tryz.func94 c94) Tr.all_nil) (.of Tryz.func95 c95) Tr.all_nil)))) (.of Tryz.func96 c96) (Tr.all_node (Tr.all_node (Tr.all_node (Tr.all_node (Tr.all_node Tr.all_nil (.of Tryz.func97 c97) Tr.all_nil) (.of Tryz.func99 c99) (Tr.all_node Tr.all_nil (.of Tryz.func100 c100) Tr.all_nil)) (.of Tryz.func101 c101) (Tr.all_node (Tr.all_node Tr.all_nil (.of Tryz.func104 c104) Tr.all_nil) (.of Tryz.func105 c105) Tr.all_nil)) (.of Tryz.func106 c106) (Tr.all_node (Tr.all_node (Tr.all_node Tr.all_nil (.of Tryz.func112 c112) Tr.all_nil) (.of Tryz.func113 c113) Tr.all_nil) (.of Tryz.func117 c117) (Tr.all_node (Tr.all_node Tr.all_nil (.of Tryz.func118 c118) Tr.all_nil) (.of Tryz.func119 c119) Tr.all_nil))) (.of Tryz.func122 c122) (Tr.all_node (Tr.all_node (Tr.all_node (Tr.all_node Tr.all_nil (.of Tryz.func123 c123) Tr.all_nil) (.of Tryz.func125 c125) Tr.all_nil) (.of Tryz.func126 c126) (Tr.all_node (Tr.all_node Tr.all_nil (.of Tryz.func136 c136) Tr.all_nil) (.of Tryz.func137 c137) Tr.all_nil)) (.of Tryz.func140 c140) (Tr.all_node (Tr.all_node (Tr.all_node Tr.all_nil (.of Tryz.func141 c141) Tr.all_nil) (.of Tryz.func147 c147) Tr.all_nil) (.of Tryz.func149 c149) (Tr.all_node (Tr.all_node Tr.all_nil (.of Tryz.func150 c150) Tr.all_nil) (.of Tryz.func176 c176) Tr.all_nil)))))
theorem sound5:SoundT Tryz.prog T5:=soundT_of (by kernel_rfl) all5
theorem pu19_5{h:Heap}:Pu T5 19 [] h (.bool true):= .prim (p:=pConst (.bool true)) (by kernel_rfl) rfl ⟨rfl,rfl⟩
theorem fns5:FnsBe T5:={p:=sound5.primAS,f77:=by kernel_rfl,f117:=by kernel_rfl,f119:=by kernel_rfl,f147:=by kernel_rfl,f118:=by kernel_rfl,f66:=by kernel_rfl,f18:=by kernel_rfl,f97:=by kernel_rfl,f122:=by kernel_rfl,f149:=by kernel_rfl,f75:=by kernel_rfl,f96:=by kernel_rfl,f113:=by kernel_rfl,f94:=by kernel_rfl,f104:=by kernel_rfl,f105:=by kernel_rfl,f106:=by kernel_rfl,f136:=by kernel_rfl,f140:=by kernel_rfl,f141:=by kernel_rfl,f83:=by kernel_rfl,f76:=by kernel_rfl,f32:=by kernel_rfl,f126:=by kernel_rfl,f150:=by kernel_rfl,f176:=by kernel_rfl,f125:=by kernel_rfl,f84:=by kernel_rfl,f36:=by kernel_rfl,f34:=by kernel_rfl,f93:=by kernel_rfl,f112:=by kernel_rfl,f100:=by kernel_rfl,f80:=by kernel_rfl,f67:=by kernel_rfl,f79:=by kernel_rfl,f99:=by kernel_rfl,f123:=by kernel_rfl,f33:=by kernel_rfl,f41:=by kernel_rfl,f101:=by kernel_rfl,f35:=by kernel_rfl,f137:=by kernel_rfl,f95:=by kernel_rfl,f38:=by kernel_rfl,f5:=by kernel_rfl,f37:=by kernel_rfl,f48:=by kernel_rfl,c19:=fun _=>pu19_5}
theorem best_calls{W:World}{sl:Value}{l:List Kd}(hk:KindsAt W sl l)(kerf:Int)(i1:Int)(i2:Int):Calls Tryz.prog 5 #[.agg #[sl, .int .i64 kerf], .int .i64 i1, .int .i64 i2] W fun e W'=>e= .returned (.bool true)∧Below W.heap.size W W':=by
 obtain⟨h,μ,u,n,c,a,L⟩:=hk.laid
 obtain⟨r,h',⟨m,hm⟩,rfl,rfl⟩:=law5 fns5 L.rdy L.at' kerf i1 i2
 have hrun:=hm m (Nat.le_refl _)
 have hu:VR μ (.slice a n c) sl:=L.form▸L.val
 have ha:LR μ [.agg #[.slice a n c, .int .i64 kerf], .int .i64 i1, .int .i64 i2] [.agg #[sl, .int .i64 kerf], .int .i64 i1, .int .i64 i2]:=
  .cons (VR.aggL (.cons hu (.cons (.int _ _) .nil))) (.cons (.int _ _) (.cons (.int _ _) .nil))
 refine(acall_calls sound5 hrun L.rdy.log (by kernel_rfl) L.rel ha).mono fun e W' hq=> ?_
 obtain⟨μ',q1,q2,q3⟩:=hq
 cases e with
 |returned v'=>
  have hv:VR μ' (.bool true) v':=q1
  cases hv
  exact⟨rfl,St.below q3 L.ro⟩
 |panicked _=>exact q1.elim
 |outgrown=>exact q1.elim
end Go.A.Pk
end
