/- Walks of functions, plain laws, the table. -/
import Derived.Test.YteafdpbjocdbbaaGreatDoorWU0
import Derived.Test.YteafdpbjocdbbaaGreatDoorWD
import Derived.Test.YteafdpbjocdbbaaGreatDoorWF
set_option linter.all false
section
set_option maxRecDepth 100000
namespace Go.A.Pk
variable {T:Nat→Option AFunc}
def leafAt(k:Kd)(i a b:Nat):List (Nat×Nat):=(if(a:Int)=k.w∧(b:Int)=k.h then [(1,i)]else [])++(if k.turn=true∧(a:Int)=k.h∧(b:Int)=k.w then [(2,i)]else [])
def leavesL(a b:Nat):List Kd→Nat→List (Nat×Nat)
 |[],_=>[]
 |k::l,i=>leafAt k i a b++leavesL a b l (i+1)
end Go.A.Pk
end
section
set_option maxRecDepth 100000
namespace Go.A.Pk
variable {T:Nat→Option AFunc}
theorem WF.get_lt{h:Heap}(w:WF h){x:Nat}{o:AObj}(hx:h.get x=some o):x<h.next:=by
 refine w.lt x (Classical.byContradiction fun hn=> ?_)
 have:=getO_none hn
 rw[show getO h.objs x=h.get x from rfl,hx]at this
 cases this
end Go.A.Pk
end
section
set_option maxRecDepth 100000
namespace Go.A.Pk
variable {T:Nat→Option AFunc}
def oneB(x:Nat×Nat)(a b:Nat):Int×Int:=if x.1=3 then(x.2,b)else(a,x.2)
def twoB(kerf:Int)(x:Nat×Nat)(a b:Nat):Int×Int:=if x.1=3 then((a:Int)-x.2-kerf,b)else(a,(b:Int)-x.2-kerf)
end Go.A.Pk
end
section
set_option maxRecDepth 100000
namespace Go.A.Pk
variable {T:Nat→Option AFunc}
abbrev Tab:=List ((Nat×Nat)×Int)
def ents(t:Tab):List (Value×Value):=t.map fun e=>(boardV e.1, .int .i64 e.2)
def isKey(x:Int×Int)(e:(Nat×Nat)×Int):Bool:=decide (x.1=e.1.1∧x.2=e.1.2)
def look:Tab→Int×Int→Int
 |[],_=>0
 |e::t,x=>if isKey x e then e.2 else look t x
def upd:Tab→Nat×Nat→Int→Tab
 |[],x,v=>[(x,v)]
 |e::t,x,v=>if isKey (x.1,x.2) e then(x,v)::t else e::upd t x v
def mx(a b:Int):Int:=if b>a then b else a
def L2:List Leaf:=[.i .i64, .i .i64]
def ints(l:List Int):List Value:=l.map fun x=> .int .i64 x
end Go.A.Pk
end
section
set_option maxRecDepth 100000
namespace Go.A.Pk
variable {T:Nat→Option AFunc}
theorem SliceOf.agree{h h':Heap}{sz n:Nat}{v:Value}{cs:List Value}(s:SliceOf h sz v n cs)(hn:h.next≤h'.next)(ha:∀b vs o t,b<h.next→h.get b=some (.cells vs o t)→h'.get b=h.get b):SliceOf h' sz v n cs:=by
 cases s with
 |nil=>exact .nil
 |mem s hc=>
  obtain⟨vs,own,t,h1,h2⟩:=s.obj
  exact .mem ⟨Nat.lt_of_lt_of_le s.lt hn,⟨vs,own,t,(ha _ _ _ _ s.lt h1).trans h1,h2⟩,s.len⟩ hc
def leafM(ws:List Int)(xs:List (Nat×Nat))(m:Int):Int:=xs.foldl (fun m x=>mx m (ws.getD x.2 0)) m
def cutM(kerf:Int)(t:Tab)(a b:Nat)(xs:List (Nat×Nat))(m:Int):Int:=xs.foldl (fun m x=>mx m (look t (oneB x a b)+look t (twoB kerf x a b))) m
def val(kerf:Int)(ws:List Int)(kl:List Kd)(t:Tab)(a b:Nat):Int:=cutM kerf t a b (cutsL a b) (leafM ws (leavesL a b kl 0) 0)
end Go.A.Pk
end
section
set_option maxRecDepth 100000
namespace Go.A.Pk
variable {T:Nat→Option AFunc}
def tabL(kerf:Int)(ws:List Int)(kl:List Kd)(done:List (Nat×Nat)):Tab:=done.foldl (fun t x=>upd t x (val kerf ws kl t x.1 x.2)) []
end Go.A.Pk
end
section
set_option maxRecDepth 100000
namespace Go.A.Pk
variable {T:Nat→Option AFunc}
inductive WslB (lo:Nat) (h:Heap):Value→List Int→Prop
 |nil:WslB lo h (.slice none 0 0) []
 |full {q xs}:lo≤q→q<h.next→h.get q=some (.cells (ints xs) true 1)→xs≠[]→WslB lo h (.slice (some ⟨q,0,none⟩) xs.length UNK) xs
def StartO(lo:Nat)(a:Option Addr)(n c:Nat)(kerf:Int)(l:List Kd)(er:Int)(v:Value)(h':Heap):Prop:=∃p,v= .tuple #[.pointer p, .int .i64 er]∧
 (er=0→∃w,p=some ⟨lo+1,0,none⟩∧h'.get (lo+1)=some (.cells [.slice a n c, .int .i64 kerf,w] true 1)∧WslB (lo+2) h' w (l.map (·.worth)))
theorem StartO.gc{lo:Nat}{a:Option Addr}{n c:Nat}{kerf:Int}{l:List Kd}{er:Int}(h:Heap)(v:Value)(h1:Heap)(hv:noRef v=true)(q:StartO lo a n c kerf l er v h1):StartO lo a n c kerf l er v h:=by
 obtain⟨p,rfl,h2⟩:=q
 refine⟨p,rfl,fun he=> ?_⟩
 obtain⟨w,rfl,_⟩:=h2 he
 simp[noRef,flatL,flat,scalL,scal,scal1]at hv
theorem WslB.keep{lo:Nat}{h h':Heap}{v:Value}{xs:List Int}(w:WslB lo h v xs)(hn:h.next≤h'.next)(hg:∀z,lo≤z→z<h.next→h'.get z=h.get z):WslB lo h' v xs:=by
 cases w with
 |nil=>exact .nil
 |full a b c d=>exact .full a (by omega) ((hg _ a b).trans c) d
theorem WslB.slice{lo:Nat}{h:Heap}{v:Value}{xs:List Int}(w:WslB lo h v xs)(hx:xs.length<1000000):∃a c,v= .slice a xs.length c∧SliceOf h 1 (.slice a xs.length c) xs.length (ints xs):=by
 cases w with
 |nil=>exact⟨none,0,rfl, .nil⟩
 | @full q _ h1 h2 h3 h5=>
   refine⟨some ⟨q,0,none⟩,UNK,rfl, .mem ⟨h2,⟨_,_,_,h3,?_⟩,by simp[ints]⟩ (by unfold UNK;omega)⟩
   rw[ltake_eq,ldrop_eq,List.drop_zero,List.take_of_length_le (by simp[ints])]
def StartQ(a:Option Addr)(n c:Nat)(kerf:Int)(l:List Kd)(er:Int)(v:Value)(h':Heap):Prop:=∃p,v= .tuple #[.pointer p, .int .i64 er]∧
 (er=0→∃bb wa wc,p=some ⟨bb,0,none⟩∧h'.get bb=some (.cells [.slice a n c, .int .i64 kerf, .slice wa n wc] true 1)∧SliceOf h' 1 (.slice wa n wc) n (ints (l.map (·.worth))))
theorem StartQ.gc{a:Option Addr}{n c:Nat}{kerf:Int}{l:List Kd}{er:Int}(h:Heap)(v:Value)(h1:Heap)(hv:noRef v=true)(q:StartQ a n c kerf l er v h1):StartQ a n c kerf l er v h:=by
 obtain⟨p,rfl,h2⟩:=q
 refine⟨p,rfl,fun he=> ?_⟩
 obtain⟨bb,wa,wc,rfl,_⟩:=h2 he
 simp[noRef,flatL,flat,scalL,scal,scal1]at hv
end Go.A.Pk
end
section
set_option maxRecDepth 100000
namespace Go.A.Pk
variable {T:Nat→Option AFunc}
def OnB(w ht:Int):Prop:=(1≤w∧w≤16)∧(1≤ht∧ht≤16)
instance(w ht:Int):Decidable (OnB w ht):=by unfold OnB;infer_instance
end Go.A.Pk
end
section
namespace Go.A.Pk
def foldM{α:Type}(f:α→Int)(xs:List α)(m:Int):Int:=xs.foldl (fun m x=>mx m (f x)) m
def VF(kerf:Int)(ws:List Int)(kl:List Kd):Nat→Int×Int→Int
 |0,_=>0
 |n+1,p=>if 1≤p.1∧1≤p.2 then foldM (fun x=>VF kerf ws kl n (oneB x p.1.toNat p.2.toNat)+VF kerf ws kl n (twoB kerf x p.1.toNat p.2.toNat)) (cutsL p.1.toNat p.2.toNat) (leafM ws (leavesL p.1.toNat p.2.toNat kl 0) 0)else 0
def sz(p:Int×Int):Nat:=p.1.toNat+p.2.toNat
def V(kerf:Int)(ws:List Int)(kl:List Kd)(p:Int×Int):Int:=VF kerf ws kl (sz p) p
end Go.A.Pk
end
section
set_option maxRecDepth 100000
namespace Go.A.Pk
variable {T:Nat→Option AFunc}
section
variable {base:Nat} {h:Heap} {e:Env}
end
def nd(x:Nat×Nat):List Value:=[.int .u8 x.1, .int .i64 x.2]
end Go.A.Pk
end
section
set_option maxRecDepth 100000
namespace Go.A.Pk
variable {T:Nat→Option AFunc}
def ncs:List (Nat×Nat)→List Value
 |[]=>[]
 |x::l=>nd x++ncs l
inductive PlanR (kerf:Int) (ws:List Int) (kl:List Kd) (t:Tab):Int×Int→List (Nat×Nat)→Prop
 |none {p:Int×Int}:¬ (1≤p.1∧1≤p.2)→PlanR kerf ws kl t p []
 |leaf {a b:Nat} {x:Nat×Nat}:1≤a→1≤b→x∈leavesL a b kl 0→ws.getD x.2 0=look t ((a:Int),(b:Int))→PlanR kerf ws kl t ((a:Int),(b:Int)) [x]
 |cut {a b:Nat} {x:Nat×Nat} {n1 n2:List (Nat×Nat)}:1≤a→1≤b→x∈cutsL a b→look t (oneB x a b)+look t (twoB kerf x a b)=look t ((a:Int),(b:Int))→PlanR kerf ws kl t (oneB x a b) n1→PlanR kerf ws kl t (twoB kerf x a b) n2→PlanR kerf ws kl t ((a:Int),(b:Int)) (x::(n1++n2))
 |waste {a b:Nat}:1≤a→1≤b→(∀x∈leavesL a b kl 0,ws.getD x.2 0≠look t ((a:Int),(b:Int)))→(0<look t ((a:Int),(b:Int))→∀x∈cutsL a b,look t (oneB x a b)+look t (twoB kerf x a b)≠look t ((a:Int),(b:Int)))→PlanR kerf ws kl t ((a:Int),(b:Int)) [(0,0)]
def U2(h:Heap)(v:Value):Prop:=∀b o n,v= .slice (some ⟨b,o,none⟩) n UNK→∃vs own,h.get b=some (.cells vs own 2)
def PlanQ(kerf:Int)(ws:List Int)(kl:List Kd)(t:Tab)(p:Int×Int)(v:Value)(h:Heap):Prop:=∃ns a c,PlanR kerf ws kl t p ns∧v= .slice a ns.length c∧SliceOf h 2 (.slice a ns.length c) ns.length (ncs ns)∧U2 h v∧(c=UNK∨c<1000000)
theorem PlanQ.log{kerf:Int}{ws:List Int}{kl:List Kd}{t:Tab}{p:Int×Int}(v:Value)(h':Heap)(m:List Nat)(q:PlanQ kerf ws kl t p v h'):PlanQ kerf ws kl t p v {h' with log:=m}:=by
 obtain⟨ns,a,c,h1,h2,h3,h4⟩:=q
 exact⟨ns,a,c,h1,h2,h3.log m,h4⟩
structure BenchT (h:Heap) (bb mb:Nat) (sa:Option Addr) (n c:Nat) (kerf:Int) (wa:Option Addr) (wc:Nat) (kl:List Kd) (ws:List Int) (t:Tab):Prop where
 gb:h.get bb=some (.cells [.slice sa n c, .int .i64 kerf, .slice wa n wc] true 1)
 gm:h.get mb=some (.map (ents t))
 hks:SliceOf h 5 (.slice sa n c) n (kcs kl)
 hws:SliceOf h 1 (.slice wa n wc) n (ints ws)
theorem BenchT.keep{h h':Heap}{bb mb:Nat}{sa:Option Addr}{n c:Nat}{kerf:Int}{wa:Option Addr}{wc:Nat}{kl:List Kd}{ws:List Int}{t:Tab}(B:BenchT h bb mb sa n c kerf wa wc kl ws t)(hw:WF h)(hn:h.next≤h'.next)(ha:∀z,z<h.next→(∃v o s,h.get z=some (.cells v o s))∨(∃m,h.get z=some (.map m))→h'.get z=h.get z):BenchT h' bb mb sa n c kerf wa wc kl ws t:=
 ⟨(ha _ (WF.get_lt hw B.gb) (.inl ⟨_,_,_,B.gb⟩)).trans B.gb,(ha _ (WF.get_lt hw B.gm) (.inr ⟨_,B.gm⟩)).trans B.gm,SliceOf.agree B.hks hn fun b vs o s hb he=>ha b hb (.inl ⟨_,_,_,he⟩),SliceOf.agree B.hws hn fun b vs o s hb he=>ha b hb (.inl ⟨_,_,_,he⟩)⟩
theorem BenchT.ext{h h':Heap}{bb mb:Nat}{sa:Option Addr}{n c:Nat}{kerf:Int}{wa:Option Addr}{wc:Nat}{kl:List Kd}{ws:List Int}{t:Tab}(B:BenchT h bb mb sa n c kerf wa wc kl ws t)(hw:WF h)(x:Ext h h'):BenchT h' bb mb sa n c kerf wa wc kl ws t:=B.keep hw x.next fun z hz _=>x.old z hz
structure PX (H:Heap) (l p6:Nat) (L2:AObj) (D:List (Nat×Nat)→Prop) (H':Heap):Prop where
 old:∀z,z<H.next→z≠l→z≠p6→H'.get z=H.get z
 nx:H.next≤H'.next
 loop:H'.get l=some L2
 out:∃ns q c,D ns∧H.next≤q∧q<H'.next∧(ns.length≤c∧(c=UNK∨c<1000000))∧H'.get p6=some (.cells [.slice (some ⟨q,0,none⟩) ns.length c] true 1)∧H'.get q=some (.cells (ncs ns) true 2)
end Go.A.Pk
end
section
set_option maxRecDepth 100000
namespace Go.A.Pk
variable {T:Nat→Option AFunc}
def NoughtP(x:Int×Int):Prop:=x.1<1∨x.2<1
instance(x:Int×Int):Decidable (NoughtP x):=by unfold NoughtP;infer_instance
theorem PlanQ.gc{kerf:Int}{ws:List Int}{kl:List Kd}{t:Tab}{p:Int×Int}{h:Heap}(v:Value)(h1:Heap)(hv:noRef v=true)(q:PlanQ kerf ws kl t p v h1):PlanQ kerf ws kl t p v h:=by
 obtain⟨ns,a,c,R,rfl,s,u⟩:=q
 have hu:U2 h (.slice a ns.length c):=fun b o n e=>by cases e;simp[noRef,flatL,flat,scalL,scal,scal1]at hv
 refine⟨ns,a,c,R,rfl,?_,hu,u.2⟩
 clear u
 generalize ns.length=n at*
 generalize ncs ns=cs at*
 cases s with
 |nil=>exact .nil
 |mem s _=>simp[noRef,flatL,flat,scalL,scal,scal1]at hv
theorem PX.log{H:Heap}{l p6:Nat}{L2:AObj}{D:List (Nat×Nat)→Prop}{H':Heap}(m:List Nat)(p:PX H l p6 L2 D H'):PX H l p6 L2 D {H' with log:=m}:=⟨p.old,p.nx,p.loop,p.out⟩
end Go.A.Pk
end
