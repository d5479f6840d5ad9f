/- Walks of functions, plain laws, the table. -/
import Derived.Test.YteafdpbjocdbbaaGreatDoorWD
import Derived.Test.YteafdpbjocdbbaaGreatDoorWG
import Derived.Carry
import Derived.Lib.SmallJoins
import Derived.Deep.Slices
import Derived.Deep.Fields
import Derived.Test.YteafdpbjocdbbaaGreatDoorProg
import Derived.SizedLaws
import Derived.KernelRfl
import Derived.Test.YteafdpbjocdbbaaGreatDoorWH
import Derived.Test.YteafdpbjocdbbaaGreatDoorWT
set_option linter.all false
section
set_option maxRecDepth 100000
namespace Go.A.Pk
variable {T:Nat→Option AFunc}
structure Kd where
 id:Int
 w:Int
 h:Int
 worth:Int
 turn:Bool
def kc(k:Kd):List Value:=[.int .i64 k.id, .int .i64 k.w, .int .i64 k.h, .int .i64 k.worth, .bool k.turn]
def kcs:List Kd→List Value
 |[]=>[]
 |k::l=>kc k++kcs l
def Right(k:Kd):Prop:=(1≤k.id∧k.id≤1000000)∧(1≤k.w∧k.w≤16)∧(1≤k.h∧k.h≤16)∧(0≤k.worth∧k.worth≤1000000)
instance(k:Kd):Decidable (Right k):=by unfold Right;infer_instance
theorem kcs_length:∀(l:List Kd),(kcs l).length=l.length*5
 |[]=>rfl
 |k::l=>by simp[kcs,kc,kcs_length l];omega
theorem in77T(hp:primAS T)(hf:T 77=some f77){h:Heap}(hr:Rdy h){n a b:Int}(hn:a≤n∧n≤b):Pu T 77 [.int .i64 n, .int .i64 a, .int .i64 b] h (.bool true):=by
 refine .of hp hf hr rfl ?_
 refine y4 ?_;refine yM ?_;refine y3 ?_;refine y4 ?_;refine yM ?_;refine yM ?_
 refine yt ?_;refine yM ?_;refine yO ?_;refine yM ?_;refine yO ?_;refine yM ?_;refine yO ?_;refine yt ?_
 refine yT ?_;refine yM ?_;refine y3 ?_;refine wE_ret ?_
 exact endP_ret hr.log rfl rfl
theorem in77F(hp:primAS T)(hf:T 77=some f77){h:Heap}(hr:Rdy h){n a b:Int}(hn:¬ (a≤n∧n≤b)):Pu T 77 [.int .i64 n, .int .i64 a, .int .i64 b] h (.bool false):=by
 refine .of hp hf hr rfl ?_
 by_cases h1:a≤n
 ·refine y4 ?_;refine yM ?_;refine y3 ?_;refine y4 ?_;refine yM ?_;refine yM ?_
  refine yt ?_;refine yM ?_;refine yO ?_;refine yM ?_;refine yO ?_;refine yM ?_;refine yO ?_;refine yf ?_
  refine yT ?_;refine yM ?_;refine y3 ?_;refine wE_ret ?_
  exact endP_ret hr.log rfl rfl
 ·refine y4 ?_;refine yM ?_;refine y3 ?_;refine y4 ?_;refine yM ?_;refine yM ?_
  refine yf ?_;refine yM ?_;refine yP ?_;refine yP ?_;refine yP ?_;refine yU ?_;refine yM ?_;refine y3 ?_;refine wE_ret ?_
  exact endP_ret hr.log rfl rfl
theorem in80T(hp:primAS T)(hf:T 80=some f80){h:Heap}(hr:Rdy h){n a b:Int}(hn:a≤n∧n≤b):Pu T 80 [.int .i64 n, .int .i64 a, .int .i64 b] h (.bool true):=by
 refine .of hp hf hr rfl ?_
 refine y4 ?_;refine yM ?_;refine y3 ?_;refine y4 ?_;refine yM ?_;refine yM ?_
 refine yt ?_;refine yM ?_;refine yO ?_;refine yM ?_;refine yO ?_;refine yM ?_;refine yO ?_;refine yt ?_
 refine yT ?_;refine yM ?_;refine y3 ?_;refine wE_ret ?_
 exact endP_ret hr.log rfl rfl
theorem in80F(hp:primAS T)(hf:T 80=some f80){h:Heap}(hr:Rdy h){n a b:Int}(hn:¬ (a≤n∧n≤b)):Pu T 80 [.int .i64 n, .int .i64 a, .int .i64 b] h (.bool false):=by
 refine .of hp hf hr rfl ?_
 by_cases h1:a≤n
 ·refine y4 ?_;refine yM ?_;refine y3 ?_;refine y4 ?_;refine yM ?_;refine yM ?_
  refine yt ?_;refine yM ?_;refine yO ?_;refine yM ?_;refine yO ?_;refine yM ?_;refine yO ?_;refine yf ?_
  refine yT ?_;refine yM ?_;refine y3 ?_;refine wE_ret ?_
  exact endP_ret hr.log rfl rfl
 ·refine y4 ?_;refine yM ?_;refine y3 ?_;refine y4 ?_;refine yM ?_;refine yM ?_
  refine yf ?_;refine yM ?_;refine yP ?_;refine yP ?_;refine yP ?_;refine yU ?_;refine yM ?_;refine y3 ?_;refine wE_ret ?_
  exact endP_ret hr.log rfl rfl
end Go.A.Pk
end
section
namespace Go.A
open Go.ChangeShapes Go.WideShapes Go.ChangeAt Go.RowKit
section
variable {H:Type} {enc:TypeId×Value→H} {P:Program}
theorem trodAll_stays(hl:laidOutB P=true){W W':World}(hb:Below W.heap.size W W'):∀{ts:List TypeId} {vs:List Value} {ds:List (DataW H)} {ps:List MemPlace},(∀t∈ts,P.readableRec t=true∧t<P.types.size)→DataW.TrodAll enc P W 0 (fun _=>true) true ts vs ds ps→
 (∀x∈ps,x.block<W.heap.size)→DataW.TrodAll enc P W' 0 (fun b=>decide (b<W.heap.size)) true ts vs ds ps
 |[],vs,ds,ps,_,h,_=>by
  obtain⟨rfl,rfl,rfl⟩:=trodAll_nil h
  exact trodAll_mk0
 |t::ts,vs,ds,ps,hr,h,hlt=>by
  obtain⟨v,vs',d,ds',p,q,rfl,rfl,rfl,hd,hrest⟩:=trodAll_cons h
  have h1:=hr t (List.mem_cons_self ..)
  exact⟨p,q,Below.trod hl h1.1 h1.2 hd hb fun x hx=>hlt x (List.mem_append_left _ hx),trodAll_stays hl hb (fun t ht=>hr t (List.mem_cons_of_mem _ ht)) hrest fun x hx=>hlt x (List.mem_append_right _ hx),rfl⟩
theorem law_post{f:Func}{s:ChangeSpec}{W W':World}{args:Array Value}{ds gs:List (DataW H)}{before:List MemPlace}{tb:TypeId}(hW:DataW.Whole enc P f.params.toList s.vars false W args.toList ds gs before)(hv:s.vars=[])
 (hfn:(s.fn H ds).results=[.lit (.bool true)]∧(s.fn H ds).args=ds∧(s.fn H ds).vars=[])(hl:laidOutB P=true)(hr:∀t∈f.params.toList,P.readableRec t=true∧t<P.types.size)(hres:f.resultTypes= #[tb])(htb:P.underlying tb=some .bool)(hb:Below W.heap.size W W'):
 s.post enc P f false true false false W args (.bool true) W':=by
 have hW':=hW
 obtain⟨p,q,hA,hV,hpq,hz,hn⟩:=hW
 rw[hv]at hV
 obtain⟨rfl,rfl⟩:=trodVars_none hV
 have hbp:before=p:=by simpa using hpq
 subst hbp
 obtain⟨h1,h2,h3⟩:=hfn
 have hlt:∀x∈before,x.block<W.heap.size:=fun x hx=>by simpa using hW'.lt x hx
 refine⟨ds,[],before,[],before,[],hW',?_,?_,?_,hb.frame _,fun h=>by cases h⟩
 ·rw[List.append_nil,h1,hres]
  exact trodAll_cons_mk (shut_bool htb _) trodAll_mk0
 ·rw[List.append_nil,h2]
  exact trodAll_stays hl hb hr hA hlt
 ·rw[List.append_nil,h3,hv]
  rfl
end
end Go.A
end
section
set_option maxRecDepth 100000
namespace Go.A.Pk
open Go Go.Proofs Go.Joins Go.ChangeShapes Go.WideShapes Go.RowKit Go.Deep
instance:Inhabited Kd:=⟨⟨0,0,0,0,false⟩⟩
inductive KindsAt (W:World):Value→List Kd→Prop
 |nil:KindsAt W (.slice none 0 0) []
 |empty {b o cap c el fz}:W.heap[b]? =some (.cells c el fz)→cap<UNK→KindsAt W (.slice (some ⟨b,o,none⟩) 0 cap) []
 |full {b o cap c el fz} {l:List Kd}:W.heap[b]? =some (.cells c el fz)→l≠[]→l.length≤cap→cap<UNK→(∀j,j<l.length*5→c[o+j]? =(kcs l)[j]?)→KindsAt W (.slice (some ⟨b,o,none⟩) l.length cap) l
section
variable {H:Type} {enc:TypeId×Value→H} {W:World} {base:Nat} {spare:Nat→Bool} {held:Bool}
theorem cells3:Tryz.prog.cellsOf 3=1:=by kernel_rfl
theorem add_eq(b o n:Nat):(Addr.mk b o none).add n=⟨b,o+n,none⟩:=by
 unfold Addr.add
 by_cases h:n=0
 ·rw[if_pos h,h,Nat.add_zero]
 ·rw[if_neg h]
end
end Go.A.Pk
end
section
set_option maxRecDepth 100000
namespace Go.A.Pk
variable {T:Nat→Option AFunc}
def goodK(l:List Kd)(i:Nat):Bool:=match l[i]? with
 |some k=>decide (Right k)&& !(l.take i).any fun x=>x.id==k.id
 |none=>true
def good(kerf:Int)(l:List Kd)(i:Nat):Bool:=decide (0≤kerf∧kerf≤2)&&(List.range i).all (goodK l)
def chk(kerf:Int)(l:List Kd):Int:=if 12<l.length then 2 else if good kerf l l.length then 0 else 1
end Go.A.Pk
end
section
set_option maxRecDepth 100000
namespace Go.A.Pk
variable {T:Nat→Option AFunc}
theorem slice_elem1{h:Heap}{b o n:Nat}{l:List Value}(s:SliceAt h b o n 1 l){i:Nat}{x:Value}(hi:l[i]? =some x):∃vs own t,h.get b=some (.cells vs own t)∧lget vs (o+i*1)=some x:=by
 obtain⟨vs,own,t,h1,h2⟩:=s.obj
 refine⟨vs,own,t,h1,?_⟩
 rw[ltake_eq,ldrop_eq]at h2
 have hl:=s.len
 have hin:i<l.length:=(List.getElem?_eq_some_iff.1 hi).1
 rw[←h2,List.getElem?_take_of_lt (by omega),List.getElem?_drop]at hi
 rw[lget_eq,Nat.mul_one];exact hi
def asked(kerf:Int)(l:List Kd)(b:Prop)[Decidable b]:Int:=if chk kerf l=0 then(if b then 0 else 1)else chk kerf l
end Go.A.Pk
end
section
set_option maxRecDepth 100000
namespace Go.A.Pk
variable {T:Nat→Option AFunc}
inductive OwnK (lo:Nat) (h:Heap):Value→List Kd→Prop
 |nil:OwnK lo h (.slice none 0 0) []
 |empty {b}:lo≤b→b<h.next→h.get b=some (.cells [] true 5)→OwnK lo h (.slice (some ⟨b,0,none⟩) 0 0) []
 |full {b n l}:lo≤b→b<h.next→h.get b=some (.cells (kcs l) true 5)→n=l.length→n≠0→OwnK lo h (.slice (some ⟨b,0,none⟩) n UNK) l
theorem OwnK.slice{lo:Nat}{h:Heap}{v:Value}{l:List Kd}(s:OwnK lo h v l)(hn:l.length<1000000):SliceOf h 5 v l.length (kcs l):=by
 cases s with
 |nil=>exact .nil
 |empty h1 h2 h3=>exact .mem ⟨h2,⟨_,_,_,h3,rfl⟩,rfl⟩ (Nat.le_refl _)
 |full h1 h2 h3 h4 h5=>
  subst h4
  refine .mem ⟨h2,⟨_,_,_,h3,?_⟩,kcs_length l⟩ (by unfold UNK;omega)
  rw[ltake_eq,ldrop_eq,List.drop_zero,List.take_of_length_le (by rw[kcs_length];exact Nat.le_refl _)]
theorem OwnK.log{lo:Nat}{h:Heap}{v:Value}{l:List Kd}(s:OwnK lo h v l)(m:List Nat):OwnK lo {h with log:=m} v l:=by
 cases s with
 |nil=>exact .nil
 |empty h1 h2 h3=>exact .empty h1 h2 h3
 |full h1 h2 h3 h4 h5=>exact .full h1 h2 h3 h4 h5
theorem OwnK.ext{lo:Nat}{h h':Heap}{v:Value}{l:List Kd}(s:OwnK lo h v l)(x:Ext h h'):OwnK lo h' v l:=by
 have hx:=x.next
 cases s with
 |nil=>exact .nil
 |empty h1 h2 h3=>exact .empty h1 (by omega) ((x.old _ h2).trans h3)
 |full h1 h2 h3 h4 h5=>exact .full h1 (by omega) ((x.old _ h2).trans h3) h4 h5
def SawQ(er kerf:Int)(l:List Kd)(v:Value)(h:Heap):Prop:=∃s,v= .tuple #[.agg #[s, .int .i64 kerf], .int .i64 er]∧SliceOf h 5 s l.length (kcs l)
theorem SawQ.log{er kerf:Int}{l:List Kd}(v:Value)(h':Heap)(m:List Nat)(q:SawQ er kerf l v h'):SawQ er kerf l v {h' with log:=m}:=by
 obtain⟨s,h1,h2⟩:=q
 exact⟨s,h1,h2.log m⟩
theorem SawQ.gc{er kerf:Int}{l:List Kd}{h:Heap}(v:Value)(h1:Heap)(hv:noRef v=true)(q:SawQ er kerf l v h1):SawQ er kerf l v h:=by
 obtain⟨s,rfl,h2⟩:=q
 refine⟨s,rfl,?_⟩
 generalize l.length=n at*
 generalize kcs l=cs at*
 cases h2 with
 |nil=>exact .nil
 |mem s _=>simp[noRef,flatL,flat,scalL,scal,scal1]at hv
theorem OwnK.gc{lo:Nat}{l:List Kd}{h:Heap}(v:Value)(h1:Heap)(hv:noRef v=true)(q:OwnK lo h1 v l):OwnK lo h v l:=by
 cases q with
 |nil=>exact .nil
 |empty=>simp[noRef,flat,scal,scal1]at hv
 |full=>simp[noRef,flat,scal,scal1]at hv
end Go.A.Pk
end
section
set_option maxRecDepth 100000
namespace Go.A.Pk
variable {T:Nat→Option AFunc}
theorem SawQ.ret{er kerf:Int}{l:List Kd}{h:Heap}{s:Value}(h2:SliceOf h 5 s l.length (kcs l)):SawQ er kerf l (oneV [.agg (List.toArray [s, .int .i64 kerf]), .int .i64 er]) h:=⟨s,rfl,h2⟩
end Go.A.Pk
end
section
set_option maxRecDepth 100000
namespace Go.A.Pk
variable {T:Nat→Option AFunc}
def orErr(er:Int)(Q:Value→Heap→Prop)(v:Value)(h:Heap):Prop:=if er=0 then Q v h else SawQ er 0 [] v h
theorem orErr.gc{er:Int}{Q:Value→Heap→Prop}{h:Heap}(hQ:∀v h1,noRef v=true→Q v h1→Q v h)(v:Value)(h1:Heap)(hv:noRef v=true)(q:orErr er Q v h1):orErr er Q v h:=by
 unfold orErr at q⊢
 split
 ·rename_i h0;rw[if_pos h0]at q;exact hQ v h1 hv q
 ·rename_i h0;rw[if_neg h0]at q;exact SawQ.gc v h1 hv q
end Go.A.Pk
end
section
set_option maxRecDepth 100000
namespace Go.A.Pk
variable {T:Nat→Option AFunc}
def wb:Value→Option Nat
 | .slice (some a) _ _=>some a.block
 |_=>none
theorem OwnK.wb{lo:Nat}{h:Heap}{v:Value}{l:List Kd}(s:OwnK lo h v l){x:Nat}(hx:h.next≤x∨x<lo):wb v≠some x:=by
 cases s with
 |nil=>simp[Pk.wb]
 |empty h1 h2=>simp only[Pk.wb,ne_eq,Option.some.injEq];omega
 |full h1 h2=>simp only[Pk.wb,ne_eq,Option.some.injEq];omega
end Go.A.Pk
end
section
set_option maxRecDepth 100000
namespace Go.A.Pk
variable {T:Nat→Option AFunc}
theorem OwnK.form{lo:Nat}{h:Heap}{v:Value}{l:List Kd}(s:OwnK lo h v l):∃a c,v= .slice a l.length c:=by
 cases s with
 |nil=>exact⟨_,_,rfl⟩
 |empty=>exact⟨_,_,rfl⟩
 |full _ _ _ h4=>subst h4;exact⟨_,_,rfl⟩
end Go.A.Pk
end
section
set_option maxRecDepth 100000
namespace Go.A.Pk
variable {T:Nat→Option AFunc}
theorem Al.mono{f:Nat}{args:List Value}{h:Heap}{Q Q':Value→Heap→Prop}(H:Al T f args h Q)(hq:∀v h',Q v h'→Q' v h'):Al T f args h Q':=
 CW.mono H fun r h' ⟨hx,v,hv,q⟩=>⟨hx,v,hv,hq _ _ q⟩
end Go.A.Pk
end
section
set_option maxRecDepth 100000
open Go Go.A Go.Proofs
namespace Go.A.Pk
theorem ok19:Entry Tryz.prog 19 (.prim (pConst (.bool true))):= .prim (pConst_ok sound Tryz.func19 (of_decide_eq_true (by kernel_rfl)) (by kernel_rfl) (of_decide_eq_true (by kernel_rfl)) (by kernel_rfl) rfl StkQ.run)
end Go.A.Pk
end
section
set_option maxRecDepth 100000
namespace Go.A.Pk
open Go Go.Proofs Go.RowKit
theorem R.single{P:Program}{W:World}{n b d:Nat}{vs:List Value}{sz e:Nat}{c:Array Value}{el:TypeId}{fz:Nat×Nat}(hn:P.globals.size≤n)(hW:W.heap[b]? =some (.cells c el fz))(h1:d+vs.length≤e)(h2:e≤c.size)
 (hv:∀i,i<vs.length→∃v',c[d+i]? =some v'∧VR (fun x=>if x=n then some ⟨b,d,e,sz⟩else none) (gv vs i) v'):R P (fun x=>if x=n then some ⟨b,d,e,sz⟩else none) ⟨[(n, .cells vs false sz)],n+1,[]⟩ W:=by
 have hg:∀x o,(⟨[(n, .cells vs false sz)],n+1,[]⟩:Heap).get x=some o→x=n∧o= .cells vs false sz:=fun x o hx=>by
  simp only[Heap.get,getO,cond_eq_ite,beq_eq,decide_eq_true_eq]at hx
  split at hx
  ·rename_i he;cases hx;exact⟨he.symm,rfl⟩
  ·cases hx
 refine⟨Nat.le_succ_of_le hn,fun g o hgs hx=> ?_,fun x o hx=> ?_,fun x o hx=> ?_,fun x k hk=> ?_,fun x y o o' k k' hne hx hy=> ?_⟩
 ·obtain⟨rfl,_⟩:=hg _ _ hx;omega
 ·obtain⟨rfl,rfl⟩:=hg _ _ hx
  intro k hk
  dsimp only at hk
  rw[if_pos rfl]at hk
  cases hk
  exact⟨rfl,c,el,fz,hW,h1,h2,hv,fun h=>by cases h⟩
 ·obtain⟨rfl,_⟩:=hg _ _ hx;exact Nat.lt_succ_self _
 ·split at hk
  ·rename_i he;subst he;cases hk
   exact⟨Nat.lt_succ_self _,(Array.getElem?_eq_some_iff.1 hW).1⟩
  ·cases hk
 ·obtain⟨rfl,_⟩:=hg _ _ hx
  obtain⟨rfl,_⟩:=hg _ _ hy
  exact(hne rfl).elim
theorem St.below{μ μ':Mu}{h h':Heap}{W W':World}(s:St μ h W μ' h' W')(hro:∀b o,h.get b=some o→o.ro=true∨o.live=false):Below W.heap.size W W':=
 ⟨s.same.os,s.same.tape,s.same.out,s.le,fun r hr=>s.keep r hr fun⟨b,o,k,g1,g2,g3,_⟩=>by
  rcases hro b o g1 with q|q
  ·rw[q]at g3;cases g3
  ·rw[q]at g2;cases g2⟩
structure Laid (W:World) (sl:Value) (l:List Kd) (h:Heap) (μ:Mu) (v:Value) (n c:Nat) (a:Option Addr):Prop where
 rel:R Tryz.prog μ h W
 ro:∀b o,h.get b=some o→o.ro=true∨o.live=false
 rdy:Rdy h
 val:VR μ v sl
 form:v= .slice a n c
 at':SliceOf h 5 (.slice a n c) n (kcs l)
theorem KindsAt.laid{W:World}{sl:Value}{l:List Kd}(hk:KindsAt W sl l):∃h μ v n c a,Laid W sl l h μ v n c a:=by
 have hg:Tryz.prog.globals.size≤8:=of_decide_eq_true (by kernel_rfl)
 have hro:∀vs,∀b o,(⟨[(8, .cells vs false 5)],9,[]⟩:Heap).get b=some o→o.ro=true∨o.live=false:=fun vs b o hx=>by
  simp only[Heap.get,getO,cond_eq_ite]at hx
  split at hx
  ·cases hx;exact .inl rfl
  ·cases hx
 have hrd:∀vs,Rdy (⟨[(8, .cells vs false 5)],9,[]⟩:Heap):=fun vs=>⟨⟨by simp,fun b hb=>by simp at hb;subst hb;show 8<9;omega⟩,rfl⟩
 cases hk with
 |nil=>
  exact⟨⟨[],8,[]⟩,fun _=>none, .slice none 0 0,0,0,none,R.none hg,(fun b o hx=>by cases hx),⟨⟨by simp,fun b hb=>by simp at hb⟩,rfl⟩, .sliceN _ _,rfl, .nil⟩
 | @empty b o cap c el fz hW hc=>
   refine⟨⟨[(8, .cells [] false 5)],9,[]⟩,fun x=>if x=8 then some ⟨b,0,0,5⟩else none, .slice (some ⟨8,o,none⟩) 0 cap,0,cap,some ⟨8,o,none⟩,R.single hg hW (Nat.le_refl _) (Nat.zero_le _) (fun i hi=>by simp at hi),hro _,hrd _,?_,rfl,?_⟩
   ·have:=VR.slice (μ:=fun x=>if x=8 then some (⟨b,0,0,5⟩:Blk)else none) (b:=8) (o:=o) (l:=0) (c:=cap) (k:=⟨b,0,0,5⟩) (by simp) hc (Nat.zero_le _)
    simpa using this
   ·refine .mem ⟨by show 8<9;omega,⟨[],false,5,rfl,?_⟩,rfl⟩ (Nat.zero_le _)
    cases o<;>rfl
 | @full b o cap c el fz _ hW hne hl hc hat=>
   have hlen:=kcs_length l
   have hpos:0<l.length:=List.length_pos_iff.2 hne
   have hsz:o+l.length*5≤c.size:=by
    have h1:=hat (l.length*5-1) (by omega)
    have h2:(kcs l)[l.length*5-1]? =some ((kcs l)[l.length*5-1]'(by omega)):=List.getElem?_eq_getElem _
    rw[h2]at h1
    have:=(Array.getElem?_eq_some_iff.1 h1).1
    omega
   refine⟨⟨[(8, .cells (kcs l) false 5)],9,[]⟩,fun x=>if x=8 then some ⟨b,o,o+l.length*5,5⟩else none, .slice (some ⟨8,0,none⟩) l.length cap,l.length,cap,some ⟨8,0,none⟩,R.single hg hW (by rw[hlen];exact Nat.le_refl _) hsz (fun i hi=> ?_),hro _,hrd _,?_,rfl,?_⟩
   ·rw[hlen]at hi
    have h2:(kcs l)[i]? =some ((kcs l)[i]'(by omega)):=List.getElem?_eq_getElem _
    refine⟨_,(hat i hi).trans h2,?_⟩
    have e:gv (kcs l) i=(kcs l)[i]'(by omega):=by unfold gv;rw[lget_eq,h2];rfl
    rw[e]
    refine(VR.noRef ?_).1
    have hflat:∀(l:List Kd),∀x∈kcs l,noRef x=true:=fun l=>by
     induction l with
     |nil=>intro x hx;cases hx
     |cons k l ih=>
      intro x hx
      simp only[kcs,kc,List.mem_append,List.mem_cons,List.not_mem_nil,or_false]at hx
      rcases hx with(rfl|rfl|rfl|rfl|rfl)|hx
      ·rfl
      ·rfl
      ·rfl
      ·rfl
      ·rfl
      ·exact ih x hx
    exact hflat l _ (List.getElem_mem _)
   ·have:=VR.slice (μ:=fun x=>if x=8 then some (⟨b,o,o+l.length*5,5⟩:Blk)else none) (b:=8) (o:=0) (l:=l.length) (c:=cap) (k:=⟨b,o,o+l.length*5,5⟩) (by simp) hc hl
    simpa using this
   ·refine .mem ⟨by show 8<9;omega,⟨kcs l,false,5,rfl,?_⟩,hlen⟩ hl
    rw[ltake_eq,ldrop_eq,List.drop_zero,List.take_of_length_le (by omega)]
end Go.A.Pk
end
section
set_option maxRecDepth 100000
namespace Go.A.Pk
variable {T:Nat→Option AFunc}
def boardV(x:Nat×Nat):Value:= .agg #[.int .i64 x.1, .int .i64 x.2]
structure Yld (T:Nat→Option AFunc) (lo N l:Nat) (V:Nat×Nat→Value) (all:List (Nat×Nat)) (P:List (Nat×Nat)→Heap→Prop):Prop where
 yields:∀done x H,x∈all→Rdy H→N≤H.next→P done H→FW T (.yield l) [V x] H fun r H'=>r= .ret (.bool true)∧(∀z∈H'.log,lo≤z∧z<N)∧P (done++[x]) H'
 stable:∀done H H',P done H→N≤H'.next→(∀x,x<N→H'.get x=H.get x)→P done H'
theorem Yld.call(hp:primAS T){lo N l:Nat}{V:Nat×Nat→Value}{all:List (Nat×Nat)}{P:List (Nat×Nat)→Heap→Prop}(Y:Yld T lo N l V all P){base:Nat}{Q:XQ}{e:Env}{ds:Dfs}{h:Heap}{K:Env→Dfs→Heap→Prop}{dst:Option Nat}{done:List (Nat×Nat)}{x:Nat×Nat}(hx:x∈all)(hw:WF h)(hlo:lo≤h.next)(hN:N≤h.next)(hP:P done h)
 (hK:∀h',Lk lo h h'→(∀z,N≤z→z<h.next→h'.get z=h.get z)→P (done++[x]) h'→K (dstE e dst (.bool true)) ds h'):FW T (.yield l) [V x] {h with log:=[]} (KO K Q base dst e ds h.log):=by
 refine FW.mono' (FW.withAS hp (Y.yields done x _ hx (.of hw) hN (Y.stable _ _ _ hP hN fun _ _=>rfl)) rfl) ?_
 rintro r h2 ⟨hA,rfl,hl,hq⟩
 have hk:Lk lo {h with log:=[]} h2:=Lk.of_as hA hlo fun z hz=>(hl z hz).1
 refine⟨hK _ hk.call (fun z h1 h3=> ?_) (Y.stable _ _ _ hq (Nat.le_trans hN hA.next) fun _ _=>rfl)⟩
 exact hA.same z h3 h3 (lhas_false fun hm=>by have:=(hl z hm).2;omega)
def row(c n:Nat):List (Nat×Nat):=(List.range n).map fun i=>(c,i+1)
def boardsL:Nat→Nat→List (Nat×Nat)
 |0,_=>[]
 |w+1,h=>boardsL w h++row (w+1) h
def cutsL(a b:Nat):List (Nat×Nat):=row 3 (a-1)++row 4 (b-1)
end Go.A.Pk
end
