/- Walks of functions, plain laws, the table. -/
import Derived.Test.YteafdpbjocdbbaaGreatDoorWU1
import Derived.Test.YteafdpbjocdbbaaGreatDoorWF
import Derived.Test.YteafdpbjocdbbaaGreatDoorWU0
import Derived.Test.YteafdpbjocdbbaaGreatDoorWD
import Derived.Test.YteafdpbjocdbbaaGreatDoorWK
import Derived.Lib.ItoaLen
import Derived.Lib.ItoaNum
import Derived.Lib.LaidTab
import Derived.Test.YteafdpbjocdbbaaGreatDoorRows
import Derived.Test.YteafdpbjocdbbaaGreatDoorWH
import Derived.Test.YteafdpbjocdbbaaGreatDoorWT
set_option linter.all false
section
set_option maxRecDepth 100000
namespace Go.A.Pk
variable {T:Nat→Option AFunc}
def wsP(l:List Kd):List Int:=l.map (·.worth)
def tabP(kerf:Int)(l:List Kd)(w ht:Int):Tab:=tabL kerf (wsP l) l (boardsL w.toNat ht.toNat)
def PlanO(kerf:Int)(l:List Kd)(w ht:Int)(v:Value)(h:Heap):Prop:=∃ns a c,v= .tuple #[.slice a ns.length c, .int .i64 (asked kerf l (OnB w ht))]∧SliceOf h 2 (.slice a ns.length c) ns.length (ncs ns)∧(U2 h (.slice a ns.length c)∧(c=UNK∨c<1000000))∧
 (asked kerf l (OnB w ht)=0→PlanR kerf (wsP l) l (tabP kerf l w ht) (w,ht) ns)∧(asked kerf l (OnB w ht)≠0→ns=[])
theorem PlanO.log{kerf:Int}{l:List Kd}{w ht:Int}(v:Value)(h':Heap)(m:List Nat)(q:PlanO kerf l w ht v h'):PlanO kerf l w ht v {h' with log:=m}:=by
 obtain⟨ns,a,c,h1,h2,h3,h4⟩:=q
 exact⟨ns,a,c,h1,h2.log m,h3,h4⟩
theorem PlanO.gc{kerf:Int}{l:List Kd}{w ht:Int}{h:Heap}(v:Value)(h1:Heap)(hv:noRef v=true)(q:PlanO kerf l w ht v h1):PlanO kerf l w ht v h:=by
 obtain⟨ns,a,c,rfl,s,u,r⟩:=q
 have hu:U2 h (.slice a ns.length c):=fun b o n e=>by cases e;simp[noRef,flatL,flat,scalL,scal,scal1]at hv
 refine⟨ns,a,c,rfl,?_,⟨hu,u.2⟩,r⟩
 clear r u hu
 generalize ns.length=n at*
 generalize ncs ns=cs at*
 cases s with
 |nil=>exact .nil
 |mem s _=>simp[noRef,flatL,flat,scalL,scal,scal1]at hv
end Go.A.Pk
end
section
set_option maxRecDepth 100000
namespace Go.A.Pk
variable {T:Nat→Option AFunc}
def ncI:List (Nat×Int)→List Value
 |[]=>[]
 |x::l=>[.int .u8 x.1, .int .i64 x.2]++ncI l
theorem ncI_len:∀l,(ncI l).length=l.length*2
 |[]=>rfl
 |x::l=>by simp[ncI,ncI_len l];omega
theorem ncI_drop:∀(l:List (Nat×Int)) (i:Nat),(ncI l).drop (i*2)=ncI (l.drop i)
 |[],i=>by simp[ncI]
 |x::l,0=>by simp
 |x::l,i+1=>by
  rw[List.drop_succ_cons,←ncI_drop l i,show(i+1)*2=2+i*2 by omega,←List.drop_drop]
  rfl
structure Sm where
 ok:Bool
 worth:Int
 cells:Int
 depth:Int
 used:List Int
def z12:List Int:=[0,0,0,0,0,0,0,0,0,0,0,0]
def sm0:Sm:=⟨false,0,0,0,z12⟩
def isP(k:Kd)(kind:Nat)(p:Int×Int):Prop:=(kind=1∧k.w=p.1∧k.h=p.2)∨(kind=2∧k.turn=true∧k.h=p.1∧k.w=p.2)
instance(k:Kd)(kind:Nat)(p:Int×Int):Decidable (isP k kind p):=by unfold isP;infer_instance
structure TB (s:Sm) (m:Nat):Prop where
 worth:0≤s.worth∧s.worth≤1000000*m
 cells:0≤s.cells∧s.cells≤256*m
 depth:0≤s.depth∧s.depth≤m
 len:s.used.length=12
 used:∀u∈s.used,0≤u∧u≤m
theorem TB.zero(b:Bool)(m:Nat):TB {sm0 with ok:=b} m:=⟨by show(0:Int)≤0∧(0:Int)≤_;omega,by show(0:Int)≤0∧(0:Int)≤_;omega,by show(0:Int)≤0∧(0:Int)≤_;omega,rfl,fun u hu=>by
 have:u=0:=by simpa[sm0,z12]using hu
 omega⟩
section
variable {base:Nat} {h:Heap} {e:Env}
end
end Go.A.Pk
end
section
set_option maxRecDepth 100000
namespace Go.A.Pk
open Go Go.Proofs Go.Joins Go.ChangeShapes Go.WideShapes Go.RowKit Go.Deep
inductive CellsAt (W:World) (sz:Nat):Value→Nat→List Value→Prop
 |nil:CellsAt W sz (.slice none 0 0) 0 []
 |empty {b o cap c el fz}:W.heap[b]? =some (.cells c el fz)→cap<UNK→CellsAt W sz (.slice (some ⟨b,o,none⟩) 0 cap) 0 []
 |full {b o cap n c el fz} {cs:List Value}:W.heap[b]? =some (.cells c el fz)→n≠0→cs.length=n*sz→0<sz→n≤cap→cap<UNK→(∀j,j<n*sz→c[o+j]? =cs[j]?)→(∀x∈cs,noRef x=true)→CellsAt W sz (.slice (some ⟨b,o,none⟩) n cap) n cs
theorem noRef_kcs:∀(l:List Kd),∀x∈kcs l,noRef x=true
 |[],x,hx=>by cases hx
 |k::l,x,hx=>by
  simp only[kcs,kc,List.mem_append,List.mem_cons,List.not_mem_nil,or_false]at hx
  rcases hx with(rfl|rfl|rfl|rfl|rfl)|hx
  ·rfl
  ·rfl
  ·rfl
  ·rfl
  ·rfl
  ·exact noRef_kcs l x hx
theorem noRef_ncI:∀(l:List (Nat×Int)),∀x∈ncI l,noRef x=true
 |[],x,hx=>by cases hx
 |k::l,x,hx=>by
  simp only[ncI,List.mem_append,List.mem_cons,List.not_mem_nil,or_false]at hx
  rcases hx with(rfl|rfl)|hx
  ·rfl
  ·rfl
  ·exact noRef_ncI l x hx
theorem KindsAt.cells{W:World}{v:Value}{l:List Kd}(k:KindsAt W v l):CellsAt W 5 v l.length (kcs l):=by
 cases k with
 |nil=>exact .nil
 |empty h1 h2=>exact .empty h1 h2
 |full h1 h2 h3 h4 h5=>exact .full h1 (fun e=>h2 (List.length_eq_zero_iff.1 e)) (kcs_length l) (by omega) h3 h4 h5 (noRef_kcs l)
structure Ob where
 vs:List Value
 sz:Nat
 b:Nat
 d:Nat
 e:Nat
def obsL:Nat→List Ob→List (Nat×AObj)
 |_,[]=>[]
 |n,o::l=>(n, .cells o.vs false o.sz)::obsL (n+1) l
def obH(l:List Ob):Heap:=⟨obsL 8 l,8+l.length,[]⟩
def obM(l:List Ob):Mu:=fun x=>if 8≤x then(l[x-8]?).map fun o=>⟨o.b,o.d,o.e,o.sz⟩else none
structure ObOk (W:World) (μ:Mu) (o:Ob):Prop where
 ok:∃c el fz,W.heap[o.b]? =some (.cells c el fz)∧o.d+o.vs.length≤o.e∧o.e≤c.size∧∀i,i<o.vs.length→∃v',c[o.d+i]? =some v'∧VR μ (gv o.vs i) v'
theorem obsL_get:∀(l:List Ob) (n x:Nat),getO (obsL n l) x=if n≤x then(l[x-n]?).map fun o=> .cells o.vs false o.sz else none
 |[],n,x=>by simp[obsL,getO]
 |o::l,n,x=>by
  simp only[obsL,getO,cond_eq_ite,beq_eq,decide_eq_true_eq]
  by_cases hx:n=x
  ·subst hx
   rw[if_pos rfl,if_pos (Nat.le_refl _),Nat.sub_self]
   rfl
  ·rw[if_neg hx,obsL_get l (n+1) x]
   by_cases h1:n≤x
   ·rw[if_pos h1,if_pos (by omega),show x-n=(x-(n+1))+1 by omega,List.getElem?_cons_succ]
   ·rw[if_neg h1,if_neg (by omega)]
theorem obH_get(l:List Ob)(x:Nat):(obH l).get x=if 8≤x then(l[x-8]?).map fun o=> .cells o.vs false o.sz else none:=obsL_get l 8 x
theorem obH_some{l:List Ob}{x:Nat}{a:AObj}(h:(obH l).get x=some a):8≤x∧∃o,l[x-8]? =some o∧a= .cells o.vs false o.sz:=by
 rw[obH_get]at h
 split at h
 ·rename_i h8
  cases hl:l[x-8]? with
  |none=>rw[hl]at h;cases h
  |some o=>rw[hl]at h;cases h;exact⟨h8,o,rfl,rfl⟩
 ·cases h
theorem obM_some{l:List Ob}{x:Nat}{k:Blk}(h:obM l x=some k):8≤x∧∃o,l[x-8]? =some o∧k=⟨o.b,o.d,o.e,o.sz⟩:=by
 unfold obM at h
 split at h
 ·rename_i h8
  cases hl:l[x-8]? with
  |none=>rw[hl]at h;cases h
  |some o=>rw[hl]at h;cases h;exact⟨h8,o,rfl,rfl⟩
 ·cases h
theorem obH_ro{l:List Ob}:∀b o,(obH l).get b=some o→o.ro=true∨o.live=false:=fun b o hx=>by
 obtain⟨_,ob,_,rfl⟩:=obH_some hx
 exact .inl rfl
theorem obsL_keys:∀(l:List Ob) (n:Nat),((obsL n l).map (·.1)).Nodup∧∀b∈(obsL n l).map (·.1),n≤b∧b<n+l.length
 |[],n=>⟨by simp[obsL],fun b hb=>by simp[obsL]at hb⟩
 |o::l,n=>by
  obtain⟨h1,h2⟩:=obsL_keys l (n+1)
  refine⟨?_,fun b hb=> ?_⟩
  ·simp only[obsL,List.map_cons,List.nodup_cons]
   exact⟨fun q=>by have:=(h2 n q).1;omega,h1⟩
  ·simp only[obsL,List.map_cons,List.mem_cons]at hb
   rcases hb with rfl|hb
   ·simp
   ·have:=h2 b hb
    simp only[List.length_cons]
    omega
theorem CellsAt.lay{W:World}{sz n:Nat}{sl:Value}{cs:List Value}(s:CellsAt W sz sl n cs):∃ob:List Ob,(∀μ,∀o∈ob,ObOk W μ o)∧∀(L:List Ob) (i:Nat),(∀o,ob[0]? =some o→L[i]? =some o)→∃a c,VR (obM L) (.slice a n c) sl∧SliceOf (obH L) sz (.slice a n c) n cs∧c<UNK:=by
 cases s with
 |nil=>exact⟨[],(fun _ o ho=>by cases ho),fun L i _=>⟨none,0, .sliceN _ _, .nil,by unfold UNK;omega⟩⟩
 | @empty b o cap c el fz hW hc=>
   refine⟨[⟨[],sz,b,0,0⟩],fun μ o' ho=> ?_,fun L i hL=> ?_⟩
   ·rw[List.mem_singleton.1 ho]
    exact⟨c,el,fz,hW,Nat.le_refl _,Nat.zero_le _,fun i hi=>by cases hi⟩
   ·have hi:=hL _ rfl
    have hg:(obH L).get (8+i)=some (.cells [] false sz):=by rw[obH_get,if_pos (by omega),show 8+i-8=i by omega,hi];rfl
    have hm:obM L (8+i)=some ⟨b,0,0,sz⟩:=by unfold obM;rw[if_pos (by omega),show 8+i-8=i by omega,hi];rfl
    have hlt:=(List.getElem?_eq_some_iff.1 hi).1
    refine⟨some ⟨8+i,o,none⟩,cap,?_, .mem ⟨by show 8+i<8+L.length;omega,⟨[],false,sz,hg,?_⟩,by simp⟩ (Nat.zero_le _),hc⟩
    ·have:=VR.slice (μ:=obM L) (b:=8+i) (o:=o) (l:=0) (c:=cap) (k:=⟨b,0,0,sz⟩) hm hc (Nat.zero_le _)
     simpa using this
    ·rw[ldrop_eq,List.drop_nil]
     cases 0*sz<;>rfl
 | @full b o cap _ c el fz _ hW hne hlen hsz hl hc hat hno=>
   have hpos:0<n*sz:=Nat.mul_pos (Nat.pos_of_ne_zero hne) hsz
   have hsize:o+n*sz≤c.size:=by
    have h1:=hat (n*sz-1) (by omega)
    have h2:cs[n*sz-1]? =some (cs[n*sz-1]'(by omega)):=List.getElem?_eq_getElem _
    rw[h2]at h1
    have:=(Array.getElem?_eq_some_iff.1 h1).1
    omega
   refine⟨[⟨cs,sz,b,o,o+n*sz⟩],fun μ o' ho=> ?_,fun L i hL=> ?_⟩
   ·rw[List.mem_singleton.1 ho]
    refine⟨c,el,fz,hW,by show o+cs.length≤o+n*sz;omega,hsize,fun i hi=> ?_⟩
    have hi':i<cs.length:=hi
    have h2:cs[i]? =some (cs[i]'hi'):=List.getElem?_eq_getElem _
    refine⟨_,(hat i (by omega)).trans h2,?_⟩
    have e:gv cs i=cs[i]'hi':=by unfold gv;rw[lget_eq,h2];rfl
    show VR μ (gv cs i) _
    rw[e]
    exact(VR.noRef (hno _ (List.getElem_mem _))).1
   ·have hi:=hL _ rfl
    have hg:(obH L).get (8+i)=some (.cells cs false sz):=by rw[obH_get,if_pos (by omega),show 8+i-8=i by omega,hi];rfl
    have hm:obM L (8+i)=some ⟨b,o,o+n*sz,sz⟩:=by unfold obM;rw[if_pos (by omega),show 8+i-8=i by omega,hi];rfl
    have hlt:=(List.getElem?_eq_some_iff.1 hi).1
    refine⟨some ⟨8+i,0,none⟩,cap,?_, .mem ⟨by show 8+i<8+L.length;omega,⟨cs,false,sz,hg,?_⟩,hlen⟩ hl,hc⟩
    ·have:=VR.slice (μ:=obM L) (b:=8+i) (o:=0) (l:=n) (c:=cap) (k:=⟨b,o,o+n*sz,sz⟩) hm hc hl
     simpa using this
    ·rw[ltake_eq,ldrop_eq,List.drop_zero,List.take_of_length_le (by omega)]
section
variable {H:Type} {enc:TypeId×Value→H} {W:World} {base:Nat} {spare:Nat→Bool} {held:Bool}
theorem cells5:Tryz.prog.cellsOf 5=1:=by kernel_rfl
theorem cells115:Tryz.prog.cellsOf 115=2:=by kernel_rfl
theorem ncI_get:∀{l:List (Nat×Int)} {i:Nat} {k:Nat×Int} {j:Nat},l[i]? =some k→j<2→(ncI l)[i*2+j]? =([.int .u8 k.1, .int .i64 k.2]:List Value)[j]?
 |[],i,k,j,h,_=>by simp at h
 |x::l,0,k,j,h,hj=>by
  simp only[List.getElem?_cons_zero,Option.some.injEq]at h
  subst h
  simp only[ncI,Nat.zero_mul,Nat.zero_add]
  rw[List.getElem?_append_left (by simpa using hj)]
 |x::l,i+1,k,j,h,hj=>by
  rw[List.getElem?_cons_succ]at h
  have:=ncI_get (l:=l) h hj
  simp only[ncI]
  rw[List.getElem?_append_right (by simp;omega),←this]
  congr 1
  simp;omega
end
end Go.A.Pk
end
section
set_option maxRecDepth 100000
namespace Go.A
theorem WF.get_lt2{h:Heap}(w:WF h){x:Nat}{o:AObj}(hx:h.get x=some o):x<h.next:=Pk.WF.get_lt w hx
theorem Glob.ext{h h':Heap}(g:Glob h)(w:WF h)(x:Ext h h'):Glob h':=by
 obtain⟨a,⟨t1,p1,b⟩,t2,p2,c⟩:=g
 exact⟨(x.old _ (w.get_lt2 a)).trans a,⟨t1,p1,(x.old _ (w.get_lt2 b)).trans b⟩,t2,p2,(x.old _ (w.get_lt2 c)).trans c⟩
theorem Glob.log{h:Heap}(g:Glob h)(m:List Nat):Glob {h with log:=m}:=⟨g.pow,g.syn,g.rng⟩
end Go.A
namespace Go.A.Pk
variable {T:Nat→Option AFunc}
def wordP(k:Nat)(z:Int):List UInt8×Bool:=
 if k=0 then([46],decide (z=0))
 else if k=1 then(112::Lib.itoa z,decide (0≤z∧z≤11))
 else if k=2 then(116::Lib.itoa z,decide (0≤z∧z≤11))
 else if k=3 then(97::Lib.itoa z,decide (1≤z∧z≤15))
 else if k=4 then(108::Lib.itoa z,decide (1≤z∧z≤15))
 else([],false)
structure FnsWo (T:Nat→Option AFunc):Prop where
 p:primAS T
 f77:T 77=some f77
 f86:T 86=some f86
 c127:∀{h:Heap} {n:Int},Rdy h→Glob h→ -9223372036854775808≤n→n≤9223372036854775807→Pu T 127 [.int .i64 n] h (.string (S (Lib.itoa n)))
theorem in77X(hp:primAS T)(hf:T 77=some f77){h:Heap}(hr:Rdy h){n a b:Int}:Pu T 77 [.int .i64 n, .int .i64 a, .int .i64 b] h (.bool (decide (a≤n∧n≤b))):=by
 by_cases q:a≤n∧n≤b
 ·rw[decide_eq_true q];exact in77T hp hf hr q
 ·rw[decide_eq_false q];exact in77F hp hf hr q
theorem itoa_len(z:Int)(h1: -9223372036854775808≤z)(h2:z≤9223372036854775807):(Lib.itoa z).length≤100:=by
 unfold Lib.itoa
 split
 ·have:=Lib.nDigits_le20 z.natAbs (by omega)
  rw[List.length_cons,Lib.decDigits_length];omega
 ·have:=Lib.nDigits_le20 z.toNat (by omega)
  rw[Lib.decDigits_length];omega
set_option maxHeartbeats 8000000 in
theorem word86(F:FnsWo T){h:Heap}(hr:Rdy h)(hG:Glob h){k:Nat}{z:Int}(h1: -9223372036854775808≤z)(h2:z≤9223372036854775807):
 Pu T 86 [.agg #[.int .u8 k, .int .i64 z]] h (.tuple #[.string (S (wordP k z).1), .bool (wordP k z).2]):=by
 refine .of F.p F.f86 hr rfl ?_
 have hx:Ext h (h.push (.cells [.int .u8 k, .int .i64 z] true 1)):=(Ext.refl h).push _
 have hrd:Rdy {h.push (.cells [.int .u8 k, .int .i64 z] true 1)with log:=[]}:= .of (hx.wf hr.wf)
 have C1:=F.c127 hrd ((Glob.ext hG hr.wf hx).log []) h1 h2
 have hil:=itoa_len z h1 h2
 by_cases k0:k=0
 ·subst k0
  have e:wordP 0 z=([46],decide (z=0)):=rfl
  rw[e]
  by_cases hz:z=0
  ·rw[decide_eq_true hz]
   refine y4 ?_;refine yB ?_;refine yM ?_;refine yM ?_;refine y3 ?_;refine wE_seq ?_;refine y4 ?_
   refine yF ?_;refine yL ?_;refine y3 ?_;refine wE_block ?_;refine y4 ?_;refine yt ?_;refine yM ?_;refine y3 ?_;refine yY ?_;refine wE_seq ?_;refine wE_draw ?_;refine qF ?_
   refine qL ?_
   refine wD_quiet rfl rfl rfl (by exact rfl) (by exact rfl) (by exact rfl) (a_num (by exact rfl) (by exact rfl) (by exact m_eqlT (by omega))) ?_;refine qM ?_;refine qM ?_;refine wD_nil ?_
   refine y1 ?_;refine kS_n ?_;refine wE_ret ?_;refine kB_r ?_;refine kS_r ?_
   exact endP_ret hr.log rfl rfl
  ·rw[decide_eq_false hz]
   refine y4 ?_;refine yB ?_;refine yM ?_;refine yM ?_;refine y3 ?_;refine wE_seq ?_;refine y4 ?_
   refine yF ?_;refine yL ?_;refine y3 ?_;refine wE_block ?_;refine y4 ?_;refine yt ?_;refine yM ?_;refine y3 ?_;refine yY ?_;refine wE_seq ?_;refine wE_draw ?_;refine qF ?_
   refine qL ?_
   refine wD_quiet rfl rfl rfl (by exact rfl) (by exact rfl) (by exact rfl) (a_num (by exact rfl) (by exact rfl) (by exact m_eqlF (by omega))) ?_;refine qM ?_;refine qM ?_;refine wD_nil ?_
   refine y1 ?_;refine kS_n ?_;refine wE_ret ?_;refine kB_r ?_;refine kS_r ?_
   exact endP_ret hr.log rfl rfl
 by_cases k1:k=1
 ·subst k1
  have e:wordP 1 z=(112::Lib.itoa z,decide (0≤z∧z≤11)):=rfl
  rw[e]
  have ha:numOp .add (.int .u8 ((1:Nat):Int)) (.int .u8 1)=some (.int .u8 2):=rfl
  have C2:=in77X F.p F.f77 hrd (n:=z) (a:=0) (b:=11)
  refine y4 ?_;refine yB ?_;refine yM ?_;refine yM ?_;refine y3 ?_;refine wE_seq ?_;refine y4 ?_
  refine yF ?_;refine yL ?_;refine y3 ?_;refine wE_block ?_;refine y4 ?_;refine yf ?_;refine yM ?_;refine y3 ?_;refine yX ?_;refine wE_seq ?_;refine y4 ?_;refine yt ?_;refine yM ?_;refine y3 ?_;refine yY ?_;refine wE_skip ?_;refine kS_n ?_;refine yY ?_;refine wE_seq ?_;refine wE_draw ?_;refine qF ?_
  refine qL ?_
  refine qF ?_
  refine qL ?_
  refine wD_quiet rfl rfl rfl (by exact rfl) (by exact rfl) (by exact rfl) (a_num (by exact rfl) (by exact rfl) (by with_reducible assumption)) ?_;refine wD_quiet rfl rfl rfl (by exact rfl) (by exact rfl) (by exact rfl) (a_sliceSS (by exact rfl) (by exact rfl) (by exact rfl) (by(simp;done)) (by(simp;done))) ?_
  refine qF ?_
  refine qL ?_
  refine qF ?_
  refine qL ?_
  refine qC ?_
  refine FW.puD C1 (by apply ra_keepC rfl (rq_quiet rfl (a_load (by exact rfl) (by(simp(disch:=first|omega|(simp only[z1,z2];omega))only[z3,z4,z5,z6,z7,z1,z2];exact rfl)) (by exact rfl)) (by exact sv_int _ _)) rfl;apply ra_keepC rfl (rq_quiet rfl (a_faddr (by exact rfl)) (by exact sv_ptr _)) rfl;apply ra_dropC rfl;apply ra_dropC rfl;apply ra_keepC rfl (rq_quiet rfl (a_sliceSS (by exact rfl) (by exact rfl) (by exact rfl) (by(simp;done)) (by(simp;done))) (by exact sv_string _)) rfl;apply ra_keepC rfl (rq_quiet rfl (a_num (by exact rfl) (by exact rfl) (by with_reducible assumption)) (by exact sv_int _ _)) rfl;apply ra_keepC rfl (rq_quiet rfl (a_load (by exact rfl) (by(simp(disch:=first|omega|(simp only[z1,z2];omega))only[z3,z4,z5,z6,z7,z1,z2];exact rfl)) (by exact rfl)) (by exact sv_int _ _)) rfl;apply ra_keepC rfl (rq_quiet rfl (a_faddr (by exact rfl)) (by exact sv_ptr _)) rfl;apply ra_keepC rfl (rq_quiet rfl (a_load (by exact rfl) (by(simp(disch:=first|omega|(simp only[z1,z2];omega))only[z3,z4,z5,z6,z7,z1,z2];exact rfl)) (by exact rfl)) (by exact sv_int _ _)) rfl;apply ra_keepC rfl (rq_quiet rfl (a_faddr (by exact rfl)) (by exact sv_ptr _)) rfl;exact ra_nil) ?_
  refine wD_quiet rfl rfl rfl (by exact rfl) (by exact rfl) (by exact rfl) (a_num (by exact rfl) (by exact rfl) (by exact m_catS (by simp;omega))) ?_
  refine qC ?_
  refine FW.puD C2 (by apply ra_keepC rfl (rq_quiet rfl (a_num (by exact rfl) (by exact rfl) (by exact m_catS (by simp;omega))) (by exact sv_string _)) rfl;apply ra_dropC rfl;apply ra_dropC rfl;apply ra_keepC rfl (rq_quiet rfl (a_sliceSS (by exact rfl) (by exact rfl) (by exact rfl) (by(simp;done)) (by(simp;done))) (by exact sv_string _)) rfl;apply ra_keepC rfl (rq_quiet rfl (a_num (by exact rfl) (by exact rfl) (by with_reducible assumption)) (by exact sv_int _ _)) rfl;apply ra_keepC rfl (rq_quiet rfl (a_load (by exact rfl) (by(simp(disch:=first|omega|(simp only[z1,z2];omega))only[z3,z4,z5,z6,z7,z1,z2];exact rfl)) (by exact rfl)) (by exact sv_int _ _)) rfl;apply ra_keepC rfl (rq_quiet rfl (a_faddr (by exact rfl)) (by exact sv_ptr _)) rfl;apply ra_keepC rfl (rq_quiet rfl (a_load (by exact rfl) (by(simp(disch:=first|omega|(simp only[z1,z2];omega))only[z3,z4,z5,z6,z7,z1,z2];exact rfl)) (by exact rfl)) (by exact sv_int _ _)) rfl;apply ra_keepC rfl (rq_quiet rfl (a_faddr (by exact rfl)) (by exact sv_ptr _)) rfl;exact ra_nil) ?_
  refine qM ?_;refine qM ?_;refine wD_nil ?_;refine y1 ?_;refine kS_n ?_;refine wE_ret ?_;refine kB_r ?_;refine kS_r ?_
  exact endP_ret hr.log rfl rfl
 by_cases k2:k=2
 ·subst k2
  have e:wordP 2 z=(116::Lib.itoa z,decide (0≤z∧z≤11)):=rfl
  rw[e]
  have ha:numOp .add (.int .u8 ((2:Nat):Int)) (.int .u8 1)=some (.int .u8 3):=rfl
  have C2:=in77X F.p F.f77 hrd (n:=z) (a:=0) (b:=11)
  refine y4 ?_;refine yB ?_;refine yM ?_;refine yM ?_;refine y3 ?_;refine wE_seq ?_;refine y4 ?_
  refine yF ?_;refine yL ?_;refine y3 ?_;refine wE_block ?_;refine y4 ?_;refine yf ?_;refine yM ?_;refine y3 ?_;refine yX ?_;refine wE_seq ?_;refine y4 ?_;refine yf ?_;refine yM ?_;refine y3 ?_;refine yX ?_;refine wE_region ?_;refine yt ?_;refine yM ?_;refine y3 ?_;refine yY ?_;refine wE_seq ?_;refine wE_draw ?_;refine qF ?_
  refine qL ?_
  refine qF ?_
  refine qL ?_
  refine wD_quiet rfl rfl rfl (by exact rfl) (by exact rfl) (by exact rfl) (a_num (by exact rfl) (by exact rfl) (by with_reducible assumption)) ?_;refine wD_quiet rfl rfl rfl (by exact rfl) (by exact rfl) (by exact rfl) (a_sliceSS (by exact rfl) (by exact rfl) (by exact rfl) (by(simp;done)) (by(simp;done))) ?_
  refine qF ?_
  refine qL ?_
  refine qF ?_
  refine qL ?_
  refine qC ?_
  refine FW.puD C1 (by apply ra_keepC rfl (rq_quiet rfl (a_load (by exact rfl) (by(simp(disch:=first|omega|(simp only[z1,z2];omega))only[z3,z4,z5,z6,z7,z1,z2];exact rfl)) (by exact rfl)) (by exact sv_int _ _)) rfl;apply ra_keepC rfl (rq_quiet rfl (a_faddr (by exact rfl)) (by exact sv_ptr _)) rfl;apply ra_dropC rfl;apply ra_dropC rfl;apply ra_keepC rfl (rq_quiet rfl (a_sliceSS (by exact rfl) (by exact rfl) (by exact rfl) (by(simp;done)) (by(simp;done))) (by exact sv_string _)) rfl;apply ra_keepC rfl (rq_quiet rfl (a_num (by exact rfl) (by exact rfl) (by with_reducible assumption)) (by exact sv_int _ _)) rfl;apply ra_keepC rfl (rq_quiet rfl (a_load (by exact rfl) (by(simp(disch:=first|omega|(simp only[z1,z2];omega))only[z3,z4,z5,z6,z7,z1,z2];exact rfl)) (by exact rfl)) (by exact sv_int _ _)) rfl;apply ra_keepC rfl (rq_quiet rfl (a_faddr (by exact rfl)) (by exact sv_ptr _)) rfl;apply ra_keepC rfl (rq_quiet rfl (a_load (by exact rfl) (by(simp(disch:=first|omega|(simp only[z1,z2];omega))only[z3,z4,z5,z6,z7,z1,z2];exact rfl)) (by exact rfl)) (by exact sv_int _ _)) rfl;apply ra_keepC rfl (rq_quiet rfl (a_faddr (by exact rfl)) (by exact sv_ptr _)) rfl;exact ra_nil) ?_
  refine wD_quiet rfl rfl rfl (by exact rfl) (by exact rfl) (by exact rfl) (a_num (by exact rfl) (by exact rfl) (by exact m_catS (by simp;omega))) ?_
  refine qC ?_
  refine FW.puD C2 (by apply ra_keepC rfl (rq_quiet rfl (a_num (by exact rfl) (by exact rfl) (by exact m_catS (by simp;omega))) (by exact sv_string _)) rfl;apply ra_dropC rfl;apply ra_dropC rfl;apply ra_keepC rfl (rq_quiet rfl (a_sliceSS (by exact rfl) (by exact rfl) (by exact rfl) (by(simp;done)) (by(simp;done))) (by exact sv_string _)) rfl;apply ra_keepC rfl (rq_quiet rfl (a_num (by exact rfl) (by exact rfl) (by with_reducible assumption)) (by exact sv_int _ _)) rfl;apply ra_keepC rfl (rq_quiet rfl (a_load (by exact rfl) (by(simp(disch:=first|omega|(simp only[z1,z2];omega))only[z3,z4,z5,z6,z7,z1,z2];exact rfl)) (by exact rfl)) (by exact sv_int _ _)) rfl;apply ra_keepC rfl (rq_quiet rfl (a_faddr (by exact rfl)) (by exact sv_ptr _)) rfl;apply ra_keepC rfl (rq_quiet rfl (a_load (by exact rfl) (by(simp(disch:=first|omega|(simp only[z1,z2];omega))only[z3,z4,z5,z6,z7,z1,z2];exact rfl)) (by exact rfl)) (by exact sv_int _ _)) rfl;apply ra_keepC rfl (rq_quiet rfl (a_faddr (by exact rfl)) (by exact sv_ptr _)) rfl;exact ra_nil) ?_
  refine qM ?_;refine qM ?_;refine wD_nil ?_;refine y1 ?_;refine kS_n ?_;refine wE_ret ?_;refine kB_r ?_;refine kS_r ?_
  exact endP_ret hr.log rfl rfl
 by_cases k3:k=3
 ·subst k3
  have e:wordP 3 z=(97::Lib.itoa z,decide (1≤z∧z≤15)):=rfl
  rw[e]
  have ha:numOp .add (.int .u8 ((3:Nat):Int)) (.int .u8 1)=some (.int .u8 4):=rfl
  have C2:=in77X F.p F.f77 hrd (n:=z) (a:=1) (b:=15)
  refine y4 ?_;refine yB ?_;refine yM ?_;refine yM ?_;refine y3 ?_;refine wE_seq ?_;refine y4 ?_
  refine yF ?_;refine yL ?_;refine y3 ?_;refine wE_block ?_;refine y4 ?_;refine yf ?_;refine yM ?_;refine y3 ?_;refine yX ?_;refine wE_seq ?_;refine y4 ?_;refine yf ?_;refine yM ?_;refine y3 ?_;refine yX ?_;refine wE_region ?_;refine yf ?_;refine yM ?_;refine y3 ?_;refine yX ?_;refine wE_seq ?_;refine y4 ?_;refine yt ?_;refine yM ?_;refine y3 ?_;refine yY ?_;refine wE_skip ?_;refine kS_n ?_;refine yY ?_;refine wE_seq ?_;refine wE_draw ?_;refine qF ?_
  refine qL ?_
  refine qF ?_
  refine qL ?_
  refine wD_quiet rfl rfl rfl (by exact rfl) (by exact rfl) (by exact rfl) (a_num (by exact rfl) (by exact rfl) (by with_reducible assumption)) ?_;refine wD_quiet rfl rfl rfl (by exact rfl) (by exact rfl) (by exact rfl) (a_sliceSS (by exact rfl) (by exact rfl) (by exact rfl) (by(simp;done)) (by(simp;done))) ?_
  refine qF ?_
  refine qL ?_
  refine qF ?_
  refine qL ?_
  refine qC ?_
  refine FW.puD C1 (by apply ra_keepC rfl (rq_quiet rfl (a_load (by exact rfl) (by(simp(disch:=first|omega|(simp only[z1,z2];omega))only[z3,z4,z5,z6,z7,z1,z2];exact rfl)) (by exact rfl)) (by exact sv_int _ _)) rfl;apply ra_keepC rfl (rq_quiet rfl (a_faddr (by exact rfl)) (by exact sv_ptr _)) rfl;apply ra_dropC rfl;apply ra_dropC rfl;apply ra_keepC rfl (rq_quiet rfl (a_sliceSS (by exact rfl) (by exact rfl) (by exact rfl) (by(simp;done)) (by(simp;done))) (by exact sv_string _)) rfl;apply ra_keepC rfl (rq_quiet rfl (a_num (by exact rfl) (by exact rfl) (by with_reducible assumption)) (by exact sv_int _ _)) rfl;apply ra_keepC rfl (rq_quiet rfl (a_load (by exact rfl) (by(simp(disch:=first|omega|(simp only[z1,z2];omega))only[z3,z4,z5,z6,z7,z1,z2];exact rfl)) (by exact rfl)) (by exact sv_int _ _)) rfl;apply ra_keepC rfl (rq_quiet rfl (a_faddr (by exact rfl)) (by exact sv_ptr _)) rfl;apply ra_keepC rfl (rq_quiet rfl (a_load (by exact rfl) (by(simp(disch:=first|omega|(simp only[z1,z2];omega))only[z3,z4,z5,z6,z7,z1,z2];exact rfl)) (by exact rfl)) (by exact sv_int _ _)) rfl;apply ra_keepC rfl (rq_quiet rfl (a_faddr (by exact rfl)) (by exact sv_ptr _)) rfl;exact ra_nil) ?_
  refine wD_quiet rfl rfl rfl (by exact rfl) (by exact rfl) (by exact rfl) (a_num (by exact rfl) (by exact rfl) (by exact m_catS (by simp;omega))) ?_
  refine qC ?_
  refine FW.puD C2 (by apply ra_keepC rfl (rq_quiet rfl (a_num (by exact rfl) (by exact rfl) (by exact m_catS (by simp;omega))) (by exact sv_string _)) rfl;apply ra_dropC rfl;apply ra_dropC rfl;apply ra_keepC rfl (rq_quiet rfl (a_sliceSS (by exact rfl) (by exact rfl) (by exact rfl) (by(simp;done)) (by(simp;done))) (by exact sv_string _)) rfl;apply ra_keepC rfl (rq_quiet rfl (a_num (by exact rfl) (by exact rfl) (by with_reducible assumption)) (by exact sv_int _ _)) rfl;apply ra_keepC rfl (rq_quiet rfl (a_load (by exact rfl) (by(simp(disch:=first|omega|(simp only[z1,z2];omega))only[z3,z4,z5,z6,z7,z1,z2];exact rfl)) (by exact rfl)) (by exact sv_int _ _)) rfl;apply ra_keepC rfl (rq_quiet rfl (a_faddr (by exact rfl)) (by exact sv_ptr _)) rfl;apply ra_keepC rfl (rq_quiet rfl (a_load (by exact rfl) (by(simp(disch:=first|omega|(simp only[z1,z2];omega))only[z3,z4,z5,z6,z7,z1,z2];exact rfl)) (by exact rfl)) (by exact sv_int _ _)) rfl;apply ra_keepC rfl (rq_quiet rfl (a_faddr (by exact rfl)) (by exact sv_ptr _)) rfl;exact ra_nil) ?_
  refine qM ?_;refine qM ?_;refine wD_nil ?_;refine y1 ?_;refine kS_n ?_;refine wE_ret ?_;refine kB_r ?_;refine kS_r ?_
  exact endP_ret hr.log rfl rfl
 by_cases k4:k=4
 ·subst k4
  have e:wordP 4 z=(108::Lib.itoa z,decide (1≤z∧z≤15)):=rfl
  rw[e]
  have ha:numOp .add (.int .u8 ((4:Nat):Int)) (.int .u8 1)=some (.int .u8 5):=rfl
  have C2:=in77X F.p F.f77 hrd (n:=z) (a:=1) (b:=15)
  refine y4 ?_;refine yB ?_;refine yM ?_;refine yM ?_;refine y3 ?_;refine wE_seq ?_;refine y4 ?_
  refine yF ?_;refine yL ?_;refine y3 ?_;refine wE_block ?_;refine y4 ?_;refine yf ?_;refine yM ?_;refine y3 ?_;refine yX ?_;refine wE_seq ?_;refine y4 ?_;refine yf ?_;refine yM ?_;refine y3 ?_;refine yX ?_;refine wE_region ?_;refine yf ?_;refine yM ?_;refine y3 ?_;refine yX ?_;refine wE_seq ?_;refine y4 ?_;refine yf ?_;refine yM ?_;refine y3 ?_;refine yX ?_;refine wE_region ?_;refine yt ?_;refine yM ?_;refine y3 ?_;refine yY ?_;refine wE_seq ?_;refine wE_draw ?_;refine qF ?_
  refine qL ?_
  refine qF ?_
  refine qL ?_
  refine wD_quiet rfl rfl rfl (by exact rfl) (by exact rfl) (by exact rfl) (a_num (by exact rfl) (by exact rfl) (by with_reducible assumption)) ?_;refine wD_quiet rfl rfl rfl (by exact rfl) (by exact rfl) (by exact rfl) (a_sliceSS (by exact rfl) (by exact rfl) (by exact rfl) (by(simp;done)) (by(simp;done))) ?_
  refine qF ?_
  refine qL ?_
  refine qF ?_
  refine qL ?_
  refine qC ?_
  refine FW.puD C1 (by apply ra_keepC rfl (rq_quiet rfl (a_load (by exact rfl) (by(simp(disch:=first|omega|(simp only[z1,z2];omega))only[z3,z4,z5,z6,z7,z1,z2];exact rfl)) (by exact rfl)) (by exact sv_int _ _)) rfl;apply ra_keepC rfl (rq_quiet rfl (a_faddr (by exact rfl)) (by exact sv_ptr _)) rfl;apply ra_dropC rfl;apply ra_dropC rfl;apply ra_keepC rfl (rq_quiet rfl (a_sliceSS (by exact rfl) (by exact rfl) (by exact rfl) (by(simp;done)) (by(simp;done))) (by exact sv_string _)) rfl;apply ra_keepC rfl (rq_quiet rfl (a_num (by exact rfl) (by exact rfl) (by with_reducible assumption)) (by exact sv_int _ _)) rfl;apply ra_keepC rfl (rq_quiet rfl (a_load (by exact rfl) (by(simp(disch:=first|omega|(simp only[z1,z2];omega))only[z3,z4,z5,z6,z7,z1,z2];exact rfl)) (by exact rfl)) (by exact sv_int _ _)) rfl;apply ra_keepC rfl (rq_quiet rfl (a_faddr (by exact rfl)) (by exact sv_ptr _)) rfl;apply ra_keepC rfl (rq_quiet rfl (a_load (by exact rfl) (by(simp(disch:=first|omega|(simp only[z1,z2];omega))only[z3,z4,z5,z6,z7,z1,z2];exact rfl)) (by exact rfl)) (by exact sv_int _ _)) rfl;apply ra_keepC rfl (rq_quiet rfl (a_faddr (by exact rfl)) (by exact sv_ptr _)) rfl;exact ra_nil) ?_
  refine wD_quiet rfl rfl rfl (by exact rfl) (by exact rfl) (by exact rfl) (a_num (by exact rfl) (by exact rfl) (by exact m_catS (by simp;omega))) ?_
  refine qC ?_
  refine FW.puD C2 (by apply ra_keepC rfl (rq_quiet rfl (a_num (by exact rfl) (by exact rfl) (by exact m_catS (by simp;omega))) (by exact sv_string _)) rfl;apply ra_dropC rfl;apply ra_dropC rfl;apply ra_keepC rfl (rq_quiet rfl (a_sliceSS (by exact rfl) (by exact rfl) (by exact rfl) (by(simp;done)) (by(simp;done))) (by exact sv_string _)) rfl;apply ra_keepC rfl (rq_quiet rfl (a_num (by exact rfl) (by exact rfl) (by with_reducible assumption)) (by exact sv_int _ _)) rfl;apply ra_keepC rfl (rq_quiet rfl (a_load (by exact rfl) (by(simp(disch:=first|omega|(simp only[z1,z2];omega))only[z3,z4,z5,z6,z7,z1,z2];exact rfl)) (by exact rfl)) (by exact sv_int _ _)) rfl;apply ra_keepC rfl (rq_quiet rfl (a_faddr (by exact rfl)) (by exact sv_ptr _)) rfl;apply ra_keepC rfl (rq_quiet rfl (a_load (by exact rfl) (by(simp(disch:=first|omega|(simp only[z1,z2];omega))only[z3,z4,z5,z6,z7,z1,z2];exact rfl)) (by exact rfl)) (by exact sv_int _ _)) rfl;apply ra_keepC rfl (rq_quiet rfl (a_faddr (by exact rfl)) (by exact sv_ptr _)) rfl;exact ra_nil) ?_
  refine qM ?_;refine qM ?_;refine wD_nil ?_;refine y1 ?_;refine kS_n ?_;refine wE_ret ?_;refine kB_r ?_;refine kS_r ?_
  exact endP_ret hr.log rfl rfl
 have e:wordP k z=([],false):=by unfold wordP;rw[if_neg k0,if_neg k1,if_neg k2,if_neg k3,if_neg k4]
 rw[e]
 refine y4 ?_;refine yB ?_;refine yM ?_;refine yM ?_;refine y3 ?_;refine wE_seq ?_;refine y4 ?_
 refine yF ?_;refine yL ?_;refine y3 ?_;refine wE_block ?_;refine y4 ?_;refine yf ?_;refine yM ?_;refine y3 ?_;refine yX ?_;refine wE_seq ?_;refine y4 ?_;refine yf ?_;refine yM ?_;refine y3 ?_;refine yX ?_;refine wE_region ?_;refine yf ?_;refine yM ?_;refine y3 ?_;refine yX ?_;refine wE_seq ?_;refine y4 ?_;refine yf ?_;refine yM ?_;refine y3 ?_;refine yX ?_;refine wE_region ?_;refine yf ?_;refine yM ?_;refine y3 ?_;refine yX ?_;refine wE_skip ?_;refine kB_n ?_;refine kS_n ?_;refine y4 ?_;refine yM ?_;refine yM ?_;refine y3 ?_;refine wE_ret ?_
 exact endP_ret hr.log rfl rfl
end Go.A.Pk
end
section
set_option maxRecDepth 100000
namespace Go.A.Pk
variable {T:Nat→Option AFunc}
def nodeT(k:Nat)(z:Int):List UInt8:=if(wordP k z).2=true then(wordP k z).1 else []
structure FnsNo (T:Nat→Option AFunc):Prop where
 p:primAS T
 f80:T 80=some f80
 f88:T 88=some f88
 f131:T 131=some f131
theorem dig_small{n:Nat}(hn:n<10):Lib.itoa (n:Int)=[UInt8.ofNat (48+n)]:=by rw[Lib.itoa_nonneg,Lib.decDigits_one hn]
theorem dig_big{n:Nat}(h1:10≤n)(h2:n<20):Lib.itoa (n:Int)=[49,UInt8.ofNat (48+(n-10))]:=by
 rw[Lib.itoa_nonneg,Lib.decDigits_two (by omega) (by omega),show n / 10=1 by omega,show n % 10=n-10 by omega]
 rfl
theorem number_small(hp:primAS T)(hf:T 131=some f131){h:Heap}(hr:Rdy h){n:Nat}(hn:n<10):Pu T 131 [.int .i64 (n:Nat)] h (.string (S [UInt8.ofNat (48+n)])):=by
 refine .of hp hf hr rfl ?_
 have hc:wrapA .u8 (48+(n:Int))=((48+n:Nat):Int):=by
  rw[wrapA_eq,IntKind.wrap_u8];omega
 refine y4 ?_;refine yM ?_;refine y3 ?_;refine wE_seq ?_;refine y4 ?_;refine yM ?_;refine yt ?_
 refine y3 ?_;refine yY ?_;refine y4 ?_;refine yM ?_;refine yadd ?_
 refine wO_val (a_conv (by exact rfl) (by assumption)) ?_;refine wO_val (a_bslice (by exact rfl) (by exact rfl)) ?_
 refine wO_val (a_toStr (l:=[UInt8.ofNat (48+n)]) (by exact rfl) ?_) ?_
 ·simp only[srcCells,z3]
  simp[ltake,ldrop,llen,lrow,lputs,lset,cellsOf,lcat];omega
 refine yM ?_;refine y3 ?_;refine wE_ret ?_;refine kS_r ?_
 exact endP_ret hr.log rfl rfl
theorem number131(hp:primAS T)(hf:T 131=some f131){h:Heap}(hr:Rdy h){z:Int}(hz:0≤z∧z≤15):Pu T 131 [.int .i64 z] h (.string (S (Lib.itoa z))):=by
 obtain⟨n,rfl⟩:∃n:Nat,z=n:=⟨z.toNat,by omega⟩
 by_cases h1:n<10
 ·rw[dig_small h1];exact number_small hp hf hr h1
 ·rw[dig_big (by omega) (by omega)]
  refine .of hp hf hr rfl ?_
  have C1:=number_small hp hf (.of hr.wf) (n:=1) (by omega)
  have C2:=number_small hp hf (.of hr.wf) (n:=n-10) (by omega)
  have e1:numOp .quo (.int .i64 ((n:Nat):Int)) (.int .i64 10)=some (.int .i64 ((1:Nat):Int)):=by
   have:((n:Int)).tdiv 10=1:=by rw[Int.tdiv_eq_ediv_of_nonneg (by omega)];omega
   simp[numOp,arith,this];rfl
  have e2:numOp .rem (.int .i64 ((n:Nat):Int)) (.int .i64 10)=some (.int .i64 ((n-10:Nat):Int)):=by
   have:((n:Int)).tmod 10=((n-10:Nat):Int):=by rw[Int.tmod_eq_emod_of_nonneg (by omega)];omega
   simp[numOp,arith,this]
  refine y4 ?_;refine yM ?_;refine y3 ?_;refine wE_seq ?_;refine y4 ?_;refine yM ?_;refine yf ?_
  refine y3 ?_;refine yX ?_;refine wE_skip ?_;refine kS_n ?_;refine y4 ?_;refine yM ?_;refine wO_val (a_num (by exact rfl) (by exact rfl) (by with_reducible assumption)) ?_
  refine yC ?_
  refine FW.pu C1 ?_
  refine yM ?_;refine wO_val (a_num (by exact rfl) (by exact rfl) (by with_reducible assumption)) ?_
  refine yC ?_
  refine FW.pu C2 ?_
  refine wO_val (a_num (by exact rfl) (by exact rfl) (by exact m_catS (by simp only[List.length_append,List.length_cons,List.length_nil];omega))) ?_;refine yM ?_;refine y3 ?_;refine wE_ret ?_
  exact endP_ret hr.log rfl rfl
end Go.A.Pk
end
section
set_option maxRecDepth 100000
namespace Go.A.Pk
variable {T:Nat→Option AFunc}
set_option maxHeartbeats 8000000 in
theorem node88(F:FnsNo T){h:Heap}(hr:Rdy h){k:Nat}{z:Int}(h1: -9223372036854775808≤z)(h2:z≤9223372036854775807):
 Pu T 88 [.agg #[.int .u8 k, .int .i64 z]] h (.string (S (nodeT k z))):=by
 refine .of F.p F.f88 hr rfl ?_
 have hx:Ext h (h.push (.cells [.int .u8 k, .int .i64 z] true 1)):=(Ext.refl h).push _
 have hrd:Rdy {h.push (.cells [.int .u8 k, .int .i64 z] true 1)with log:=[]}:= .of (hx.wf hr.wf)
 have hil:=itoa_len z h1 h2
 by_cases k0:k=0
 ·subst k0
  by_cases hz:z=0
  ·have e:nodeT 0 z=[46]:=by unfold nodeT wordP;simp[hz]
   rw[e]
   refine y4 ?_;refine yB ?_;refine yM ?_;refine y3 ?_;refine wE_seq ?_;refine y4 ?_;refine yF ?_
   refine yL ?_;refine y3 ?_;refine wE_block ?_;refine y4 ?_;refine yt ?_;refine yM ?_;refine y3 ?_;refine yY ?_;refine y4 ?_;refine yF ?_;refine yL ?_
   refine yt ?_;refine y3 ?_;refine yY ?_;refine y4 ?_;refine yM ?_;refine y3 ?_;refine wE_ret ?_;refine kB_r ?_;refine kS_r ?_
   exact endP_ret hr.log rfl rfl
  ·have e:nodeT 0 z=[]:=by unfold nodeT wordP;simp[hz]
   rw[e]
   refine y4 ?_;refine yB ?_;refine yM ?_;refine y3 ?_;refine wE_seq ?_;refine y4 ?_;refine yF ?_
   refine yL ?_;refine y3 ?_;refine wE_block ?_;refine y4 ?_;refine yt ?_;refine yM ?_;refine y3 ?_;refine yY ?_;refine y4 ?_;refine yF ?_;refine yL ?_
   refine yf ?_;refine y3 ?_;refine yX ?_;refine wE_skip ?_;refine kB_n ?_;refine kS_n ?_;refine y4 ?_;refine yM ?_
   refine y3 ?_;refine wE_ret ?_
   exact endP_ret hr.log rfl rfl
 by_cases k1:k=1
 ·subst k1
  by_cases hz:0≤z∧z≤11
  ·have e:nodeT 1 z=112::Lib.itoa z:=by unfold nodeT wordP;simp[hz]
   have C2:=in80T F.p F.f80 hrd (n:=z) (a:=0) (b:=11) hz
   have C3:=number131 F.p F.f131 hrd (z:=z) (by omega)
   rw[e]
   refine y4 ?_;refine yB ?_;refine yM ?_;refine y3 ?_;refine wE_seq ?_;refine y4 ?_;refine yF ?_
   refine yL ?_;refine y3 ?_;refine wE_block ?_;refine y4 ?_;refine yf ?_;refine yM ?_;refine y3 ?_;refine yX ?_;refine y4 ?_;refine yt ?_;refine yM ?_;refine y3 ?_;refine yY ?_;refine y4 ?_;refine yF ?_
   refine yL ?_
   refine yC ?_
   refine FW.pu C2 ?_
   refine y3 ?_;refine yY ?_;refine y4 ?_;refine yF ?_
   refine yL ?_
   refine yC ?_
   refine FW.pu C3 ?_
   refine wO_val (a_num (by exact rfl) (by exact rfl) (by exact m_catS (by simp only[List.length_append,List.length_cons,List.length_nil];omega))) ?_;refine yM ?_;refine y3 ?_;refine wE_ret ?_;refine kB_r ?_;refine kS_r ?_
   exact endP_ret hr.log rfl rfl
  ·have e:nodeT 1 z=[]:=by
    unfold nodeT wordP
    rw[if_neg]
    show¬decide _=true
    simpa using hz
   have C2:=in80F F.p F.f80 hrd (n:=z) (a:=0) (b:=11) hz
   rw[e]
   refine y4 ?_;refine yB ?_;refine yM ?_;refine y3 ?_;refine wE_seq ?_;refine y4 ?_;refine yF ?_
   refine yL ?_;refine y3 ?_;refine wE_block ?_;refine y4 ?_;refine yf ?_;refine yM ?_;refine y3 ?_;refine yX ?_;refine y4 ?_;refine yt ?_;refine yM ?_;refine y3 ?_;refine yY ?_;refine y4 ?_;refine yF ?_
   refine yL ?_
   refine yC ?_
   refine FW.pu C2 ?_
   refine y3 ?_;refine yX ?_;refine wE_skip ?_;refine kB_n ?_;refine kS_n ?_;refine y4 ?_;refine yM ?_;refine y3 ?_;refine wE_ret ?_
   exact endP_ret hr.log rfl rfl
 by_cases k2:k=2
 ·subst k2
  by_cases hz:0≤z∧z≤11
  ·have e:nodeT 2 z=116::Lib.itoa z:=by unfold nodeT wordP;simp[hz]
   have C2:=in80T F.p F.f80 hrd (n:=z) (a:=0) (b:=11) hz
   have C3:=number131 F.p F.f131 hrd (z:=z) (by omega)
   rw[e]
   refine y4 ?_;refine yB ?_;refine yM ?_;refine y3 ?_;refine wE_seq ?_;refine y4 ?_;refine yF ?_
   refine yL ?_;refine y3 ?_;refine wE_block ?_;refine y4 ?_;refine yf ?_;refine yM ?_;refine y3 ?_;refine yX ?_;refine y4 ?_;refine yf ?_;refine yM ?_;refine y3 ?_;refine yX ?_;refine y4 ?_
   refine yt ?_;refine yM ?_;refine y3 ?_;refine yY ?_;refine y4 ?_;refine yF ?_
   refine yL ?_
   refine yC ?_
   refine FW.pu C2 ?_
   refine y3 ?_;refine yY ?_;refine y4 ?_;refine yF ?_
   refine yL ?_
   refine yC ?_
   refine FW.pu C3 ?_
   refine wO_val (a_num (by exact rfl) (by exact rfl) (by exact m_catS (by simp only[List.length_append,List.length_cons,List.length_nil];omega))) ?_;refine yM ?_;refine y3 ?_;refine wE_ret ?_;refine kB_r ?_;refine kS_r ?_
   exact endP_ret hr.log rfl rfl
  ·have e:nodeT 2 z=[]:=by
    unfold nodeT wordP
    rw[if_neg]
    show¬decide _=true
    simpa using hz
   have C2:=in80F F.p F.f80 hrd (n:=z) (a:=0) (b:=11) hz
   rw[e]
   refine y4 ?_;refine yB ?_;refine yM ?_;refine y3 ?_;refine wE_seq ?_;refine y4 ?_;refine yF ?_
   refine yL ?_;refine y3 ?_;refine wE_block ?_;refine y4 ?_;refine yf ?_;refine yM ?_;refine y3 ?_;refine yX ?_;refine y4 ?_;refine yf ?_;refine yM ?_;refine y3 ?_;refine yX ?_;refine y4 ?_
   refine yt ?_;refine yM ?_;refine y3 ?_;refine yY ?_;refine y4 ?_;refine yF ?_
   refine yL ?_
   refine yC ?_
   refine FW.pu C2 ?_
   refine y3 ?_;refine yX ?_;refine wE_skip ?_;refine kB_n ?_;refine kS_n ?_;refine y4 ?_;refine yM ?_;refine y3 ?_;refine wE_ret ?_
   exact endP_ret hr.log rfl rfl
 by_cases k3:k=3
 ·subst k3
  by_cases hz:1≤z∧z≤15
  ·have e:nodeT 3 z=97::Lib.itoa z:=by unfold nodeT wordP;simp[hz]
   have C2:=in80T F.p F.f80 hrd (n:=z) (a:=1) (b:=15) hz
   have C3:=number131 F.p F.f131 hrd (z:=z) (by omega)
   rw[e]
   refine y4 ?_;refine yB ?_;refine yM ?_;refine y3 ?_;refine wE_seq ?_;refine y4 ?_;refine yF ?_
   refine yL ?_;refine y3 ?_;refine wE_block ?_;refine y4 ?_;refine yf ?_;refine yM ?_;refine y3 ?_;refine yX ?_;refine y4 ?_;refine yf ?_;refine yM ?_;refine y3 ?_;refine yX ?_;refine y4 ?_
   refine yf ?_;refine yM ?_;refine y3 ?_;refine yX ?_;refine y4 ?_
   refine yt ?_;refine yM ?_;refine y3 ?_;refine yY ?_;refine y4 ?_;refine yF ?_
   refine yL ?_
   refine yC ?_
   refine FW.pu C2 ?_
   refine y3 ?_;refine yY ?_;refine y4 ?_;refine yF ?_
   refine yL ?_
   refine yC ?_
   refine FW.pu C3 ?_
   refine wO_val (a_num (by exact rfl) (by exact rfl) (by exact m_catS (by simp only[List.length_append,List.length_cons,List.length_nil];omega))) ?_;refine yM ?_;refine y3 ?_;refine wE_ret ?_;refine kB_r ?_;refine kS_r ?_
   exact endP_ret hr.log rfl rfl
  ·have e:nodeT 3 z=[]:=by
    unfold nodeT wordP
    rw[if_neg]
    show¬decide _=true
    simpa using hz
   have C2:=in80F F.p F.f80 hrd (n:=z) (a:=1) (b:=15) hz
   rw[e]
   refine y4 ?_;refine yB ?_;refine yM ?_;refine y3 ?_;refine wE_seq ?_;refine y4 ?_;refine yF ?_
   refine yL ?_;refine y3 ?_;refine wE_block ?_;refine y4 ?_;refine yf ?_;refine yM ?_;refine y3 ?_;refine yX ?_;refine y4 ?_;refine yf ?_;refine yM ?_;refine y3 ?_;refine yX ?_;refine y4 ?_
   refine yf ?_;refine yM ?_;refine y3 ?_;refine yX ?_;refine y4 ?_
   refine yt ?_;refine yM ?_;refine y3 ?_;refine yY ?_;refine y4 ?_;refine yF ?_
   refine yL ?_
   refine yC ?_
   refine FW.pu C2 ?_
   refine y3 ?_;refine yX ?_;refine wE_skip ?_;refine kB_n ?_;refine kS_n ?_;refine y4 ?_;refine yM ?_;refine y3 ?_;refine wE_ret ?_
   exact endP_ret hr.log rfl rfl
 by_cases k4:k=4
 ·subst k4
  by_cases hz:1≤z∧z≤15
  ·have e:nodeT 4 z=108::Lib.itoa z:=by unfold nodeT wordP;simp[hz]
   have C2:=in80T F.p F.f80 hrd (n:=z) (a:=1) (b:=15) hz
   have C3:=number131 F.p F.f131 hrd (z:=z) (by omega)
   rw[e]
   refine y4 ?_;refine yB ?_;refine yM ?_;refine y3 ?_;refine wE_seq ?_;refine y4 ?_;refine yF ?_
   refine yL ?_;refine y3 ?_;refine wE_block ?_;refine y4 ?_;refine yf ?_;refine yM ?_;refine y3 ?_;refine yX ?_;refine y4 ?_;refine yf ?_;refine yM ?_;refine y3 ?_;refine yX ?_;refine y4 ?_
   refine yf ?_;refine yM ?_;refine y3 ?_;refine yX ?_;refine y4 ?_
   refine yf ?_;refine yM ?_;refine y3 ?_;refine yX ?_;refine y4 ?_
   refine yt ?_;refine yM ?_;refine y3 ?_;refine yY ?_;refine y4 ?_;refine yF ?_
   refine yL ?_
   refine yC ?_
   refine FW.pu C2 ?_
   refine y3 ?_;refine yY ?_;refine y4 ?_;refine yF ?_
   refine yL ?_
   refine yC ?_
   refine FW.pu C3 ?_
   refine wO_val (a_num (by exact rfl) (by exact rfl) (by exact m_catS (by simp only[List.length_append,List.length_cons,List.length_nil];omega))) ?_;refine yM ?_;refine y3 ?_;refine wE_ret ?_;refine kB_r ?_;refine kS_r ?_
   exact endP_ret hr.log rfl rfl
  ·have e:nodeT 4 z=[]:=by
    unfold nodeT wordP
    rw[if_neg]
    show¬decide _=true
    simpa using hz
   have C2:=in80F F.p F.f80 hrd (n:=z) (a:=1) (b:=15) hz
   rw[e]
   refine y4 ?_;refine yB ?_;refine yM ?_;refine y3 ?_;refine wE_seq ?_;refine y4 ?_;refine yF ?_
   refine yL ?_;refine y3 ?_;refine wE_block ?_;refine y4 ?_;refine yf ?_;refine yM ?_;refine y3 ?_;refine yX ?_;refine y4 ?_;refine yf ?_;refine yM ?_;refine y3 ?_;refine yX ?_;refine y4 ?_
   refine yf ?_;refine yM ?_;refine y3 ?_;refine yX ?_;refine y4 ?_
   refine yf ?_;refine yM ?_;refine y3 ?_;refine yX ?_;refine y4 ?_
   refine yt ?_;refine yM ?_;refine y3 ?_;refine yY ?_;refine y4 ?_;refine yF ?_
   refine yL ?_
   refine yC ?_
   refine FW.pu C2 ?_
   refine y3 ?_;refine yX ?_;refine wE_skip ?_;refine kB_n ?_;refine kS_n ?_;refine y4 ?_;refine yM ?_;refine y3 ?_;refine wE_ret ?_
   exact endP_ret hr.log rfl rfl
 have e:nodeT k z=[]:=by unfold nodeT wordP;rw[if_neg k0,if_neg k1,if_neg k2,if_neg k3,if_neg k4];rfl
 rw[e]
 refine y4 ?_;refine yB ?_;refine yM ?_;refine y3 ?_;refine wE_seq ?_;refine y4 ?_;refine yF ?_
 refine yL ?_;refine y3 ?_;refine wE_block ?_;refine y4 ?_;refine yf ?_;refine yM ?_;refine y3 ?_;refine yX ?_;refine y4 ?_;refine yf ?_;refine yM ?_;refine y3 ?_;refine yX ?_;refine y4 ?_
 refine yf ?_;refine yM ?_;refine y3 ?_;refine yX ?_;refine y4 ?_
 refine yf ?_;refine yM ?_;refine y3 ?_;refine yX ?_;refine y4 ?_
 refine yf ?_;refine yM ?_;refine y3 ?_;refine yX ?_;refine wE_skip ?_;refine kB_n ?_;refine kS_n ?_;refine y4 ?_
 refine yM ?_;refine y3 ?_;refine wE_ret ?_
 exact endP_ret hr.log rfl rfl
end Go.A.Pk
end
section
set_option maxRecDepth 100000
namespace Go.A.Pk
def strs(l:List (List UInt8)):List Value:=l.map fun w=> .string (S w)
def okW(x:Nat×Int):Bool:=(wordP x.1 x.2).2
def wd(x:Nat×Int):List UInt8:=(wordP x.1 x.2).1
def joinW(ws:List (List UInt8)):List UInt8:=Lib.join ws [32]
def Ni(ns:List (Nat×Int)):Prop:=∀x∈ns,x.1<256∧ -9223372036854775808≤x.2∧x.2≤9223372036854775807
def writeE(ns:List (Nat×Int)):List UInt8×Int:=if ns.all okW=true then(if ns.length≤600 then(joinW (ns.map wd),0)else([],2))else([],1)
def writeR(ns:List (Nat×Int)):Value:= .tuple #[.string (S (writeE ns).1), .int .i64 (writeE ns).2]
theorem strs_snoc(l:List (List UInt8))(w:List UInt8):strs (l++[w])=strs l++[.string (S w)]:=by simp[strs]
theorem strsOf_strs:∀l,strsOf (strs l)=some (l.map S)
 |[]=>rfl
 |w::l=>by
  show(match strsOf (strs l)with|some xs=>some (S w::xs)|none=>none)=_
  rw[strsOf_strs l];rfl
theorem join_le{n:Nat}(hn:1≤n):∀{ws:List (List UInt8)},(∀w∈ws,w.length<n)→(Lib.join ws [32]).length≤ws.length*n
 |[],_=>by simp[Lib.join]
 |[w],h=>by
  have:=h w (by simp)
  simp[Lib.join];omega
 |w::x::ws,h=>by
  have h1:=h w (by simp)
  have h2:=join_le hn (ws:=x::ws) fun y hy=>h y (List.mem_cons_of_mem _ hy)
  have e:Lib.join (w::x::ws) [32]=w++([32]++Lib.join (x::ws) [32]):=by simp[Lib.join]
  rw[e,List.length_append,List.length_append,List.length_cons (a:=w)]
  have:(ws.length+1+1)*n=(ws.length+1)*n+n:=by rw[Nat.add_mul (ws.length+1)];omega
  simp only[List.length_cons,List.length_nil]at h2⊢
  omega
theorem wordP_len(k:Nat){z:Int}(h1: -9223372036854775808≤z)(h2:z≤9223372036854775807):(wordP k z).1.length<102:=by
 have:=itoa_len z h1 h2
 unfold wordP
 repeat' split
 all_goals simp
 all_goals omega
theorem pJoin_nil{c:Nat}{sep:ByteArray}{h:Heap}:pJoin [.slice none 0 c, .string sep] h=some (.string ⟨#[]⟩,h):=rfl
theorem join_call{T:Nat→Option AFunc}(hf:T 87=some (.prim pJoin)){h:Heap}{a:Option Addr}{c:Nat}{ws:List (List UInt8)}(s:SliceOf h 1 (.slice a ws.length c) ws.length (strs ws))(hl:ws.length≤1000000)(hw:∀w∈ws,w.length<102):
 Pu T 87 [.slice a ws.length c, .string (S [32])] h (.string (S (joinW ws))):=by
 rcases s.inv with⟨c',e,h0,_⟩|⟨b,o,cap,e,s1,hc⟩
 ·obtain rfl:ws=[]:=List.length_eq_zero_iff.1 h0
  cases e
  exact .prim hf pJoin_nil ⟨rfl,rfl⟩
 ·cases e
  obtain⟨vs,own,t,g1,g2⟩:=s1.obj
  rw[Nat.mul_one]at g2
  have hj:=join_le (n:=102) (by omega) hw
  have e1:joinB (ws.map S) (S [32])=joinW ws:=by
   unfold joinB joinW
   rw[List.map_map,S_list]
   congr 1
   have:((fun x:ByteArray=>x.data.toList) ∘ S)=id:=by funext l;exact S_list l
   rw[this,List.map_id]
  refine .prim hf (v:= .string (S (joinW ws))) (h':=h) ?_ ⟨rfl,rfl⟩
  unfold pJoin
  simp only[g1,g2,strsOf_strs,e1,llen_eq,List.length_map,beq_eq,ble_eq]
  have q2:(joinW ws).length≤140737488355328:=by
   have:ws.length*102≤1000000*102:=Nat.mul_le_mul_right _ hl
   unfold joinW;omega
  rw[decide_eq_true (show True from trivial),decide_eq_true (show ws.length≤140737488355328 by omega),decide_eq_true q2]
  rfl
theorem node_elem{h:Heap}{b o n:Nat}{l:List (Nat×Int)}(s:SliceAt h b o n 2 (ncI l)){i:Nat}{x:Nat×Int}(hi:l[i]? =some x):∃vs own t,h.get b=some (.cells vs own t)∧ltake 2 (ldrop (o+i*2) vs)=[.int .u8 x.1, .int .i64 x.2]:=by
 obtain⟨vs,own,t,h1,h2⟩:=s.obj
 refine⟨vs,own,t,h1,?_⟩
 rw[ltake_eq,ldrop_eq]at h2⊢
 have hl:=s.len
 rw[ncI_len]at hl
 have hin:i<l.length:=(List.getElem?_eq_some_iff.1 hi).1
 have h3:(vs.drop (o+i*2)).take 2=(((vs.drop o).take (n*2)).drop (i*2)).take 2:=by
  rw[List.drop_take,List.drop_drop,List.take_take,Nat.min_eq_left (by omega)]
 rw[h3,h2,ncI_drop]
 have:l.drop i=x::l.drop (i+1):=by
  rw[List.drop_eq_getElem_cons hin]
  congr 1
  rw[List.getElem?_eq_getElem hin]at hi
  injection hi
 rw[this]
 rfl
end Go.A.Pk
end
section
set_option maxRecDepth 100000
namespace Go.A.Pk
variable {T:Nat→Option AFunc}
structure FnsWt (T:Nat→Option AFunc):Prop extends FnsWo T where
 f27:T 27=some f27
 c87:T 87=some (.prim pJoin)
theorem all_snoc{ns:List (Nat×Int)}{i:Nat}{x:Nat×Int}(h:(ns.take i).all okW=true)(hx:ns[i]? =some x)(ho:okW x=true):(ns.take (i+1)).all okW=true:=by
 rw[List.take_add_one,hx,List.all_append,h]
 simpa using ho
theorem all_no{ns:List (Nat×Int)}{i:Nat}{x:Nat×Int}(hx:ns[i]? =some x)(ho:okW x=false):ns.all okW=false:=by
 cases h:ns.all okW with
 |false=>rfl
 |true=>rw[List.all_eq_true]at h;rw[h x (List.mem_of_getElem? hx)]at ho;cases ho
set_option maxHeartbeats 8000000 in
theorem write27(F:FnsWt T){h:Heap}(hr:Rdy h)(hG:Glob h){ns:List (Nat×Int)}{qa:Option Addr}{qc:Nat}(hns:SliceOf h 2 (.slice qa ns.length qc) ns.length (ncI ns))(hn:ns.length<1000000)(hi:Ni ns):
 Pu T 27 [.slice qa ns.length qc] h (writeR ns):=by
 refine .of F.p F.f27 hr rfl ?_
 refine y4 ?_;refine yM ?_;refine yM ?_;refine y3 ?_;refine y4 ?_;refine yM ?_;refine y3 ?_;refine wE_seq ?_;refine y4 ?_;refine yM ?_;refine yD ?_;refine yM ?_;refine y3 ?_;refine wE_block ?_
 refine wE_loop (fun m e ds h'=>∃(i:Nat) (v:Value),i≤ns.length∧m=ns.length-i∧e=[(0, .slice qa ns.length qc),(4,v),(9, .slice qa ns.length qc),(10, .int .i64 ns.length),(11, .int .i64 i)]∧ds=[]∧Ext h h'∧Own h.next h' 1 v i (strs ((ns.take i).map wd))∧(ns.take i).all okW=true)
  ⟨0,_,Nat.zero_le _,rfl,rfl,rfl, .refl _, .nil,rfl⟩ ?_
 rintro m e ds h' ⟨i,v,hin,rfl,rfl,rfl,hx',own,hall⟩
 by_cases hlt:i<ns.length
 ·obtain⟨x,hxi⟩:∃x,ns[i]? =some x:=⟨ns[i],List.getElem?_eq_getElem hlt⟩
  rcases(hns.ext hx').inv with⟨_,_,h0,_⟩|⟨b,o,cap,hv,s1,hcap⟩
  ·omega
  cases hv
  obtain⟨vs,ow,t,g1,g2⟩:=node_elem s1 hxi
  have hxm:=hi x (List.mem_of_getElem? hxi)
  have hnx:=hx'.next
  have hx2:Ext h ((h'.push (.cells [.int .u8 0, .int .i64 0] true 1)).wr h.next h'.next (.cells [.int .u8 x.1, .int .i64 x.2] true 1)):=(hx'.push _).wr hnx hnx
  have C1:=word86 F.toFnsWo (h:={(h'.push (.cells [.int .u8 0, .int .i64 0] true 1)).wr h.next h'.next (.cells [.int .u8 x.1, .int .i64 x.2] true 1)with log:=[]}) (.of (hx2.wf hr.wf)) ((Glob.ext hG hr.wf hx2).log []) (k:=x.1) (z:=x.2) hxm.2.1 hxm.2.2
  refine y4 ?_;refine yt ?_;refine y3 ?_;refine wE_seq ?_;refine yY ?_;refine wE_skip ?_;refine kS_n ?_;refine wE_seq ?_;refine wE_block ?_;refine y4 ?_;refine wO_val (a_iaddrS (by exact rfl) (by exact rfl) (by omega)) ?_;refine wO_val (a_loadN (by exact rfl) (by assumption) (by assumption) (by exact rfl)) ?_;refine wO_val (a_new) ?_
  refine yS ?_;refine y3 ?_;refine y4 ?_
  refine yN ?_
  refine yC ?_
  refine FW.pu C1 ?_
  cases hok:(wordP x.1 x.2).2 with
  |true=>
   have hE:Ext h' ((h'.push (.cells [.int .u8 0, .int .i64 0] true 1)).wr h.next h'.next (.cells [.int .u8 x.1, .int .i64 x.2] true 1)):=((Ext.refl h').push _).wr (Nat.le_refl _) hnx
   refine yM ?_;refine yE ?_;refine yE ?_;refine yM ?_;refine yM ?_;refine y3 ?_;refine wE_seq ?_
   refine y4 ?_;refine yM ?_;refine yA ?_;refine y3 ?_;refine yX ?_;refine wE_skip ?_;refine kS_n ?_;refine wE_region ?_;refine yM ?_
   refine yM ?_;refine wO_val (a_bslice (by exact rfl) (by exact rfl)) ?_
   refine wO_app1 (lo:=h.next) (c1:=[.string (S (wordP x.1 x.2).1)]) (own.ext (hE.push _)) (by omega) (by omega) (by omega) (by show h.next≤h'.next+1+1;omega) (Nat.le_refl _) (by exact rfl) (by exact rfl) (src_slice (cs:=[.string (S (wordP x.1 x.2).1)]) (by(simp(disch:=first|omega|(simp only[z1,z2];omega)|(simp only[z1,z2];done)|fail)only[z8,z4,z5,z9,z7,z1,z2,g1];exact rfl)) rfl rfl) rfl rfl ?_
   intro v' h2 own' hx2'
   have hx4:Ext h h2:=(((hx2.push (.cells [.string (S (wordP x.1 x.2).1)] true 1)).lx (Nat.le_refl _)).trans hx2').ext
   refine yM ?_;refine wO_nil ?_;refine y1 ?_;refine kB_n ?_;refine kS_n ?_;refine wE_region ?_;refine yinc ?_;refine yM ?_;refine y3 ?_
   refine⟨ns.length-(i+1),by omega,i+1,v',by omega,rfl,rfl,rfl,hx4,?_,all_snoc hall hxi hok⟩
   rw[List.take_add_one,hxi,List.map_append]
   show Own h.next h2 1 v' (i+1) (strs (List.map wd (ns.take i)++[wd x]))
   rw[strs_snoc]
   exact own'
  |false=>
   have e:writeR ns= .tuple #[.string (S []), .int .i64 1]:=by
    unfold writeR writeE
    rw[all_no hxi hok];rfl
   rw[e]
   refine yM ?_;refine yE ?_;refine yE ?_;refine yM ?_;refine yM ?_;refine y3 ?_;refine wE_seq ?_
   refine y4 ?_;refine yM ?_;refine yA ?_;refine y3 ?_;refine yY ?_;refine y4 ?_;refine yM ?_
   refine yM ?_;refine y3 ?_;refine wE_ret ?_;refine kS_r ?_;refine kB_r ?_;refine kS_r ?_;refine kS_r ?_;refine kB_r ?_;refine kS_r ?_
   exact endP_ret (hx2.log.trans hr.log) rfl rfl
 ·obtain rfl:i=ns.length:=by omega
  rw[List.take_length]at hall own
  by_cases h6:ns.length≤600
  ·have e:writeR ns= .tuple #[.string (S (joinW (ns.map wd))), .int .i64 0]:=by unfold writeR writeE;rw[if_pos hall,if_pos h6]
   rw[e]
   have s2:SliceOf h' 1 v (ns.map wd).length (strs (ns.map wd)):=by rw[List.length_map];exact own.slice (by omega)
   obtain⟨va,vc,rfl⟩:=s2.form
   have C:=join_call F.c87 (h:={h' with log:=[]}) (s2.log []) (by rw[List.length_map];omega) (fun w hw=>by
    obtain⟨y,hy,rfl⟩:=List.mem_map.1 hw
    have:=hi y hy
    exact wordP_len y.1 this.2.1 this.2.2)
   refine y4 ?_;refine yf ?_;refine y3 ?_;refine wE_seq ?_;refine yX ?_;refine wE_exit ?_;refine kS_e ?_;refine kS_e ?_;refine kB_e ?_;refine kS_n ?_
   refine wE_seq ?_;refine y4 ?_;refine yM ?_;refine yD ?_;refine yf ?_;refine y3 ?_;refine yX ?_
   refine wE_skip ?_;refine kS_n ?_;refine y4 ?_;refine yM ?_
   refine yC ?_
   refine FW.pu C ?_
   refine yM ?_;refine yM ?_;refine y3 ?_;refine wE_ret ?_
   exact endP_ret (hx'.log.trans hr.log) rfl rfl
  ·have e:writeR ns= .tuple #[.string (S []), .int .i64 2]:=by unfold writeR writeE;rw[if_pos hall,if_neg h6]
   rw[e]
   refine y4 ?_;refine yf ?_;refine y3 ?_;refine wE_seq ?_;refine yX ?_;refine wE_exit ?_;refine kS_e ?_;refine kS_e ?_;refine kB_e ?_;refine kS_n ?_
   refine wE_seq ?_;refine y4 ?_;refine yM ?_;refine yD ?_;refine yt ?_;refine y3 ?_;refine yY ?_
   refine y4 ?_;refine yM ?_;refine yM ?_;refine y3 ?_;refine wE_ret ?_;refine kS_r ?_
   exact endP_ret (hx'.log.trans hr.log) rfl rfl
end Go.A.Pk
end
section
set_option maxRecDepth 100000
namespace Go.A.Pk
variable {T:Nat→Option AFunc}
structure FnsRwt (T:Nat→Option AFunc):Prop extends FnsNo T where
 f28:T 28=some f28
theorem joinW_snoc{ws:List (List UInt8)}(h:ws≠[])(w:List UInt8):joinW (ws++[w])=joinW ws++[32]++w:=by
 unfold joinW
 cases ws with
 |nil=>exact absurd rfl h
 |cons x r=>
  rw[List.cons_append,Lib.join_cons,Lib.join_cons]
  simp[Lib.joinTail]
theorem joinW_one(w:List UInt8):joinW [w]=w:=Lib.join_one _ _
theorem ok_ne{x:Nat×Int}(h:okW x=true):nodeT x.1 x.2=wd x∧wd x≠[]:=by
 unfold okW at h
 refine⟨by unfold nodeT wd;rw[if_pos h],?_⟩
 unfold wd
 unfold wordP at h⊢
 repeat' split
 all_goals simp_all
theorem no_ne{x:Nat×Int}(h:okW x=false):nodeT x.1 x.2=[]:=by
 unfold okW at h
 unfold nodeT;rw[h];rfl
theorem joinW_le{ns:List (Nat×Int)}(hi:Ni ns):(joinW (ns.map wd)).length≤ns.length*102:=by
 have:=join_le (n:=102) (by omega) (ws:=ns.map wd) fun w hw=>by
  obtain⟨y,hy,rfl⟩:=List.mem_map.1 hw
  have:=hi y hy
  exact wordP_len y.1 this.2.1 this.2.2
 rw[List.length_map]at this
 exact this
theorem Ni.take{ns:List (Nat×Int)}(h:Ni ns)(i:Nat):Ni (ns.take i):=fun x hx=>h x (List.mem_of_mem_take hx)
set_option maxHeartbeats 8000000 in
theorem write28(F:FnsRwt T){h:Heap}(hr:Rdy h){ns:List (Nat×Int)}{qa:Option Addr}{qc:Nat}(hns:SliceOf h 2 (.slice qa ns.length qc) ns.length (ncI ns))(hn:ns.length<1000000)(hi:Ni ns):
 Pu T 28 [.slice qa ns.length qc] h (writeR ns):=by
 refine .of F.p F.f28 hr rfl ?_
 refine y4 ?_;refine yM ?_;refine yM ?_;refine y3 ?_;refine y4 ?_;refine yM ?_;refine y3 ?_;refine wE_seq ?_;refine y4 ?_;refine yM ?_;refine y3 ?_;refine wE_block ?_
 refine wE_loop (fun m e ds h'=>∃i:Nat,i≤ns.length∧m=ns.length-i∧e=[(0, .slice qa ns.length qc),(4, .string (S (joinW ((ns.take i).map wd)))),(5, .int .i64 i)]∧ds=[]∧h=h'∧(ns.take i).all okW=true)
  ⟨0,Nat.zero_le _,rfl,rfl,rfl,rfl,rfl⟩ ?_
 rintro m e ds _ ⟨i,hin,rfl,rfl,rfl,rfl,hall⟩
 by_cases hlt:i<ns.length
 ·obtain⟨x,hxi⟩:∃x,ns[i]? =some x:=⟨ns[i],List.getElem?_eq_getElem hlt⟩
  rcases hns.inv with⟨_,_,h0,_⟩|⟨b,o,cap,hv,s1,hcap⟩
  ·omega
  cases hv
  obtain⟨vs,ow,t,g1,g2⟩:=node_elem s1 hxi
  have hxm:=hi x (List.mem_of_getElem? hxi)
  have C1:=node88 F.toFnsNo (h:={h with log:=[]}) (.of hr.wf) (k:=x.1) (z:=x.2) hxm.2.1 hxm.2.2
  have hjl:=joinW_le (hi.take i)
  have htl:(ns.take i).length≤i:=List.length_take_le _ _
  have hwl:=wordP_len x.1 hxm.2.1 hxm.2.2
  cases hok:okW x with
  |true=>
   obtain⟨e1,e2⟩:=ok_ne hok
   rw[e1]at C1
   have hwl':(wd x).length<102:=hwl
   have hmul:(ns.take i).length*102≤1000000*102:=Nat.mul_le_mul_right _ (by omega)
   by_cases h0:i=0
   ·subst h0
    have c1:numOp .add (.string (S (joinW ((ns.take 0).map wd)))) (.string (S (wd x)))=some (.string (S (wd x))):=by
     rw[m_catS (by omega)];rfl
    have n1:numOp .eql (.string (S (wd x))) (.string ⟨#[]⟩)=some (.bool false):=m_eqSF (b:=[]) e2
    refine wE_seq ?_;refine y4 ?_;refine yM ?_;refine yM ?_;refine yD ?_;refine yt ?_;refine y3 ?_
    refine yY ?_;refine wE_skip ?_;refine kS_n ?_;refine wE_seq ?_;refine wE_block ?_;refine y4 ?_;refine yM ?_;refine yM ?_;refine wO_val (a_iaddrS (by exact rfl) (by exact rfl) (by omega)) ?_;refine wO_val (a_loadN (by exact rfl) (by assumption) (by assumption) (by exact rfl)) ?_
    refine yC ?_
    refine FW.pu C1 ?_
    refine yM ?_;refine y3 ?_;refine wE_seq ?_;refine y4 ?_;refine yM ?_;refine wO_val (a_num (by exact rfl) (by exact rfl) (by with_reducible assumption)) ?_;refine y3 ?_;refine yX ?_;refine wE_skip ?_;refine kS_n ?_;refine wE_seq ?_;refine y4 ?_;refine yM ?_;refine yf ?_;refine y3 ?_;refine yX ?_;refine wE_skip ?_;refine kS_n ?_;refine wE_region ?_;refine yM ?_;refine yM ?_;refine wO_val (a_num (by exact rfl) (by exact rfl) (by with_reducible assumption)) ?_
    refine yM ?_;refine wO_nil ?_;refine y1 ?_;refine kB_n ?_;refine kS_n ?_;refine wE_region ?_;refine yM ?_;refine yinc ?_;refine yM ?_;refine y3 ?_
    refine⟨ns.length-(0+1),by omega,0+1,by omega,rfl,?_,rfl,rfl,all_snoc hall hxi hok⟩
    rw[List.take_add_one,hxi]
    show _=[_,(4,Value.string (S (joinW [wd x]))),_]
    rw[joinW_one]
   ·have c1:numOp .add (.string (S (joinW ((ns.take i).map wd)))) (.string ⟨#[32]⟩)=some (.string (S (joinW ((ns.take i).map wd)++[32]))):=m_catS (b:=[32]) (by show _+1<_;omega)
    have c2:numOp .add (.string (S (joinW ((ns.take i).map wd)++[32]))) (.string (S (wd x)))=some (.string (S (joinW ((ns.take i).map wd)++[32]++wd x))):=m_catS (by rw[List.length_append];show _+1+_<_;omega)
    have n1:numOp .eql (.string (S (wd x))) (.string ⟨#[]⟩)=some (.bool false):=m_eqSF (b:=[]) e2
    refine wE_seq ?_;refine y4 ?_;refine yM ?_;refine yM ?_;refine yD ?_;refine yt ?_;refine y3 ?_
    refine yY ?_;refine wE_skip ?_;refine kS_n ?_;refine wE_seq ?_;refine wE_block ?_;refine y4 ?_;refine yM ?_;refine yM ?_;refine wO_val (a_iaddrS (by exact rfl) (by exact rfl) (by omega)) ?_;refine wO_val (a_loadN (by exact rfl) (by assumption) (by assumption) (by exact rfl)) ?_
    refine yC ?_
    refine FW.pu C1 ?_
    refine yM ?_;refine y3 ?_;refine wE_seq ?_;refine y4 ?_;refine yM ?_;refine wO_val (a_num (by exact rfl) (by exact rfl) (by with_reducible assumption)) ?_;refine y3 ?_;refine yX ?_;refine wE_skip ?_;refine kS_n ?_;refine wE_seq ?_;refine y4 ?_;refine yM ?_;refine yt ?_;refine y3 ?_;refine yY ?_;refine wE_region ?_;refine yM ?_;refine wO_val (a_num (by exact rfl) (by exact rfl) (by with_reducible assumption)) ?_;refine yM ?_;refine y3 ?_;refine wE_region ?_;refine yM ?_;refine yM ?_;refine wO_val (a_num (by exact rfl) (by exact rfl) (by with_reducible assumption)) ?_;refine yM ?_;refine wO_nil ?_
    refine y1 ?_;refine kB_n ?_;refine kS_n ?_;refine wE_region ?_;refine yM ?_;refine yinc ?_;refine yM ?_;refine y3 ?_
    refine⟨ns.length-(i+1),by omega,i+1,by omega,rfl,?_,rfl,rfl,all_snoc hall hxi hok⟩
    rw[List.take_add_one,hxi,List.map_append]
    show _=[_,(4,Value.string (S (joinW (List.map wd (ns.take i)++[wd x])))),_]
    rw[joinW_snoc (by
     intro e
     have:=congrArg List.length e
     rw[List.length_map,List.length_take,Nat.min_eq_left (by omega)]at this
     exact h0 this)]
  |false=>
   have e:writeR ns= .tuple #[.string (S []), .int .i64 1]:=by
    unfold writeR writeE
    rw[all_no hxi hok];rfl
   rw[no_ne hok]at C1
   have n1:numOp .eql (.string (S [])) (.string ⟨#[]⟩)=some (.bool true):=m_eqST (b:=[]) rfl
   rw[e]
   refine wE_seq ?_;refine y4 ?_;refine yM ?_;refine yM ?_;refine yD ?_;refine yt ?_;refine y3 ?_
   refine yY ?_;refine wE_skip ?_;refine kS_n ?_;refine wE_seq ?_;refine wE_block ?_;refine y4 ?_;refine yM ?_;refine yM ?_;refine wO_val (a_iaddrS (by exact rfl) (by exact rfl) (by omega)) ?_;refine wO_val (a_loadN (by exact rfl) (by assumption) (by assumption) (by exact rfl)) ?_
   refine yC ?_
   refine FW.pu C1 ?_
   refine yM ?_;refine y3 ?_;refine wE_seq ?_;refine y4 ?_;refine yM ?_;refine wO_val (a_num (by exact rfl) (by exact rfl) (by with_reducible assumption)) ?_;refine y3 ?_;refine yY ?_;refine y4 ?_;refine yM ?_;refine yM ?_;refine y3 ?_;refine wE_ret ?_;refine kS_r ?_;refine kB_r ?_;refine kS_r ?_;refine kS_r ?_;refine kB_r ?_;refine kS_r ?_
   exact endP_ret hr.log rfl rfl
 ·obtain rfl:i=ns.length:=by omega
  rw[List.take_length]at hall
  rw[List.take_length]
  by_cases h6:ns.length≤600
  ·have e:writeR ns= .tuple #[.string (S (joinW (ns.map wd))), .int .i64 0]:=by unfold writeR writeE;rw[if_pos hall,if_pos h6]
   rw[e]
   refine wE_seq ?_;refine y4 ?_;refine yM ?_;refine yM ?_;refine yD ?_;refine yf ?_;refine y3 ?_
   refine yX ?_;refine wE_exit ?_;refine kS_e ?_;refine kS_e ?_;refine kB_e ?_;refine kS_n ?_;refine wE_seq ?_;refine y4 ?_;refine yM ?_;refine yD ?_;refine yf ?_;refine y3 ?_;refine yX ?_;refine wE_skip ?_;refine kS_n ?_;refine y4 ?_;refine yM ?_;refine yM ?_;refine yM ?_;refine y3 ?_;refine wE_ret ?_
   exact endP_ret hr.log rfl rfl
  ·have e:writeR ns= .tuple #[.string (S []), .int .i64 2]:=by unfold writeR writeE;rw[if_pos hall,if_neg h6]
   rw[e]
   refine wE_seq ?_;refine y4 ?_;refine yM ?_;refine yM ?_;refine yD ?_;refine yf ?_;refine y3 ?_
   refine yX ?_;refine wE_exit ?_;refine kS_e ?_;refine kS_e ?_;refine kB_e ?_;refine kS_n ?_;refine wE_seq ?_;refine y4 ?_;refine yM ?_;refine yD ?_;refine yt ?_;refine y3 ?_;refine yY ?_;refine y4 ?_;refine yM ?_;refine yM ?_;refine y3 ?_;refine wE_ret ?_;refine kS_r ?_
   exact endP_ret hr.log rfl rfl
end Go.A.Pk
end
section
set_option maxRecDepth 100000
namespace Go.A.Pk
variable {T:Nat→Option AFunc}
theorem leaves_node(k:Nat)(z:Int):leavesEq [.i .u8, .i .i64] [.int .u8 k, .int .i64 z] [.int .u8 k, .int .i64 z]=some true:=by simp[leavesEq,leafEq]
set_option maxHeartbeats 4000000 in
theorem sameNodes31(hp:primAS T)(hf:T 31=some f31){h:Heap}(hr:Rdy h){a b:Option Addr}{c d:Nat}{xs:List (Nat×Int)}(h1:SliceOf h 2 (.slice a xs.length c) xs.length (ncI xs))(h2:SliceOf h 2 (.slice b xs.length d) xs.length (ncI xs))(hn:xs.length<1000000):
 Pu T 31 [.slice a xs.length c, .slice b xs.length d] h (.bool true):=by
 refine .of hp hf hr rfl ?_
 refine y4 ?_;refine yM ?_;refine y3 ?_;refine wE_seq ?_;refine y4 ?_;refine yM ?_;refine yD ?_;refine yM ?_
 refine yD ?_;refine yf ?_;refine y3 ?_;refine yX ?_;refine wE_skip ?_;refine kS_n ?_;refine wE_seq ?_;refine y4 ?_
 refine yM ?_;refine y3 ?_;refine wE_block ?_
 refine wE_loop (fun m e ds h'=>∃i:Nat,i≤xs.length∧m=xs.length-i∧e=[(0, .slice a xs.length c),(1, .slice b xs.length d),(5, .int .i64 i)]∧ds=[]∧h=h')
  ⟨0,Nat.zero_le _,rfl,rfl,rfl,rfl⟩ ?_
 rintro m e ds _ ⟨i,hin,rfl,rfl,rfl,rfl⟩
 by_cases hlt:i<xs.length
 ·obtain⟨x,hxi⟩:∃x,xs[i]? =some x:=⟨xs[i],List.getElem?_eq_getElem hlt⟩
  rcases h1.inv with⟨_,_,h0,_⟩|⟨b1,o1,cap1,hv1,s1,hcap1⟩
  ·omega
  cases hv1
  rcases h2.inv with⟨_,_,h0,_⟩|⟨b2,o2,cap2,hv2,s2,hcap2⟩
  ·omega
  cases hv2
  obtain⟨vs,own,t,g1,g2⟩:=node_elem s1 hxi
  obtain⟨vs2,own2,t2,g3,g4⟩:=node_elem s2 hxi
  have hl:=leaves_node x.1 x.2
  refine wE_seq ?_;refine y4 ?_;refine yM ?_;refine yM ?_;refine yD ?_;refine yt ?_;refine y3 ?_
  refine yY ?_;refine wE_skip ?_;refine kS_n ?_;refine wE_seq ?_;refine wE_block ?_;refine wE_seq ?_;refine wE_draw ?_;refine qM ?_;refine qM ?_
  refine wD_quiet rfl rfl rfl (by exact rfl) (by exact rfl) (by exact rfl) (a_iaddrS (by exact rfl) (by exact rfl) (by omega)) ?_;refine wD_quiet rfl rfl rfl (by exact rfl) (by exact rfl) (by exact rfl) (a_loadN (by exact rfl) (by assumption) (by assumption) (by exact rfl)) ?_;refine qM ?_
  refine qM ?_;refine wD_quiet rfl rfl rfl (by exact rfl) (by exact rfl) (by exact rfl) (a_iaddrS (by exact rfl) (by exact rfl) (by omega)) ?_;refine wD_quiet rfl rfl rfl (by exact rfl) (by exact rfl) (by exact rfl) (a_loadN (by exact rfl) (by assumption) (by assumption) (by exact rfl)) ?_
  refine wD_quiet rfl rfl rfl (by exact rfl) (by exact rfl) (by exact rfl) (a_agg (by exact rfl) (by exact rfl) (by assumption)) ?_;refine wD_nil ?_;refine y1 ?_;refine kS_n ?_;refine yX ?_;refine wE_skip ?_;refine kB_n ?_;refine kS_n ?_;refine wE_region ?_
  refine yM ?_;refine yinc ?_;refine yM ?_;refine y3 ?_
  exact⟨xs.length-(i+1),by omega,i+1,by omega,rfl,rfl,rfl,rfl⟩
 ·obtain rfl:i=xs.length:=by omega
  refine wE_seq ?_;refine y4 ?_;refine yM ?_;refine yM ?_;refine yD ?_;refine yf ?_;refine y3 ?_
  refine yX ?_;refine wE_exit ?_;refine kS_e ?_;refine kS_e ?_;refine kB_e ?_;refine kS_n ?_;refine y4 ?_;refine yM ?_;refine y3 ?_;refine wE_ret ?_
  exact endP_ret hr.log rfl rfl
end Go.A.Pk
end
section
set_option maxRecDepth 100000
namespace Go.A.Pk
def splitB:List UInt8→List (List UInt8)
 |[]=>[[]]
 |c::l=>if c=32 then []::splitB l else match splitB l with
  |[]=>[[c]]
  |w::ws=>(c::w)::ws
theorem splitB_ne:∀l,splitB l≠[]
 |[]=>by simp[splitB]
 |c::l=>by
  unfold splitB
  split
  ·simp
  ·split<;>simp
theorem join_split:∀l,joinW (splitB l)=l
 |[]=>rfl
 |c::l=>by
  have ih:=join_split l
  unfold splitB
  split
  ·rename_i e
   subst e
   cases hs:splitB l with
   |nil=>exact absurd hs (splitB_ne l)
   |cons w ws=>
    rw[hs]at ih
    have:joinW ([]::w::ws)=[]++([32]++joinW (w::ws)):=by
     unfold joinW
     rw[Lib.join_cons,Lib.join_cons]
     simp[Lib.joinTail]
    rw[this,ih];rfl
  ·cases hs:splitB l with
   |nil=>exact absurd hs (splitB_ne l)
   |cons w ws=>
    rw[hs]at ih
    unfold joinW at ih⊢
    rw[Lib.join_cons]at ih⊢
    rw[List.cons_append,ih]
theorem splitB_word:∀{w:List UInt8},32 ∉ w→splitB w=[w]
 |[],_=>rfl
 |c::w,h=>by
  have h1:c≠32:=fun e=>h (by rw[e];exact List.mem_cons_self ..)
  have ih:=splitB_word (w:=w) fun q=>h (List.mem_cons_of_mem _ q)
  unfold splitB
  rw[if_neg h1,ih]
theorem splitB_app:∀{w:List UInt8},32 ∉ w→∀r,splitB (w++32::r)=w::splitB r
 |[],_,r=>by
  show splitB (32::r)=_
  rw[splitB,if_pos rfl]
 |c::w,h,r=>by
  have h1:c≠32:=fun e=>h (by rw[e];exact List.mem_cons_self ..)
  have ih:=splitB_app (w:=w) (fun q=>h (List.mem_cons_of_mem _ q)) r
  show splitB (c::(w++32::r))=_
  rw[splitB,if_neg h1,ih]
theorem split_join:∀{ws:List (List UInt8)},ws≠[]→(∀w∈ws,32 ∉ w)→splitB (joinW ws)=ws
 |[],h,_=>absurd rfl h
 |[w],_,h=>by rw[joinW_one];exact splitB_word (h w (by simp))
 |w::x::ws,_,h=>by
  have e:joinW (w::x::ws)=w++32::joinW (x::ws):=by
   unfold joinW
   rw[Lib.join_cons,Lib.join_cons]
   simp[Lib.joinTail]
  rw[e,splitB_app (h w (by simp)),split_join (by simp) fun y hy=>h y (List.mem_cons_of_mem _ hy)]
theorem splitB_snoc:∀(l:List UInt8) (c:UInt8) {d:List (List UInt8)} {w:List UInt8},splitB l=d++[w]→splitB (l++[c])=if c=32 then d++[w,[]]else d++[w++[c]]
 |[],c,d,w,h=>by
  have:d=[]∧w=[]:=by
   cases d with
   |nil=>simp[splitB]at h;exact⟨rfl,h⟩
   |cons a d=>simp[splitB]at h
  obtain⟨rfl,rfl⟩:=this
  show splitB [c]=_
  by_cases hc:c=32
  ·subst hc;rfl
  ·rw[if_neg hc,splitB,if_neg hc];rfl
 |x::l,c,d,w,h=>by
  rw[List.cons_append]
  rw[splitB]at h⊢
  by_cases hx:x=32
  ·rw[if_pos hx]at h⊢
   cases d with
   |nil=>
    rw[List.nil_append,List.cons.injEq]at h
    exact absurd h.2 (splitB_ne l)
   |cons a d=>
    rw[List.cons_append,List.cons.injEq]at h
    obtain⟨rfl,h⟩:=h
    rw[splitB_snoc l c h]
    split<;>rfl
  ·rw[if_neg hx]at h⊢
   cases hs:splitB l with
   |nil=>exact absurd hs (splitB_ne l)
   |cons a r=>
    rw[hs]at h
    simp only at h
    cases d with
    |nil=>
     rw[List.nil_append,List.cons.injEq]at h
     obtain⟨h1,h2⟩:=h
     subst h2
     rw[splitB_snoc l c (d:=[]) (w:=a) hs]
     subst h1
     by_cases hc:c=32
     ·simp only[if_pos hc];rfl
     ·simp only[if_neg hc];rfl
    |cons b d=>
     rw[List.cons_append,List.cons.injEq]at h
     obtain⟨h1,h2⟩:=h
     subst h2
     rw[splitB_snoc l c (d:=a::d) (w:=w) hs]
     subst h1
     by_cases hc:c=32
     ·simp only[if_pos hc];rfl
     ·simp only[if_neg hc];rfl
def wdS(k n:Nat):List UInt8:=if k=0 then [46]else(if k=1 then 112 else if k=2 then 116 else if k=3 then 97 else 108)::(if n<10 then [UInt8.ofNat (48+n)]else [49,UInt8.ofNat (38+n)])
def okS(k n:Nat):Bool:=(k==0&&n==0)||((k==1||k==2)&&decide (n≤11))||((k==3||k==4)&&decide (1≤n)&&decide (n≤15))
theorem okW_S{x:Nat×Int}(h:okW x=true):∃n:Nat,x.2=n∧x.1<5∧n<16∧okS x.1 n=true∧wd x=wdS x.1 n:=by
 obtain⟨k,z⟩:=x
 unfold okW wordP at h
 simp only at h
 have hz:0≤z∧z≤15∧k<5:=by
  repeat' split at h
  all_goals simp at h
  all_goals omega
 obtain⟨n,rfl⟩:∃n:Nat,z=n:=⟨z.toNat,by omega⟩
 refine⟨n,rfl,hz.2.2,by omega,?_,?_⟩
 ·unfold okS
  repeat' split at h
  all_goals simp at h
  all_goals subst_vars
  all_goals simp
  all_goals omega
 ·have hd:Lib.itoa (n:Int)=if n<10 then [UInt8.ofNat (48+n)]else [49,UInt8.ofNat (38+n)]:=by
   by_cases q:n<10
   ·rw[if_pos q,dig_small q]
   ·rw[if_neg q,dig_big (by omega) (by omega),show 48+(n-10)=38+n by omega]
  unfold wd wordP wdS
  simp only[hd]
  repeat' split
  all_goals simp_all
  all_goals omega
theorem S_okW{k n:Nat}(h:okS k n=true):okW (k,(n:Int))=true:=by
 unfold okS at h
 unfold okW wordP
 simp only[Bool.or_eq_true,Bool.and_eq_true,beq_iff_eq,decide_eq_true_eq]at h
 rcases h with(⟨rfl,rfl⟩|⟨rfl|rfl,h⟩)|⟨⟨rfl|rfl,h1⟩,h2⟩<;>simp<;>omega
theorem S_injB:((List.range 5).all fun k=>(List.range 16).all fun n=>(List.range 5).all fun k'=>(List.range 16).all fun n'=> !(okS k n&&okS k' n'&&(wdS k n==wdS k' n'))||(k==k'&&n==n'))=true:=by decide +kernel
theorem S_inj(k:Nat)(hk:k<5)(n:Nat)(hn:n<16)(k':Nat)(hk':k'<5)(n':Nat)(hn':n'<16)(h1:okS k n=true)(h2:okS k' n'=true)(h3:wdS k n=wdS k' n'):k=k'∧n=n':=by
 have q:=List.all_eq_true.1 (List.all_eq_true.1 (List.all_eq_true.1 (List.all_eq_true.1 S_injB k (List.mem_range.2 hk)) n (List.mem_range.2 hn)) k' (List.mem_range.2 hk')) n' (List.mem_range.2 hn')
 rw[h1,h2,h3]at q
 simpa using q
theorem S_no32B:((List.range 5).all fun k=>(List.range 16).all fun n=> !(wdS k n).contains 32)=true:=by decide +kernel
theorem S_no32(k:Nat)(hk:k<5)(n:Nat)(hn:n<16):(32:UInt8) ∉ wdS k n:=by
 have q:=List.all_eq_true.1 (List.all_eq_true.1 S_no32B k (List.mem_range.2 hk)) n (List.mem_range.2 hn)
 simpa using q
def findN(w:List UInt8):Option (Nat×Int):=((List.range 5).flatMap fun k=>(List.range 16).map fun n=>(k,n)).findSome? fun x=>if okS x.1 x.2&&(wdS x.1 x.2==w)then some (x.1,(x.2:Int))else none
theorem find_some{w:List UInt8}{x:Nat×Int}(h:findN w=some x):okW x=true∧wd x=w:=by
 unfold findN at h
 obtain⟨⟨k,n⟩,hm,hx⟩:=List.exists_of_findSome?_eq_some h
 split at hx
 ·rename_i q
  simp only[Bool.and_eq_true,beq_iff_eq]at q
  cases hx
  have h1:=S_okW q.1
  obtain⟨n',e1,_,_,_,e2⟩:=okW_S h1
  have e3:n'=n:=by simp only at e1;omega
  subst e3
  exact⟨h1,e2.trans q.2⟩
 ·cases hx
theorem find_wd{x:Nat×Int}(h:okW x=true):findN (wd x)=some x:=by
 obtain⟨n,e1,h1,h2,h3,h4⟩:=okW_S h
 obtain⟨k,z⟩:=x
 simp only at e1 h1 h3 h4
 subst e1
 cases hf:findN (wd (k,(n:Int)))with
 |none=>
  unfold findN at hf
  rw[List.findSome?_eq_none_iff]at hf
  have:=hf (k,n) (List.mem_flatMap.2 ⟨k,List.mem_range.2 h1,List.mem_map.2 ⟨n,List.mem_range.2 h2,rfl⟩⟩)
  rw[h4]at this
  simp[h3]at this
 |some y=>
  obtain⟨q1,q2⟩:=find_some hf
  obtain⟨m,d1,d2,d3,d4,d5⟩:=okW_S q1
  obtain⟨k',z'⟩:=y
  simp only at d1 d2 d4 d5
  subst d1
  rw[d5,h4]at q2
  obtain⟨rfl,rfl⟩:=S_inj k' d2 m d3 k h1 n h2 d4 h3 q2
  rfl
theorem wd_no32{x:Nat×Int}(h:okW x=true):(32:UInt8) ∉ wd x:=by
 obtain⟨n,_,h1,h2,_,h4⟩:=okW_S h
 rw[h4];exact S_no32 _ h1 _ h2
end Go.A.Pk
end
section
set_option maxRecDepth 100000
namespace Go.A.Pk
variable {T:Nat→Option AFunc}
theorem split_len:∀l,(splitB l).length=l.count 32+1
 |[]=>rfl
 |c::l=>by
  have ih:=split_len l
  rw[splitB]
  by_cases hc:c=32
  ·subst hc
   rw[if_pos rfl,List.length_cons,ih,List.count_cons_self]
  ·rw[if_neg hc,List.count_cons_of_ne (by simpa using hc)]
   cases hs:splitB l with
   |nil=>exact absurd hs (splitB_ne l)
   |cons w ws=>rw[hs]at ih;simpa using ih
theorem eqB_iff(x c:UInt8):eqB x c.toNat=true↔x=c:=by
 unfold eqB
 rw[beq_eq,decide_eq_true_eq]
 exact⟨fun h=>UInt8.toNat_inj.1 h,fun h=>by rw[h]⟩
theorem idx_some:∀{r:List UInt8} (i:Nat),32∈r→∃m,idxB 32 r i=((m+i:Nat):Int)∧m<r.length∧splitB r=r.take m::splitB (r.drop (m+1))
 |[],_,h=>by cases h
 |x::r,i,h=>by
  by_cases hx:x=32
  ·subst hx
   refine⟨0,?_,Nat.zero_lt_succ _,?_⟩
   ·rw[idxB,show eqB 32 32=true from rfl,cond_true,Nat.zero_add]
   ·rw[splitB,if_pos rfl];rfl
  ·have h2:eqB x 32=false:=by
    cases q:eqB x 32 with
    |false=>rfl
    |true=>exact absurd ((eqB_iff x 32).1 q) hx
   have hm:32∈r:=by
    rcases List.mem_cons.1 h with q|q
    ·exact absurd q.symm hx
    ·exact q
   obtain⟨m,e1,e2,e3⟩:=idx_some (i+1) hm
   refine⟨m+1,?_,Nat.succ_lt_succ e2,?_⟩
   ·rw[idxB,h2,cond_false,e1];congr 1;omega
   ·rw[splitB,if_neg hx,e3];rfl
structure FnsIx (T:Nat→Option AFunc):Prop where
 p:primAS T
 f91:T 91=some f91
 f133:T 133=some f133
 f156:T 156=some f156
 c183:T 183=some (.prim pIdx)
theorem prim183(F:FnsIx T){h:Heap}{s:List UInt8}{c:UInt8}:Pu T 183 [.string (S s), .int .u8 (c.toNat:Nat)] h (.int .i64 (idxB c.toNat s 0)):=by
 refine .prim F.c183 (v:= .int .i64 (idxB c.toNat s 0)) (h':=h) ?_ ⟨rfl,rfl⟩
 have:(.int .u8 ((c.toNat:Nat):Int):Value)= .int .u8 (Int.ofNat c.toNat):=rfl
 rw[this]
 unfold pIdx
 simp only[blt_eq,S_list]
 rw[decide_eq_true (show c.toNat<256 from c.toNat_lt)];rfl
theorem idx156(F:FnsIx T){h:Heap}(hr:Rdy h){s:List UInt8}{c:UInt8}:Pu T 156 [.string (S s), .int .u8 (c.toNat:Nat)] h (.int .i64 (idxB c.toNat s 0)):=by
 refine .of F.p F.f156 hr rfl ?_
 refine y4 ?_;refine yM ?_;refine y3 ?_;refine y4 ?_;refine yM ?_;refine yM ?_
 refine yC ?_
 refine FW.pu (prim183 F) ?_
 refine yM ?_;refine y3 ?_;refine wE_ret ?_
 exact endP_ret hr.log rfl rfl
theorem idx133(F:FnsIx T){h:Heap}(hr:Rdy h){s:List UInt8}{c:UInt8}:Pu T 133 [.string (S s), .string (S [c])] h (.int .i64 (idxB c.toNat s 0)):=by
 refine .of F.p F.f133 hr rfl ?_
 have hl:(([c]:List UInt8).length:Int)=1:=rfl
 by_cases q:[c]=s
 ·subst q
  have e:idxB c.toNat [c] 0=0:=by rw[idxB,(eqB_iff c c).2 rfl];rfl
  rw[e]
  refine y4 ?_;refine yM ?_;refine y3 ?_;refine y4 ?_;refine yM ?_;refine wO_val (a_len0S (by exact rfl)) ?_;refine yM ?_;refine y3 ?_;refine wE_seq ?_;refine wE_block ?_;refine y4 ?_;refine yM ?_;refine yf ?_;refine yM ?_;refine yO ?_
  refine yM ?_;refine yO ?_;refine yM ?_;refine yO ?_;refine wO_val (a_num (by exact rfl) (by exact rfl) (by exact m_eqST (by simp;done))) ?_;refine yU ?_;refine yM ?_;refine y3 ?_;refine yY ?_;refine y4 ?_;refine yM ?_;refine y3 ?_;refine wE_ret ?_;refine kB_r ?_
  refine kS_r ?_
  exact endP_ret hr.log rfl rfl
 ·refine y4 ?_;refine yM ?_;refine y3 ?_;refine y4 ?_;refine yM ?_;refine wO_val (a_len0S (by exact rfl)) ?_;refine yM ?_;refine y3 ?_;refine wE_seq ?_;refine wE_block ?_;refine y4 ?_;refine yM ?_;refine yf ?_;refine yM ?_;refine yO ?_
  refine yM ?_;refine yO ?_;refine yM ?_;refine yO ?_;refine wO_val (a_num (by exact rfl) (by exact rfl) (by exact m_eqSF (by assumption))) ?_;refine yU ?_;refine yM ?_;refine y3 ?_;refine yX ?_;refine y4 ?_;refine yM ?_;refine yt ?_;refine yM ?_;refine y3 ?_;refine yY ?_;refine y4 ?_;refine yM ?_;refine yM ?_;refine wO_val (a_idxSS (i:=0) (by exact rfl) (by exact rfl) (by exact rfl)) ?_
  refine yC ?_
  refine FW.pu (idx156 F (.of hr.wf)) ?_
  refine yM ?_;refine y3 ?_;refine wE_ret ?_;refine kB_r ?_;refine kS_r ?_
  exact endP_ret hr.log rfl rfl
theorem idx91(F:FnsIx T){h:Heap}(hr:Rdy h){s:List UInt8}{c:UInt8}:Pu T 91 [.string (S s), .string (S [c])] h (.int .i64 (idxB c.toNat s 0)):=by
 refine .of F.p F.f91 hr rfl ?_
 refine y4 ?_;refine yM ?_;refine y3 ?_;refine y4 ?_;refine yM ?_;refine yM ?_
 refine yC ?_
 refine FW.pu (idx133 F (.of hr.wf)) ?_
 refine yM ?_;refine y3 ?_;refine wE_ret ?_
 exact endP_ret hr.log rfl rfl
structure FnsSp (T:Nat→Option AFunc):Prop extends FnsIx T where
 f89:T 89=some f89
 f132:T 132=some f132
 f155:T 155=some f155
 c182:T 182=some (.prim pCnt)
theorem prim182(F:FnsSp T){h:Heap}{s:List UInt8}:Pu T 182 [.string (S s), .int .u8 ((32:UInt8).toNat:Nat)] h (.int .i64 (s.count 32:Nat)):=by
 refine .prim F.c182 (v:= .int .i64 (s.count 32:Nat)) (h':=h) ?_ ⟨rfl,rfl⟩
 have:(.int .u8 (((32:UInt8).toNat:Nat):Int):Value)= .int .u8 (Int.ofNat 32):=rfl
 rw[this]
 unfold pCnt
 simp only[S_list]
 rw[show Nat.blt 32 256=true from rfl,cond_true,cntB_eq (by omega),Nat.zero_add]
 rfl
theorem cnt155(F:FnsSp T){h:Heap}(hr:Rdy h){s:List UInt8}:Pu T 155 [.string (S s), .string (S [32])] h (.int .i64 (s.count 32:Nat)):=by
 refine .of F.p F.f155 hr rfl ?_
 have hl:(([32]:List UInt8).length:Int)=1:=rfl
 refine y4 ?_;refine yM ?_;refine y3 ?_;refine wE_seq ?_;refine y4 ?_;refine yM ?_;refine wO_val (a_len0S (by exact rfl)) ?_
 refine yf ?_;refine y3 ?_;refine yX ?_;refine wE_skip ?_;refine kS_n ?_;refine wE_seq ?_;refine y4 ?_;refine yM ?_
 refine wO_val (a_len0S (by exact rfl)) ?_;refine yt ?_;refine y3 ?_;refine yY ?_;refine y4 ?_;refine yM ?_
 refine yM ?_;refine wO_val (a_idxSS (i:=0) (by exact rfl) (by exact rfl) (by exact rfl)) ?_
 refine yC ?_
 refine FW.pu (prim182 F) ?_
 refine yM ?_;refine y3 ?_;refine wE_ret ?_;refine kS_r ?_
 exact endP_ret hr.log rfl rfl
end Go.A.Pk
end
section
set_option maxRecDepth 100000
namespace Go.A.Pk
variable {T:Nat→Option AFunc}
def StrsQ(ws:List (List UInt8))(v:Value)(h:Heap):Prop:=∃a c,v= .slice a ws.length c∧SliceOf h 1 (.slice a ws.length c) ws.length (strs ws)
theorem StrsQ.log{ws:List (List UInt8)}(v:Value)(h':Heap)(m:List Nat)(q:StrsQ ws v h'):StrsQ ws v {h' with log:=m}:=by
 obtain⟨a,c,h1,h2⟩:=q
 exact⟨a,c,h1,h2.log m⟩
theorem StrsQ.gc{ws:List (List UInt8)}{h:Heap}(v:Value)(h1:Heap)(hv:noRef v=true)(q:StrsQ ws v h1):StrsQ ws v h:=by
 obtain⟨a,c,rfl,h2⟩:=q
 refine⟨a,c,rfl,?_⟩
 generalize ws.length=n at*
 generalize strs ws=cs at*
 cases h2 with
 |nil=>exact .nil
 |mem s _=>simp[noRef,flat,scal,scal1]at hv
theorem push_wr(h:Heap)(X Y:AObj):(h.push X).wr h.next h.next Y=h.push Y:=by
 simp[Heap.wr,Heap.push,setO,blt_eq]
def rowS(done:List (List UInt8))(k:Nat):List Value:=strs done++List.replicate k (.string (S []))
theorem rowS_len(done:List (List UInt8))(k:Nat):(rowS done k).length=done.length+k:=by simp[rowS,strs]
theorem lputs_one(l:List Value)(i:Nat)(v:Value):lputs l i [v]=l.set i v:=by rw[lputs,lputs,lset_eq]
theorem rowS_put(done:List (List UInt8))(k:Nat)(w:List UInt8):lputs (rowS done (k+1)) (0+done.length*1) (cellsOf (.string (S w)))=rowS (done++[w]) k:=by
 show lputs _ _ [Value.string (S w)]=_
 rw[lputs_one,Nat.zero_add,Nat.mul_one]
 unfold rowS
 have hl:done.length=(strs done).length:=by simp[strs]
 rw[hl,List.set_append_right _ _ (Nat.le_refl _),Nat.sub_self,List.replicate_succ,List.set_cons_zero]
 simp[strs]
theorem rowS_ok(done:List (List UInt8))(k:Nat)(w:List UInt8):(Nat.beq (llen (cellsOf (.string (S w)))) 1&&Nat.ble (0+done.length*1+1) (llen (rowS done (k+1)))&&ones (cellsOf (.string (S w))))=true:=by
 have h1:llen (rowS done (k+1))=done.length+(k+1):=by rw[llen_eq,rowS_len]
 rw[h1]
 have h2:Nat.ble (0+done.length*1+1) (done.length+(k+1))=true:=by rw[ble_eq,decide_eq_true];omega
 rw[h2];rfl
theorem lrow_rowS(n:Nat):lrow n [(.string ⟨#[]⟩:Value)]=rowS [] n:=by
 induction n with
 |zero=>rfl
 |succ n ih=>rw[lrow,ih];unfold rowS;rw[List.replicate_succ];rfl
set_option maxHeartbeats 8000000 in
theorem split132(F:FnsSp T){h:Heap}(hr:Rdy h){s:List UInt8}(hs:s.length<100000):Al T 132 [.string (S s), .string (S [32]), .int .i64 0, .int .i64 (-1)] h (StrsQ (splitB s)):=by
 refine .of F.p F.f132 hr StrsQ.gc ?_
 have hl:(([32]:List UInt8).length:Int)=1:=rfl
 have hsl:=split_len s
 have hcl:s.count 32≤s.length:=List.count_le_length
 have n1:numOp .eql (.string (S [32])) (.string ⟨#[]⟩)=some (.bool false):=m_eqSF (b:=[]) (by simp)
 have hmi:mi ((s.count 32+1:Nat):Int) ((s.length+1:Nat):Int)=((s.count 32+1:Nat):Int):=by unfold mi;rw[if_neg (by omega)]
 refine y4 ?_;refine yM ?_;refine y3 ?_;refine wE_seq ?_;refine y4 ?_;refine yM ?_;refine yf ?_
 refine y3 ?_;refine yX ?_;refine wE_skip ?_;refine kS_n ?_;refine wE_seq ?_;refine y4 ?_;refine yM ?_;refine wO_val (a_num (by exact rfl) (by exact rfl) (by with_reducible assumption)) ?_
 refine y3 ?_;refine yX ?_;refine wE_skip ?_;refine kS_n ?_;refine wE_seq ?_;refine y4 ?_;refine yM ?_;refine yt ?_
 refine y3 ?_;refine yY ?_;refine wE_region ?_;refine yM ?_;refine yM ?_
 refine yC ?_
 refine FW.pu (cnt155 F (.of hr.wf)) ?_
 refine yinc ?_;refine yM ?_;refine y3 ?_;refine y4 ?_;refine yM ?_;refine yM ?_
 refine wO_val (a_len0S (by exact rfl)) ?_;refine yinc ?_;refine wO_val (a_minI (by exact rfl) (by exact rfl)) ?_;refine yM ?_;refine y3 ?_;refine y4 ?_
 refine yM ?_
 rw[hmi]
 refine wO_val (a_mkSlice (l:=s.count 32+1) (c:=s.count 32+1) (by exact rfl) (by exact rfl) (Nat.le_refl _) (by omega) (by omega) rfl) ?_
 rw[lrow_rowS]
 have hsub:numOp .sub (.int .i64 ((s.count 32+1:Nat):Int)) (.int .i64 1)=some (.int .i64 ((s.count 32:Nat):Int)):=m_sub (by rw[wrapA_i64]<;>omega)
 refine yM ?_;refine y3 ?_;refine y4 ?_;refine yM ?_;refine wO_val (a_num (by exact rfl) (by exact rfl) (by with_reducible assumption)) ?_;refine yM ?_;refine y3 ?_;refine y4 ?_;refine yM ?_;refine y3 ?_;refine wE_seq ?_;refine wE_block ?_
 refine wE_loop (fun m e ds h'=>∃(i:Nat) (r:List UInt8) (done:List (List UInt8)),i≤s.count 32∧m=s.count 32-i∧done.length=i∧splitB s=done++splitB r∧r.length≤s.length∧e=[(0, .string (S r)),(1, .string (S [32])),(2, .int .i64 0),(3, .int .i64 (s.count 32:Nat)),(9, .slice (some ⟨h.next,0,none⟩) (s.count 32+1) (s.count 32+1)),(10, .int .i64 i)]∧ds=[]∧h.push (.cells (rowS done (s.count 32+1-i)) true 1)=h')
  ⟨0,s,[],Nat.zero_le _,rfl,rfl,rfl,Nat.le_refl _,rfl,rfl,rfl⟩ ?_
 rintro m e ds _ ⟨i,r,done,hi,rfl,hd,hsp,hrl,rfl,rfl,rfl⟩
 subst hd
 have hln:done.length+(splitB r).length=s.count 32+1:=by
  have:=congrArg List.length hsp
  rw[List.length_append,hsl]at this
  exact this.symm
 have hx:∀X,Ext h (h.push (.cells X true 1)):=fun X=>(Ext.refl h).push _
 by_cases hlt:done.length<s.count 32
 ·have hr32:32∈r:=by
   apply Decidable.byContradiction
   intro q
   rw[splitB_word q]at hln
   simp at hln;omega
  obtain⟨m,e1,e2,e3⟩:=idx_some 0 hr32
  rw[Nat.add_zero]at e1
  obtain⟨k,hk⟩:∃k,s.count 32+1-done.length=k+1:=⟨s.count 32-done.length,by omega⟩
  rw[hk]
  have C:=idx91 F.toFnsIx (h:={h.push (.cells (rowS done (k+1)) true 1)with log:=[]}) (.of ((hx _).wf hr.wf)) (s:=r) (c:=32)
  rw[show(32:UInt8).toNat=32 from rfl,e1]at C
  have ha:numOp .add (.int .i64 ((m:Nat):Int)) (.int .i64 0)=some (.int .i64 ((m:Nat):Int)):=m_add (by rw[wrapA_i64]<;>omega)
  have hb:numOp .add (.int .i64 ((m:Nat):Int)) (.int .i64 (([32]:List UInt8).length:Nat))=some (.int .i64 ((m+1:Nat):Int)):=m_add (by show wrapA .i64 (m+1)=_;rw[wrapA_i64]<;>omega)
  refine wE_seq ?_;refine y4 ?_;refine yM ?_;refine yM ?_;refine yt ?_;refine y3 ?_;refine yY ?_
  refine wE_skip ?_;refine kS_n ?_;refine wE_block ?_;refine y4 ?_;refine yM ?_;refine yM ?_
  refine yC ?_
  refine FW.pu C ?_
  refine yM ?_;refine y3 ?_;refine wE_seq ?_;refine y4 ?_;refine yM ?_;refine yf ?_;refine y3 ?_;refine yX ?_;refine wE_skip ?_;refine kS_n ?_;refine y4 ?_;refine yM ?_;refine yM ?_;refine yM ?_;refine yM ?_
  refine yM ?_;refine wO_val (a_num (by exact rfl) (by exact rfl) (by with_reducible assumption)) ?_;refine wO_val (a_sliceSS (by exact rfl) (by exact rfl) (by exact rfl) (by omega) (by omega)) ?_;refine wO_val (a_iaddrS (by exact rfl) (by exact rfl) (by omega)) ?_
  refine wO_val (a_store (by exact rfl) (by exact rfl) (by(simp(disch:=first|omega|(simp only[z1,z2];omega))only[z3,z4,z5,z6,z7,z1,z2];exact rfl)) (rowS_ok done k (r.take m)) (rowS_put done k (r.take m))) ?_
  rw[push_wr]
  refine y3 ?_;refine y4 ?_;refine yM ?_;refine yM ?_;refine yM ?_;refine wO_val (a_len0S (by exact rfl)) ?_
  refine wO_val (a_num (by exact rfl) (by exact rfl) (by with_reducible assumption)) ?_;refine wO_val (a_sliceSS (by exact rfl) (by exact rfl) (by exact rfl) (by omega) (by omega)) ?_;refine yM ?_;refine y3 ?_;refine wE_region ?_
  refine yM ?_;refine yinc ?_;refine yM ?_;refine wO_nil ?_;refine y1 ?_;refine kB_n ?_;refine kS_n ?_
  refine⟨s.count 32-(done.length+1),by omega,done.length+1,(r.take r.length).drop (m+1),done++[r.take m],by omega,rfl,by simp,?_,?_,rfl,rfl,?_⟩
  ·rw[hsp,e3,List.take_length];simp
  ·rw[List.take_length,List.length_drop];omega
  ·rw[show s.count 32+1-(done.length+1)=k by omega]
 ·have hr1:(splitB r).length=1:=by omega
  have hr32:32 ∉ r:=fun q=>by
   obtain⟨m,_,_,e3⟩:=idx_some 0 q
   rw[e3,List.length_cons]at hr1
   have:=List.length_pos_iff.2 (splitB_ne (r.drop (m+1)))
   omega
  have hw:splitB s=done++[r]:=by rw[hsp,splitB_word hr32]
  rw[show s.count 32+1-done.length=0+1 by omega]
  refine wE_seq ?_;refine y4 ?_;refine yM ?_;refine yM ?_;refine yf ?_;refine y3 ?_;refine yX ?_
  refine wE_exit ?_;refine kS_e ?_;refine kS_e ?_;refine kB_e ?_;refine kS_n ?_;refine y4 ?_;refine yM ?_;refine yM ?_;refine yM ?_;refine wO_val (a_iaddrS (by exact rfl) (by exact rfl) (by omega)) ?_
  refine wO_val (a_store (by exact rfl) (by exact rfl) (by(simp(disch:=first|omega|(simp only[z1,z2];omega))only[z3,z4,z5,z6,z7,z1,z2];exact rfl)) (rowS_ok done 0 r) (rowS_put done 0 r)) ?_
  rw[push_wr]
  refine y3 ?_;refine y4 ?_;refine yM ?_;refine yM ?_;refine yinc ?_
  refine wO_val (a_sliceC (i:=0) (j:=done.length+1) (by exact rfl) (by exact rfl) (by exact rfl) (by omega) (by omega) (by omega) (by omega)) ?_
  rw[show done.length+1-0=(splitB s).length by rw[hw];simp]
  refine yM ?_;refine y3 ?_;refine wE_ret ?_
  refine endA_ret (vs:=[.slice (some ⟨h.next,0+0*1,none⟩) (splitB s).length (s.count 32+1-0)]) hr.log rfl ⟨_,_,rfl, .mem ⟨Nat.lt_succ_self _,⟨_,_,_,z3 _ _,?_⟩,?_⟩ ?_⟩
  ·rw[hw]
   unfold rowS
   rw[ltake_eq,ldrop_eq,List.replicate_zero,List.append_nil]
   show List.take _ (strs (done++[r]))=_
   rw[List.take_of_length_le (by simp[strs])]
  ·simp[strs]
  ·rw[hsl];exact Nat.le_refl _
theorem split89(F:FnsSp T){h:Heap}(hr:Rdy h){s:List UInt8}(hs:s.length<100000):Al T 89 [.string (S s), .string (S [32])] h (StrsQ (splitB s)):=by
 refine .of F.p F.f89 hr StrsQ.gc ?_
 refine y4 ?_;refine yM ?_;refine y3 ?_;refine y4 ?_;refine yM ?_;refine yM ?_
 refine yC ?_
 refine FW.al (split132 F (.of hr.wf) hs) (fun v h' m q=>StrsQ.log v h' m q) ?_
 rintro v h2 hx2 q
 refine yM ?_;refine y3 ?_;refine wE_ret ?_
 exact endA_ret (vs:=[v]) (hx2.log.trans hr.log) rfl q
end Go.A.Pk
end
section
set_option maxRecDepth 100000
namespace Go.A.Pk
def lettersL:List UInt8:=[46,112,116,97,108]
def lidx(c:UInt8):Int:=idxB c.toNat lettersL 0
def fine:List UInt8→Bool
 |[]=>false
 |c::_=>decide (0≤lidx c)
def nodeOf:List UInt8→Nat×Int
 |[]=>(0,0)
 |c::l=>((lidx c).toNat,atoiV l)
def readE(t:List UInt8):List (Nat×Int)×Int:=
 if t=[]then([],0)else if((splitB t).all fun w=>(findN w).isSome)=true∧(splitB t).length≤600 then((splitB t).map nodeOf,0)else([],4)
theorem lidx_le(c:UInt8):lidx c≤4:=by
 unfold lidx lettersL
 simp only[idxB]
 repeat (first|(cases eqB _ _<;>simp only[cond_true,cond_false])|omega)
theorem fine_S:((List.range 5).all fun k=>(List.range 16).all fun n=> !okS k n||(fine (wdS k n)&&(nodeOf (wdS k n)==(k,(n:Int)))))=true:=by decide +kernel
theorem find_fine{w:List UInt8}{x:Nat×Int}(h:findN w=some x):fine w=true∧nodeOf w=x:=by
 obtain⟨h1,h2⟩:=find_some h
 obtain⟨n,e1,h3,h4,h5,h6⟩:=okW_S h1
 obtain⟨k,z⟩:=x
 simp only at e1 h3 h5 h6
 subst e1
 have q:=List.all_eq_true.1 (List.all_eq_true.1 fine_S k (List.mem_range.2 h3)) n (List.mem_range.2 h4)
 rw[h5,←h6,h2]at q
 simpa using q
theorem atoiV_bd(l:List UInt8): -9223372036854775808≤atoiV l∧atoiV l≤9223372036854775807:=by
 unfold atoiV
 split
 ·rename_i v h;exact Lib.atoiAll_bounds h
 ·unfold Lib.atoiSat;split<;>omega
 ·omega
theorem nodes_Ni(ws:List (List UInt8)):Ni (ws.map nodeOf):=fun x hx=>by
 obtain⟨w,_,rfl⟩:=List.mem_map.1 hx
 cases w with
 |nil=>exact⟨by show 0<256;omega,by show -9223372036854775808≤(0:Int);omega,by show(0:Int)≤_;omega⟩
 |cons c l=>
  have h1:=lidx_le c
  have h2:=atoiV_bd l
  exact⟨by show(lidx c).toNat<256;omega,h2.1,h2.2⟩
theorem found_all{t:List UInt8}(h:((splitB t).all fun w=>(findN w).isSome)=true):∀w∈splitB t,fine w=true∧okW (nodeOf w)=true∧wd (nodeOf w)=w:=fun w hw=>by
 have:=List.all_eq_true.1 h w hw
 obtain⟨x,hx⟩:=Option.isSome_iff_exists.1 this
 obtain⟨h1,h2⟩:=find_fine hx
 obtain⟨h3,h4⟩:=find_some hx
 subst h2
 exact⟨h1,h3,h4⟩
theorem read_bad{t:List UInt8}(ht:t≠[]){i:Nat}{w:List UInt8}(hw:(splitB t)[i]? =some w)(h:fine w=false∨600<i):readE t=([],4):=by
 unfold readE
 rw[if_neg ht,if_neg]
 rintro⟨h1,h2⟩
 have hi:=(List.getElem?_eq_some_iff.1 hw).1
 have:=(found_all h1 w (List.mem_of_getElem? hw)).1
 rcases h with h|h
 ·rw[this]at h;cases h
 ·omega
theorem map_self{ws:List (List UInt8)}(h:∀w∈ws,wd (nodeOf w)=w):(ws.map nodeOf).map wd=ws:=by
 rw[List.map_map]
 conv=>rhs;rw[←List.map_id ws]
 exact List.map_congr_left fun w hw=>h w hw
theorem read_ok{t:List UInt8}(ht:t≠[]):readE t=if writeE ((splitB t).map nodeOf)=(t,0)then((splitB t).map nodeOf,0)else([],4):=by
 unfold readE
 rw[if_neg ht]
 by_cases q:((splitB t).all fun w=>(findN w).isSome)=true∧(splitB t).length≤600
 ·have hf:=found_all q.1
  have hall:((splitB t).map nodeOf).all okW=true:=by
   rw[List.all_eq_true]
   intro x hx
   obtain⟨w,hw,rfl⟩:=List.mem_map.1 hx
   exact(hf w hw).2.1
  have hw:writeE ((splitB t).map nodeOf)=(t,0):=by
   unfold writeE
   rw[if_pos hall,if_pos (by rw[List.length_map];exact q.2),map_self fun w hw=>(hf w hw).2.2,join_split]
  rw[if_pos q,if_pos hw]
 ·rw[if_neg q,if_neg]
  intro hw
  apply q
  unfold writeE at hw
  split at hw
  ·rename_i hall
   split at hw
   ·rename_i hl
    rw[List.length_map]at hl
    have hj:joinW (((splitB t).map nodeOf).map wd)=t:=congrArg Prod.fst hw
    have hok:∀w∈splitB t,okW (nodeOf w)=true:=fun w hw=>List.all_eq_true.1 hall _ (List.mem_map_of_mem hw)
    have hs:=split_join (ws:=((splitB t).map nodeOf).map wd) (by simpa using splitB_ne t) (fun w hw=>by
     obtain⟨x,hx,rfl⟩:=List.mem_map.1 hw
     exact wd_no32 (List.all_eq_true.1 hall x hx))
    rw[hj]at hs
    refine⟨?_,hl⟩
    rw[List.all_eq_true]
    intro w hw
    obtain⟨i,hi,rfl⟩:=List.getElem_of_mem hw
    have e:(splitB t)[i]=wd (nodeOf (splitB t)[i]):=by
     have h1:(splitB t)[i]? =((List.map wd (List.map nodeOf (splitB t))))[i]? :=by rw[←hs]
     rw[List.getElem?_map,List.getElem?_map,List.getElem?_eq_getElem hi]at h1
     simpa using h1
    rw[e,find_wd (hok _ hw)];rfl
   ·cases hw
  ·cases hw
end Go.A.Pk
end
section
set_option maxRecDepth 100000
namespace Go.A.Pk
variable {T:Nat→Option AFunc}
structure FnsRd (T:Nat→Option AFunc):Prop extends FnsSp T,FnsWt T where
 f29:T 29=some f29
 f90:T 90=some f90
 c92:∀{h:Heap} {l:List UInt8},Rdy h→Glob h→l.length≤100000→Al T 92 [.string (S l)] h fun v _=>∃x,v= .tuple #[.int .i64 (atoiV l),x]
def NodesQ(xs:List (Nat×Int))(er:Int)(v:Value)(h:Heap):Prop:=∃a c,v= .tuple #[.slice a xs.length c, .int .i64 er]∧SliceOf h 2 (.slice a xs.length c) xs.length (ncI xs)
theorem NodesQ.log{xs:List (Nat×Int)}{er:Int}(v:Value)(h':Heap)(m:List Nat)(q:NodesQ xs er v h'):NodesQ xs er v {h' with log:=m}:=by
 obtain⟨a,c,h1,h2⟩:=q
 exact⟨a,c,h1,h2.log m⟩
theorem NodesQ.gc{xs:List (Nat×Int)}{er:Int}{h:Heap}(v:Value)(h1:Heap)(hv:noRef v=true)(q:NodesQ xs er v h1):NodesQ xs er v h:=by
 obtain⟨a,c,rfl,h2⟩:=q
 refine⟨a,c,rfl,?_⟩
 generalize xs.length=n at*
 generalize ncI xs=cs at*
 cases h2 with
 |nil=>exact .nil
 |mem s _=>simp[noRef,flatL,flat,scalL,scal,scal1]at hv
theorem NodesQ.ret{xs:List (Nat×Int)}{er:Int}{s:Value}{h:Heap}(hs:SliceOf h 2 s xs.length (ncI xs)):NodesQ xs er (.tuple #[s, .int .i64 er]) h:=by
 obtain⟨a,c,rfl⟩:=hs.form
 exact⟨a,c,rfl,hs⟩
theorem has90(F:FnsIx T)(hf:T 90=some f90){h:Heap}(hr:Rdy h){s:List UInt8}{c:UInt8}{b:Bool}(hb:b=decide (0≤idxB c.toNat s 0)):Pu T 90 [.string (S s), .string (S [c])] h (.bool b):=by
 refine .of F.p hf hr rfl ?_
 have C:=idx91 F (h:={h with log:=[]}) (.of hr.wf) (s:=s) (c:=c)
 cases b with
 |true=>
  have q:0≤idxB c.toNat s 0:=by simpa using hb.symm
  refine y4 ?_;refine yM ?_;refine y3 ?_;refine y4 ?_;refine yM ?_;refine yM ?_
  refine yC ?_
  refine FW.pu C ?_
  refine yt ?_;refine yM ?_;refine y3 ?_;refine wE_ret ?_
  exact endP_ret hr.log rfl rfl
 |false=>
  have q:idxB c.toNat s 0<0:=by have:=hb.symm;simp at this;exact this
  refine y4 ?_;refine yM ?_;refine y3 ?_;refine y4 ?_;refine yM ?_;refine yM ?_
  refine yC ?_
  refine FW.pu C ?_
  refine yf ?_;refine yM ?_;refine y3 ?_;refine wE_ret ?_
  exact endP_ret hr.log rfl rfl
theorem ncI_snoc(l:List (Nat×Int))(x:Nat×Int):ncI (l++[x])=ncI l++[.int .u8 x.1, .int .i64 x.2]:=by
 induction l with
 |nil=>rfl
 |cons y l ih=>rw[List.cons_append,ncI,ncI,ih];rfl
theorem word_le:∀{l:List UInt8} {i:Nat} {w:List UInt8},(splitB l)[i]? =some w→w.length≤l.length
 |[],i,w,h=>by
  cases i with
  |zero=>simp[splitB]at h;subst h;exact Nat.le_refl _
  |succ i=>simp[splitB]at h
 |c::l,i,w,h=>by
  rw[splitB]at h
  split at h
  ·cases i with
   |zero=>simp at h;subst h;exact Nat.zero_le _
   |succ i=>have:=word_le (l:=l) (i:=i) (by simpa using h);simp;omega
  ·cases hs:splitB l with
   |nil=>exact absurd hs (splitB_ne l)
   |cons a r=>
    rw[hs]at h
    simp only at h
    cases i with
    |zero=>
     simp at h
     subst h
     have:=word_le (l:=l) (i:=0) (w:=a) (by rw[hs];rfl)
     simp;omega
    |succ i=>
     have:=word_le (l:=l) (i:=i+1) (w:=w) (by rw[hs];simpa using h)
     simp;omega
set_option maxHeartbeats 16000000 in
theorem read29(F:FnsRd T){h:Heap}(hr:Rdy h)(hG:Glob h){t:List UInt8}(ht:t.length<100000):Al T 29 [.string (S t)] h (NodesQ (readE t).1 (readE t).2):=by
 refine .of F.toFnsSp.p F.f29 hr NodesQ.gc ?_
 by_cases h0:t=[]
 ·subst h0
  have n1:numOp .eql (.string (S [])) (.string ⟨#[]⟩)=some (.bool true):=m_eqST (b:=[]) rfl
  refine y4 ?_;refine yM ?_;refine yM ?_;refine y3 ?_;refine wE_seq ?_;refine y4 ?_;refine yM ?_
  refine wO_val (a_num (by exact rfl) (by exact rfl) (by with_reducible assumption)) ?_;refine y3 ?_;refine yY ?_;refine y4 ?_;refine yM ?_;refine yM ?_;refine y3 ?_;refine wE_ret ?_;refine kS_r ?_
  exact endA_ret (vs:=[.slice none 0 0, .int .i64 0]) hr.log rfl ⟨none,0,rfl, .nil⟩
 have n1:numOp .eql (.string (S t)) (.string ⟨#[]⟩)=some (.bool false):=m_eqSF (b:=[]) h0
 refine y4 ?_;refine yM ?_;refine yM ?_;refine y3 ?_;refine wE_seq ?_;refine y4 ?_;refine yM ?_
 refine wO_val (a_num (by exact rfl) (by exact rfl) (by with_reducible assumption)) ?_;refine y3 ?_;refine yX ?_;refine wE_skip ?_;refine kS_n ?_;refine y4 ?_;refine yM ?_;refine y3 ?_;refine wE_seq ?_;refine y4 ?_;refine yM ?_
 refine yC ?_
 refine FW.al (split89 F.toFnsSp (.of hr.wf) ht) (fun v h' m q=>StrsQ.log v h' m q) ?_
 rintro _ hS hxS ⟨sa,sc,rfl,hws⟩
 have wS:=hxS.wf hr.wf
 have hlS:=hxS.log.trans hr.log
 have hNS:=hxS.next
 have hlen:(splitB t).length≤t.length+1:=by rw[split_len];have:=List.count_le_length (a:=(32:UInt8)) (l:=t);omega
 clear n1
 refine yD ?_;refine yM ?_;refine y3 ?_;refine wE_block ?_
 refine wE_loop (fun m e ds h'=>∃(i:Nat) (v:Value),i≤(splitB t).length∧m=(splitB t).length-i∧e=[(0, .string (S t)),(4,v),(13, .slice sa (splitB t).length sc),(14, .int .i64 (splitB t).length),(15, .int .i64 i)]∧ds=[]∧Ext hS h'∧Own hS.next h' 2 v i (ncI (((splitB t).take i).map nodeOf)))
  ⟨0,_,Nat.zero_le _,rfl,rfl,rfl, .refl _, .nil⟩ ?_
 rintro m e ds h' ⟨i,v,hin,rfl,rfl,rfl,hx',own⟩
 have hxx:=hxS.trans hx'
 by_cases hlt:i<(splitB t).length
 ·obtain⟨w,hwi⟩:∃w,(splitB t)[i]? =some w:=⟨(splitB t)[i],List.getElem?_eq_getElem hlt⟩
  rcases(hws.ext hx').inv with⟨_,_,h0',_⟩|⟨b,o,cap,hv,s1,hcap⟩
  ·omega
  cases hv
  obtain⟨vs,ow,tt,g1,g2⟩:=slice_elem1 s1 (i:=i) (x:= .string (S w)) (by simp[strs,hwi])
  obtain⟨va,vc,rfl⟩:=(own.slice (by omega)).form
  cases w with
  |nil=>
   have e:=read_bad h0 hwi (.inl rfl)
   have n1:numOp .eql (.string (S [])) (.string ⟨#[]⟩)=some (.bool true):=m_eqST (b:=[]) rfl
   rw[e]
   refine y4 ?_;refine yt ?_;refine y3 ?_;refine wE_seq ?_;refine yY ?_;refine wE_skip ?_;refine kS_n ?_;refine wE_seq ?_;refine wE_block ?_;refine y4 ?_;refine wO_val (a_iaddrS (by exact rfl) (by exact rfl) (by omega)) ?_;refine wO_val (a_load (by exact rfl) (by assumption) (by assumption)) ?_;refine yM ?_;refine y3 ?_;refine wE_seq ?_;refine y4 ?_
   refine yM ?_;refine wO_val (a_num (by exact rfl) (by exact rfl) (by with_reducible assumption)) ?_;refine yM ?_;refine yP ?_;refine yP ?_;refine yP ?_;refine yP ?_
   refine yT ?_;refine yM ?_;refine yP ?_;refine yP ?_;refine yP ?_;refine yT ?_;refine y3 ?_;refine yY ?_;refine y4 ?_;refine yM ?_;refine yM ?_;refine y3 ?_;refine wE_ret ?_;refine kS_r ?_;refine kB_r ?_;refine kS_r ?_;refine kS_r ?_;refine kB_r ?_;refine kS_r ?_
   exact endA_ret (vs:=[.slice none 0 0, .int .i64 4]) (hx'.log.trans hlS) rfl ⟨none,0,rfl, .nil⟩
  |cons c l=>
   have n1:numOp .eql (.string (S (c::l))) (.string ⟨#[]⟩)=some (.bool false):=m_eqSF (b:=[]) (by simp)
   obtain⟨fb,hfb⟩:∃b:Bool,b=decide (0≤lidx c):=⟨_,rfl⟩
   have C1:=has90 F.toFnsIx F.f90 (h:={h' with log:=[]}) (.of (hxx.wf hr.wf)) (s:=lettersL) (c:=c) hfb
   cases fb with
   |false=>
    have e:=read_bad h0 hwi (.inl hfb.symm)
    rw[e]
    refine y4 ?_;refine yt ?_;refine y3 ?_;refine wE_seq ?_;refine yY ?_;refine wE_skip ?_;refine kS_n ?_;refine wE_seq ?_;refine wE_block ?_;refine y4 ?_;refine wO_val (a_iaddrS (by exact rfl) (by exact rfl) (by omega)) ?_;refine wO_val (a_load (by exact rfl) (by assumption) (by assumption)) ?_;refine yM ?_;refine y3 ?_;refine wE_seq ?_;refine y4 ?_
    refine yM ?_;refine wO_val (a_num (by exact rfl) (by exact rfl) (by with_reducible assumption)) ?_;refine yM ?_;refine yO ?_;refine yM ?_;refine yO ?_;refine wO_val (a_sliceSS (by exact rfl) (by exact rfl) (by exact rfl) (by omega) (by(simp;done))) ?_
    refine yO ?_
    refine yC ?_
    refine FW.pu C1 ?_
    refine yO ?_;refine yA ?_;refine yU ?_;refine yM ?_;refine yP ?_;refine yP ?_;refine yP ?_;refine yT ?_;refine y3 ?_;refine yY ?_;refine y4 ?_;refine yM ?_;refine yM ?_;refine y3 ?_;refine wE_ret ?_;refine kS_r ?_;refine kB_r ?_;refine kS_r ?_;refine kS_r ?_;refine kB_r ?_;refine kS_r ?_
    exact endA_ret (vs:=[.slice none 0 0, .int .i64 4]) (hx'.log.trans hlS) rfl ⟨none,0,rfl, .nil⟩
   |true=>
    have hl0:0≤lidx c:=by simpa using hfb.symm
    have hl4:=lidx_le c
    by_cases h6:600<i
    ·have e:=read_bad h0 hwi (.inr h6)
     rw[e]
     refine y4 ?_;refine yt ?_;refine y3 ?_;refine wE_seq ?_;refine yY ?_;refine wE_skip ?_;refine kS_n ?_;refine wE_seq ?_;refine wE_block ?_;refine y4 ?_;refine wO_val (a_iaddrS (by exact rfl) (by exact rfl) (by omega)) ?_;refine wO_val (a_load (by exact rfl) (by assumption) (by assumption)) ?_;refine yM ?_;refine y3 ?_;refine wE_seq ?_;refine y4 ?_
     refine yM ?_;refine wO_val (a_num (by exact rfl) (by exact rfl) (by with_reducible assumption)) ?_;refine yM ?_;refine yO ?_;refine yM ?_;refine yO ?_;refine wO_val (a_sliceSS (by exact rfl) (by exact rfl) (by exact rfl) (by omega) (by(simp;done))) ?_
     refine yO ?_
     refine yC ?_
     refine FW.pu C1 ?_
     refine yO ?_;refine yA ?_;refine yU ?_;refine yM ?_;refine yO ?_;refine yM ?_;refine yO ?_;refine yD ?_;refine yO ?_
     refine yt ?_;refine yU ?_;refine y3 ?_;refine yY ?_;refine y4 ?_;refine yM ?_
     refine yM ?_;refine y3 ?_;refine wE_ret ?_;refine kS_r ?_;refine kB_r ?_;refine kS_r ?_;refine kS_r ?_;refine kB_r ?_;refine kS_r ?_
     exact endA_ret (vs:=[.slice none 0 0, .int .i64 4]) (hx'.log.trans hlS) rfl ⟨none,0,rfl, .nil⟩
    ·have C2:=idx91 F.toFnsIx (h:={h' with log:=[]}) (.of (hxx.wf hr.wf)) (s:=lettersL) (c:=c)
     have e1:idxB c.toNat lettersL 0=(((lidx c).toNat:Nat):Int):=by show lidx c=_;omega
     rw[e1]at C2
     have hcv:wrapA .u8 (((lidx c).toNat:Nat):Int)=(((lidx c).toNat:Nat):Int):=by rw[wrapA_eq,IntKind.wrap_u8];omega
     have hnx:=hx'.next
     have hE1:Ext h' ((h'.push (.cells [.int .u8 0, .int .i64 0] true 1)).wr h.next h'.next (.cells [.int .u8 ((lidx c).toNat:Nat), .int .i64 0] true 1)):=((Ext.refl h').push _).wr (Nat.le_refl _) (by omega)
     have hdl:((c::l).take (c::l).length).drop 1=l:=by simp
     have hll:l.length≤100000:=by
      have h1:(c::l).length≤t.length:=by
       have:=word_le hwi
       exact this
      rw[List.length_cons]at h1;omega
     have C3:=F.c92 (h:={(h'.push (.cells [.int .u8 0, .int .i64 0] true 1)).wr h.next h'.next (.cells [.int .u8 ((lidx c).toNat:Nat), .int .i64 0] true 1)with log:=[]}) (l:=((c::l).take (c::l).length).drop 1) (.of ((hxx.trans hE1).wf hr.wf)) ((Glob.ext hG hr.wf (hxx.trans hE1)).log []) (by rw[hdl];exact hll)
     refine y4 ?_;refine yt ?_;refine y3 ?_;refine wE_seq ?_;refine yY ?_;refine wE_skip ?_;refine kS_n ?_;refine wE_seq ?_;refine wE_block ?_;refine y4 ?_;refine wO_val (a_iaddrS (by exact rfl) (by exact rfl) (by omega)) ?_;refine wO_val (a_load (by exact rfl) (by assumption) (by assumption)) ?_;refine yM ?_;refine y3 ?_;refine wE_seq ?_;refine y4 ?_
     refine yM ?_;refine wO_val (a_num (by exact rfl) (by exact rfl) (by with_reducible assumption)) ?_;refine yM ?_;refine yO ?_;refine yM ?_;refine yO ?_;refine wO_val (a_sliceSS (by exact rfl) (by exact rfl) (by exact rfl) (by omega) (by(simp;done))) ?_
     refine yO ?_
     refine yC ?_
     refine FW.pu C1 ?_
     clear C1
     refine yO ?_;refine yA ?_;refine yU ?_;refine yM ?_;refine yO ?_;refine yM ?_;refine yO ?_;refine yD ?_;refine yO ?_
     refine yf ?_;refine yU ?_;refine y3 ?_;refine yX ?_;refine wE_skip ?_;refine kS_n ?_;refine y4 ?_
     refine yM ?_;refine wO_val (a_sliceSS (by exact rfl) (by exact rfl) (by exact rfl) (by omega) (by(simp;done))) ?_
     refine yC ?_
     refine FW.pu C2 ?_
     clear C2
     refine wO_val (a_conv (by exact rfl) (by assumption)) ?_;refine wO_val (a_build (by exact rfl)) ?_;refine wO_val (a_new) ?_
     refine yS ?_;refine y3 ?_;refine y4 ?_;refine yM ?_;refine wO_val (a_sliceSS (by exact rfl) (by exact rfl) (by exact rfl) (by(simp;done)) (by omega)) ?_
     refine yC ?_
     refine FW.al C3 (fun v h' m q=>q) ?_
     rintro _ h2 hx2 ⟨er,rfl⟩
     rw[hdl]
     have k2:=hx2.next
     have k3:h'.next<h2.next:=k2
     have G:h2.get h'.next=some (.cells [.int .u8 ((lidx c).toNat:Nat), .int .i64 0] true 1):=by rw[hx2.old _ (by(simp only[z1,z2];omega))];(simp(disch:=first|omega|(simp only[z1,z2];omega))only[z3,z4,z5,z6,z7,z1,z2,g1];exact rfl)
     have hE2:Ext h' (h2.wr h.next h'.next (.cells [.int .u8 ((lidx c).toNat:Nat), .int .i64 (atoiV l)] true 1)):=(hE1.trans hx2).wr (Nat.le_refl _) (by omega)
     clear C3
     refine yM ?_;refine yE ?_;refine yE ?_;refine yF ?_;refine yS ?_;refine y3 ?_;refine wE_region ?_;refine yM ?_
     refine yN ?_;refine wO_val (a_bslice (by exact rfl) (by exact rfl)) ?_
     refine wO_app1 (lo:=hS.next) (c1:=[.int .u8 ((lidx c).toNat:Nat), .int .i64 (atoiV l)]) (own.ext (hE2.push _)) (by omega) (by omega) (by omega) (by show hS.next≤h2.next+1;omega) (by omega) (by exact rfl) (by exact rfl) (src_slice (cs:=[.int .u8 ((lidx c).toNat:Nat), .int .i64 (atoiV l)]) (by(simp(disch:=first|omega|(simp only[z1,z2];omega)|(simp only[z1,z2];done)|fail)only[z8,z4,z5,z9,z7,z1,z2,g1,G];exact rfl)) rfl rfl) rfl rfl ?_
     intro v' h3 own' hx3'
     have hx4:Ext hS h3:=((((hx'.trans hE2).push (.cells [.int .u8 ((lidx c).toNat:Nat), .int .i64 (atoiV l)] true 2)).lx (Nat.le_refl _)).trans hx3').ext
     refine yM ?_;refine wO_nil ?_;refine y1 ?_;refine kB_n ?_;refine kS_n ?_;refine wE_region ?_;refine yinc ?_;refine yM ?_;refine y3 ?_
     refine⟨(splitB t).length-(i+1),by omega,i+1,v',by omega,rfl,rfl,rfl,hx4,?_⟩
     rw[List.take_add_one,hwi,List.map_append]
     show Own hS.next h3 2 v' (i+1) (ncI (List.map nodeOf ((splitB t).take i)++[nodeOf (c::l)]))
     rw[ncI_snoc]
     exact own'
 ·obtain rfl:i=(splitB t).length:=by omega
  rw[List.take_length]at own
  have s2:SliceOf h' 2 v ((splitB t).map nodeOf).length (ncI ((splitB t).map nodeOf)):=by rw[List.length_map];exact own.slice (by omega)
  obtain⟨va,vc,rfl⟩:=s2.form
  have C:=write27 F.toFnsWt (h:={h' with log:=[]}) (.of (hxx.wf hr.wf)) ((Glob.ext hG hr.wf hxx).log []) (s2.log []) (by rw[List.length_map];omega) (nodes_Ni _)
  rw[read_ok h0]
  by_cases hw:writeE ((splitB t).map nodeOf)=(t,0)
  ·rw[if_pos hw]
   have e:writeR ((splitB t).map nodeOf)= .tuple #[.string (S t), .int .i64 0]:=by unfold writeR;rw[hw]
   rw[e]at C
   refine y4 ?_;refine yf ?_;refine y3 ?_;refine wE_seq ?_;refine yX ?_;refine wE_exit ?_;refine kS_e ?_;refine kS_e ?_;refine kB_e ?_;refine kS_n ?_
   refine wE_seq ?_;refine y4 ?_;refine yM ?_
   refine yC ?_
   refine FW.pu C ?_
   refine yM ?_;refine yE ?_;refine yE ?_;refine yM ?_;refine yM ?_;refine y3 ?_;refine y4 ?_;refine yM ?_;refine yf ?_;refine yM ?_;refine yO ?_;refine yM ?_;refine yO ?_;refine yM ?_;refine yO ?_
   refine wO_val (a_num (by exact rfl) (by exact rfl) (by exact m_neSF rfl)) ?_;refine yU ?_;refine y3 ?_;refine yX ?_;refine wE_skip ?_;refine kS_n ?_;refine y4 ?_
   refine yM ?_;refine yM ?_;refine yM ?_;refine y3 ?_;refine wE_ret ?_
   exact endA_ret (vs:=[_, .int .i64 0]) (hx'.log.trans hlS) rfl (NodesQ.ret s2)
  ·rw[if_neg hw]
   obtain⟨b,er,hbe⟩:∃b er,writeE ((splitB t).map nodeOf)=(b,er):=⟨_,_,rfl⟩
   have e:writeR ((splitB t).map nodeOf)= .tuple #[.string (S b), .int .i64 er]:=by unfold writeR;rw[hbe]
   rw[e]at C
   by_cases he:er=0
   ·subst he
    have hb:b≠t:=fun q=>hw (by rw[hbe,q])
    refine y4 ?_;refine yf ?_;refine y3 ?_;refine wE_seq ?_;refine yX ?_;refine wE_exit ?_;refine kS_e ?_;refine kS_e ?_;refine kB_e ?_;refine kS_n ?_
    refine wE_seq ?_;refine y4 ?_;refine yM ?_
    refine yC ?_
    refine FW.pu C ?_
    refine yM ?_;refine yE ?_;refine yE ?_;refine yM ?_;refine yM ?_;refine y3 ?_;refine y4 ?_;refine yM ?_;refine yf ?_;refine yM ?_;refine yO ?_;refine yM ?_;refine yO ?_;refine yM ?_;refine yO ?_
    refine wO_val (a_num (by exact rfl) (by exact rfl) (by exact m_neST (by assumption))) ?_;refine yU ?_;refine y3 ?_;refine yY ?_;refine y4 ?_;refine yM ?_
    refine yM ?_;refine y3 ?_;refine wE_ret ?_;refine kS_r ?_
    exact endA_ret (vs:=[.slice none 0 0, .int .i64 4]) (hx'.log.trans hlS) rfl ⟨none,0,rfl, .nil⟩
   ·refine y4 ?_;refine yf ?_;refine y3 ?_;refine wE_seq ?_;refine yX ?_;refine wE_exit ?_;refine kS_e ?_;refine kS_e ?_;refine kB_e ?_;refine kS_n ?_
    refine wE_seq ?_;refine y4 ?_;refine yM ?_
    refine yC ?_
    refine FW.pu C ?_
    refine yM ?_;refine yE ?_;refine yE ?_;refine yM ?_;refine yM ?_;refine y3 ?_;refine y4 ?_;refine yM ?_;refine yt ?_;refine yM ?_;refine yP ?_;refine yP ?_;refine yP ?_;refine yT ?_
    refine y3 ?_;refine yY ?_;refine y4 ?_;refine yM ?_;refine yM ?_;refine y3 ?_;refine wE_ret ?_;refine kS_r ?_
    exact endA_ret (vs:=[.slice none 0 0, .int .i64 4]) (hx'.log.trans hlS) rfl ⟨none,0,rfl, .nil⟩
end Go.A.Pk
end
section
set_option maxRecDepth 100000
namespace Go.A.Pk
variable {T:Nat→Option AFunc}
structure FnsRr (T:Nat→Option AFunc):Prop extends FnsNo T where
 f30:T 30=some f30
theorem splitB_apps:∀(a r:List UInt8),splitB (a++32::r)=splitB a++splitB r
 |[],r=>by
  show splitB (32::r)=[]::splitB r
  rw[splitB,if_pos rfl]
 |c::a,r=>by
  have ih:=splitB_apps a r
  rw[List.cons_append,splitB,splitB]
  split
  ·rw[ih];rfl
  ·rw[ih]
   cases hs:splitB a with
   |nil=>exact absurd hs (splitB_ne a)
   |cons w ws=>rfl
def hit(w:List UInt8)(k a:Nat):Bool:=match findN w with
 |some x=>decide (x.1<k∨x.1=k∧x.2<(a:Int))
 |none=>false
def outs(d:List (List UInt8))(w:List UInt8)(k a:Nat):List (List UInt8):=if hit w k a=true then d++[w]else d
theorem hit_zero(w:List UInt8):hit w 0 0=false:=by
 unfold hit
 cases h:findN w with
 |none=>rfl
 |some x=>
  obtain⟨h1,_⟩:=find_some h
  obtain⟨n,e,_⟩:=okW_S h1
  simp only[decide_eq_false_iff_not];omega
theorem hit_next(w:List UInt8)(k:Nat):hit w k 16=hit w (k+1) 0:=by
 unfold hit
 cases h:findN w with
 |none=>rfl
 |some x=>
  obtain⟨h1,_⟩:=find_some h
  obtain⟨n,e,_,h2,_⟩:=okW_S h1
  simp only[decide_eq_decide];omega
theorem hit_end(w:List UInt8):hit w 5 0=(findN w).isSome:=by
 unfold hit
 cases h:findN w with
 |none=>rfl
 |some x=>
  obtain⟨h1,_⟩:=find_some h
  obtain⟨n,e,h2,_⟩:=okW_S h1
  simp only[Option.isSome_some,decide_eq_true_eq];omega
theorem hit_yes{w:List UInt8}{k a:Nat}(h:okW (k,(a:Int))=true)(hw:wd (k,(a:Int))=w):findN w=some (k,(a:Int))∧hit w k a=false∧hit w k (a+1)=true:=by
 have hf:findN w=some (k,(a:Int)):=by rw[←hw];exact find_wd h
 refine⟨hf,?_,?_⟩<;>unfold hit<;>rw[hf]<;>simp<;>omega
theorem hit_no{w:List UInt8}{k a:Nat}(h:¬ (okW (k,(a:Int))=true∧wd (k,(a:Int))=w)):hit w k (a+1)=hit w k a:=by
 unfold hit
 cases hf:findN w with
 |none=>rfl
 |some x=>
  obtain⟨h1,h2⟩:=find_some hf
  simp only[decide_eq_decide]
  have:¬ (x.1=k∧x.2=(a:Int)):=fun⟨q1,q2⟩=>h (by
   obtain⟨x1,x2⟩:=x
   simp only at q1 q2
   subst q1 q2
   exact⟨h1,h2⟩)
  omega
theorem wE_cutE{base:Nat}{rnd:Option Nat}{Q:XQ}{e E:Env}{ds:Dfs}{h H:Heap}{a b:ACode}(H1:WE T base rnd a (fun x e' ds' h'=>x= .normal∧e'=E∧ds'=[]∧h'=H) e ds h)(H2:WE T base rnd b Q E [] H):WE T base rnd (.seq a b) Q e ds h:=by
 refine wE_seq (H1.mono ?_)
 rintro x e' ds' h' ⟨rfl,rfl,rfl,rfl⟩
 exact kS_n H2
set_option maxHeartbeats 16000000 in
theorem read30(F:FnsRr T){h:Heap}(hr:Rdy h){t:List UInt8}(ht:t.length<100000):Al T 30 [.string (S t)] h (NodesQ (readE t).1 (readE t).2):=by
 refine .of F.p F.f30 hr NodesQ.gc ?_
 by_cases h0:t=[]
 ·subst h0
  have n1:numOp .eql (.string (S [])) (.string ⟨#[]⟩)=some (.bool true):=m_eqST (b:=[]) rfl
  refine y4 ?_;refine yM ?_;refine yM ?_;refine y3 ?_;refine wE_seq ?_;refine y4 ?_;refine yM ?_
  refine wO_val (a_num (by exact rfl) (by exact rfl) (by with_reducible assumption)) ?_;refine y3 ?_;refine yY ?_;refine y4 ?_;refine yM ?_;refine yM ?_;refine y3 ?_;refine wE_ret ?_;refine kS_r ?_
  exact endA_ret (vs:=[.slice none 0 0, .int .i64 0]) hr.log rfl ⟨none,0,rfl, .nil⟩
 have n1:numOp .eql (.string (S t)) (.string ⟨#[]⟩)=some (.bool false):=m_eqSF (b:=[]) h0
 refine y4 ?_;refine yM ?_;refine yM ?_;refine y3 ?_;refine wE_seq ?_;refine y4 ?_;refine yM ?_
 refine wO_val (a_num (by exact rfl) (by exact rfl) (by with_reducible assumption)) ?_;refine y3 ?_;refine yX ?_;refine wE_skip ?_;refine kS_n ?_;refine y4 ?_;refine yM ?_;refine y3 ?_;refine y4 ?_;refine yM ?_;refine y3 ?_;refine wE_seq ?_;refine y4 ?_
 refine yM ?_;refine y3 ?_;refine wE_block ?_
 clear n1
 refine wE_loop (fun m e ds h'=>∃(i fr:Nat) (v:Value) (d:List (List UInt8)),i≤t.length+1∧m=t.length+1-i∧e=[(0, .string (S t)),(4,v),(5, .int .i64 fr),(6, .int .i64 i)]∧ds=[]∧Ext h h'∧Own h.next h' 2 v d.length (ncI (d.map nodeOf))∧(∀w∈d,(findN w).isSome=true)∧d.length≤600∧fr≤i∧(i≤t.length→splitB (t.take i)=d++[(t.take i).drop fr])∧(i=t.length+1→splitB t=d))
  ⟨0,0,_,[],Nat.zero_le _,rfl,rfl,rfl, .refl _, .nil,(fun _ h=>by cases h),Nat.zero_le _,Nat.le_refl _,(fun _=>rfl),(fun h=>by omega)⟩ ?_
 rintro m e ds h' ⟨i,fr,v,d,hi,rfl,rfl,rfl,hx',own,hfd,hd6,hfr,hs1,hs2⟩
 obtain⟨va,vc,rfl⟩:=(own.slice (by omega)).form
 by_cases hle:i≤t.length
 ·have hsp:=hs1 hle
  by_cases hsk:i<t.length∧t[i]? ≠some 32
  ·obtain⟨c,hc⟩:∃c,t[i]? =some c:=⟨t[i],List.getElem?_eq_getElem hsk.1⟩
   have hc32:c.toNat≠32:=fun q=>hsk.2 (by rw[hc];congr 1;exact UInt8.toNat_inj.1 q)
   have hlt:=hsk.1
   refine wE_seq ?_;refine y4 ?_;refine yM ?_;refine yM ?_;refine wO_val (a_len0S (by exact rfl)) ?_;refine yt ?_;refine y3 ?_
   refine yY ?_;refine wE_skip ?_;refine kS_n ?_;refine wE_seq ?_;refine wE_block ?_;refine wE_seq ?_;refine y4 ?_;refine yM ?_;refine yM ?_;refine wO_val (a_len0S (by exact rfl)) ?_;refine yt ?_
   refine yM ?_;refine yO ?_;refine yM ?_;refine yO ?_;refine yM ?_;refine yO ?_;refine wO_val (a_idxSS (by exact rfl) (by exact rfl) (by assumption)) ?_;refine yO ?_
   refine yt ?_;refine yT ?_;refine y3 ?_;refine yY ?_;refine wE_exit ?_;refine kS_e ?_;refine kB_e ?_;refine kS_n ?_;refine wE_region ?_
   refine yM ?_;refine yinc ?_;refine yM ?_;refine y3 ?_
   refine⟨t.length+1-(i+1),by omega,i+1,fr,_,d,by omega,rfl,rfl,rfl,hx',own,hfd,hd6,by omega,fun _=> ?_,fun q=>by omega⟩
   have hti:t.take (i+1)=t.take i++[c]:=by rw[List.take_add_one,hc];rfl
   rw[hti,splitB_snoc _ c hsp,if_neg (fun q=>hc32 (by rw[q];rfl)),List.drop_append_of_le_length (by rw[List.length_take];omega)]
  ·obtain⟨w,hwd⟩:∃w,w=(t.take i).drop fr:=⟨_,rfl⟩
   rw[←hwd]at hsp
   have hpre:∃r,splitB t=d++w::r:=by
    by_cases hlt:i<t.length
    ·have hc:t[i]? =some 32:=Decidable.byContradiction fun q=>hsk ⟨hlt,q⟩
     have e:t=t.take i++32::t.drop (i+1):=by
      conv=>lhs;rw[←List.take_append_drop i t]
      congr 1
      rw[List.drop_eq_getElem_cons hlt]
      congr 1
      rw[List.getElem?_eq_getElem hlt]at hc
      injection hc
     refine⟨splitB (t.drop (i+1)),?_⟩
     conv=>lhs;rw[e]
     rw[splitB_apps,hsp];simp
    ·rw[List.take_of_length_le (by omega)]at hsp
     exact⟨[],hsp⟩
   refine wE_seq ?_;refine y4 ?_;refine yM ?_;refine yM ?_;refine wO_val (a_len0S (by exact rfl)) ?_;refine yt ?_;refine y3 ?_
   refine yY ?_;refine wE_skip ?_;refine kS_n ?_;refine wE_seq ?_
   refine wE_block ?_
   refine wE_cutE (E:=[(0, .string (S t)),(4, .slice va d.length vc),(5, .int .i64 fr),(6, .int .i64 i),(29, .bool false)]) (H:=h') ?_ ?_
   ·by_cases hlt:i<t.length
    ·have hc:t[i]? =some 32:=Decidable.byContradiction fun q=>hsk ⟨hlt,q⟩
     refine y4 ?_;refine yM ?_;refine yM ?_;refine wO_val (a_len0S (by exact rfl)) ?_;refine yt ?_;refine yM ?_;refine yO ?_;refine yM ?_;refine yO ?_
     refine yM ?_;refine yO ?_;refine wO_val (a_idxSS (by exact rfl) (by exact rfl) (by assumption)) ?_;refine yO ?_;refine wO_val (a_num (by exact rfl) (by exact rfl) (by exact m_neq)) ?_;refine yT ?_;refine y3 ?_;refine yX ?_;refine wE_skip ?_
     exact⟨rfl,rfl,rfl,rfl⟩
    ·refine y4 ?_;refine yM ?_;refine yM ?_;refine wO_val (a_len0S (by exact rfl)) ?_;refine yf ?_;refine yM ?_;refine yP ?_;refine yP ?_
     refine yP ?_;refine yP ?_;refine yU ?_;refine y3 ?_;refine yX ?_;refine wE_skip ?_
     exact⟨rfl,rfl,rfl,rfl⟩
   refine y4 ?_;refine yM ?_;refine y3 ?_;refine wE_seq ?_;refine y4 ?_;refine yM ?_;refine y3 ?_;refine wE_block ?_
   refine wE_loop (fun m e ds hh=>∃(k:Nat) (u:Value),k≤5∧m=5-k∧e=[(0, .string (S t)),(4,u),(5, .int .i64 fr),(6, .int .i64 i),(7, .bool (hit w k 0)),(8, .int .i64 k)]∧ds=[]∧Ext h hh∧Own h.next hh 2 u (outs d w k 0).length (ncI ((outs d w k 0).map nodeOf)))
    ⟨0,_,by omega,rfl,by rw[hit_zero];rfl,rfl,hx',by unfold outs;rw[hit_zero];exact own⟩ ?_
   clear own hx' h'
   rintro m e ds hh ⟨k,u,hk,rfl,rfl,rfl,hx',own⟩
   by_cases hk5:k<5
   ·refine wE_seq ?_;refine y4 ?_;refine yM ?_;refine yt ?_;refine y3 ?_;refine yY ?_;refine wE_skip ?_;refine kS_n ?_
    refine wE_seq ?_;refine wE_block ?_;refine y4 ?_;refine yM ?_;refine y3 ?_;refine wE_block ?_
    refine wE_loop (fun m e ds hh=>∃(a:Nat) (u:Value),a≤16∧m=16-a∧e=[(0, .string (S t)),(4,u),(5, .int .i64 fr),(6, .int .i64 i),(7, .bool (hit w k a)),(8, .int .i64 k),(9, .int .i64 a)]∧ds=[]∧Ext h hh∧Own h.next hh 2 u (outs d w k a).length (ncI ((outs d w k a).map nodeOf)))
     ⟨0,_,by omega,rfl,rfl,rfl,hx',own⟩ ?_
    clear own hx'
    rintro m e ds hh ⟨a,u,ha,rfl,rfl,rfl,hx',own⟩
    by_cases ha16:a<16
    ·have hcv:wrapA .u8 ((k:Nat):Int)=((k:Nat):Int):=by rw[wrapA_eq,IntKind.wrap_u8];omega
     have hnx:=hx'.next
     have hE1:Ext hh ((hh.push (.cells [.int .u8 0, .int .i64 0] true 1)).wr h.next hh.next (.cells [.int .u8 k, .int .i64 a] true 1)):=((Ext.refl hh).push _).wr (Nat.le_refl _) (by omega)
     have C1:=node88 F.toFnsNo (h:={(hh.push (.cells [.int .u8 0, .int .i64 0] true 1)).wr h.next hh.next (.cells [.int .u8 k, .int .i64 a] true 1)with log:=[]}) (.of ((hx'.trans hE1).wf hr.wf)) (k:=k) (z:=a) (by omega) (by omega)
     have hol:(outs d w k a).length≤601:=by
      unfold outs
      split
      ·rw[List.length_append];show _+1≤_;omega
      ·omega
     cases hok:okW (k,(a:Int))with
     |true=>
      obtain⟨e1,e2⟩:=ok_ne hok
      rw[e1]at C1
      have n1:numOp .neq (.string (S (wd (k,(a:Int))))) (.string ⟨#[]⟩)=some (.bool true):=m_neST (b:=[]) e2
      by_cases hw:wd (k,(a:Int))=w
      ·obtain⟨hy1,hy2,hy3⟩:=hit_yes hok hw
       have n2:numOp .eql (.string (S (wd (k,(a:Int))))) (.string (S ((t.take i).drop fr)))=some (.bool true):=m_eqST (by rw[←hwd];exact hw)
       have o1:outs d w k a=d:=by unfold outs;rw[hy2];rfl
       have o2:outs d w k (a+1)=d++[w]:=by unfold outs;rw[hy3];rfl
       rw[o1]at own
       refine wE_seq ?_;refine y4 ?_;refine yM ?_;refine yt ?_;refine y3 ?_;refine yY ?_;refine wE_skip ?_;refine kS_n ?_
       refine wE_seq ?_;refine wE_block ?_;refine y4 ?_;refine yM ?_;refine wO_val (a_conv (by exact rfl) (by assumption)) ?_;refine yM ?_;refine wO_val (a_build (by exact rfl)) ?_;refine wO_val (a_new) ?_
       refine yS ?_;refine y3 ?_;refine y4 ?_
       refine yN ?_
       refine yC ?_
       refine FW.pu C1 ?_
       clear C1
       refine yM ?_;refine y3 ?_;refine y4 ?_;refine yM ?_;refine wO_val (a_num (by exact rfl) (by exact rfl) (by with_reducible assumption)) ?_;refine yM ?_
       refine yO ?_;refine yM ?_;refine yO ?_;refine yM ?_;refine yO ?_;refine yM ?_;refine yO ?_;refine yM ?_;refine yO ?_
       refine wO_val (a_sliceSS (by exact rfl) (by exact rfl) (by exact rfl) (by omega) (by omega)) ?_;refine yO ?_;refine wO_val (a_num (by exact rfl) (by exact rfl) (by with_reducible assumption)) ?_;refine yT ?_;refine y3 ?_;refine yY ?_;refine y4 ?_;refine yM ?_
       refine yN ?_;refine wO_val (a_bslice (by exact rfl) (by exact rfl)) ?_
       refine wO_app1 (lo:=h.next) (c1:=[.int .u8 k, .int .i64 a]) (own.ext (hE1.push _)) (by omega) (by omega) (by omega) (by show h.next≤hh.next+1+1;omega) (Nat.le_refl _) (by exact rfl) (by exact rfl) (src_slice (cs:=[.int .u8 k, .int .i64 a]) (by(simp(disch:=first|omega|(simp only[z1,z2];omega)|(simp only[z1,z2];done)|fail)only[z8,z4,z5,z9,z7,z1,z2];exact rfl)) rfl rfl) rfl rfl ?_
       intro u' h3 own' hx3'
       have hx4:Ext h h3:=((((hx'.trans hE1).push (.cells [.int .u8 k, .int .i64 a] true 2)).lx (Nat.le_refl _)).trans hx3').ext
       refine yM ?_;refine y3 ?_;refine wE_region ?_;refine yM ?_;refine wO_nil ?_;refine y1 ?_;refine kB_n ?_;refine kS_n ?_
       refine wE_region ?_;refine yM ?_;refine yinc ?_;refine yM ?_;refine y3 ?_
       refine⟨16-(a+1),by omega,a+1,u',by omega,rfl,by rw[hy3],rfl,hx4,?_⟩
       rw[o2,List.length_append,List.map_append]
       show Own h.next h3 2 u' (d.length+1) (ncI (List.map nodeOf d++[nodeOf w]))
       rw[ncI_snoc,(find_fine hy1).2]
       exact own'
      ·have n2:numOp .eql (.string (S (wd (k,(a:Int))))) (.string (S ((t.take i).drop fr)))=some (.bool false):=m_eqSF (by rw[←hwd];exact hw)
       have o1:=hit_no (w:=w) (k:=k) (a:=a) fun q=>hw q.2
       refine wE_seq ?_;refine y4 ?_;refine yM ?_;refine yt ?_;refine y3 ?_;refine yY ?_;refine wE_skip ?_;refine kS_n ?_
       refine wE_seq ?_;refine wE_block ?_;refine y4 ?_;refine yM ?_;refine wO_val (a_conv (by exact rfl) (by assumption)) ?_;refine yM ?_;refine wO_val (a_build (by exact rfl)) ?_;refine wO_val (a_new) ?_
       refine yS ?_;refine y3 ?_;refine y4 ?_
       refine yN ?_
       refine yC ?_
       refine FW.pu C1 ?_
       clear C1
       refine yM ?_;refine y3 ?_;refine y4 ?_;refine yM ?_;refine wO_val (a_num (by exact rfl) (by exact rfl) (by with_reducible assumption)) ?_;refine yM ?_
       refine yO ?_;refine yM ?_;refine yO ?_;refine yM ?_;refine yO ?_;refine yM ?_;refine yO ?_;refine yM ?_;refine yO ?_
       refine wO_val (a_sliceSS (by exact rfl) (by exact rfl) (by exact rfl) (by omega) (by omega)) ?_;refine yO ?_;refine wO_val (a_num (by exact rfl) (by exact rfl) (by with_reducible assumption)) ?_;refine yT ?_;refine y3 ?_;refine yX ?_;refine wE_skip ?_;refine kB_n ?_;refine kS_n ?_;refine wE_region ?_;refine yM ?_;refine yinc ?_;refine yM ?_;refine y3 ?_
       refine⟨16-(a+1),by omega,a+1,u,by omega,rfl,by rw[o1],rfl,hx'.trans hE1,?_⟩
       unfold outs
       rw[o1]
       exact own.ext hE1
     |false=>
      rw[no_ne hok]at C1
      have n1:numOp .neq (.string (S [])) (.string ⟨#[]⟩)=some (.bool false):=m_neSF (b:=[]) rfl
      have o1:=hit_no (w:=w) (k:=k) (a:=a) fun q=>by rw[hok]at q;cases q.1
      refine wE_seq ?_;refine y4 ?_;refine yM ?_;refine yt ?_;refine y3 ?_;refine yY ?_;refine wE_skip ?_;refine kS_n ?_
      refine wE_seq ?_;refine wE_block ?_;refine y4 ?_;refine yM ?_;refine wO_val (a_conv (by exact rfl) (by assumption)) ?_;refine yM ?_;refine wO_val (a_build (by exact rfl)) ?_;refine wO_val (a_new) ?_
      refine yS ?_;refine y3 ?_;refine y4 ?_
      refine yN ?_
      refine yC ?_
      refine FW.pu C1 ?_
      clear C1
      refine yM ?_;refine y3 ?_;refine y4 ?_;refine yM ?_;refine wO_val (a_num (by exact rfl) (by exact rfl) (by with_reducible assumption)) ?_;refine yM ?_
      refine yP ?_;refine yP ?_;refine yP ?_;refine yP ?_;refine yP ?_;refine yP ?_;refine yU ?_;refine y3 ?_;refine yX ?_;refine wE_skip ?_;refine kB_n ?_;refine kS_n ?_;refine wE_region ?_;refine yM ?_;refine yinc ?_;refine yM ?_
      refine y3 ?_
      refine⟨16-(a+1),by omega,a+1,u,by omega,rfl,by rw[o1],rfl,hx'.trans hE1,?_⟩
      unfold outs
      rw[o1]
      exact own.ext hE1
    ·obtain rfl:a=16:=by omega
     refine wE_seq ?_;refine y4 ?_;refine yM ?_;refine yf ?_;refine y3 ?_;refine yX ?_;refine wE_exit ?_;refine kS_e ?_
     refine kS_e ?_;refine kB_e ?_;refine kB_n ?_;refine kS_n ?_;refine wE_region ?_;refine yM ?_;refine yinc ?_;refine yM ?_;refine y3 ?_
     refine⟨5-(k+1),by omega,k+1,u,by omega,rfl,by rw[hit_next],rfl,hx',?_⟩
     unfold outs at own⊢
     rw[hit_next]at own
     exact own
   ·obtain rfl:k=5:=by omega
    obtain⟨r,hpr⟩:=hpre
    rw[hit_end]
    cases hf:findN w with
    |none=>
     have e:readE t=([],4):=by
      unfold readE
      rw[if_neg h0,if_neg]
      rintro⟨q,_⟩
      have:=List.all_eq_true.1 q w (by rw[hpr];simp)
      rw[hf]at this;cases this
     rw[e]
     refine wE_seq ?_;refine y4 ?_;refine yM ?_;refine yf ?_;refine y3 ?_;refine yX ?_;refine wE_exit ?_;refine kS_e ?_
     refine kS_e ?_;refine kB_e ?_;refine kS_n ?_;refine wE_seq ?_;refine y4 ?_;refine yM ?_;refine yA ?_;refine yM ?_;refine yP ?_;refine yP ?_;refine yP ?_
     refine yT ?_;refine y3 ?_;refine yY ?_;refine y4 ?_;refine yM ?_;refine yM ?_;refine y3 ?_;refine wE_ret ?_;refine kS_r ?_;refine kB_r ?_;refine kS_r ?_;refine kS_r ?_;refine kB_r ?_;refine kS_r ?_
     exact endA_ret (vs:=[.slice none 0 0, .int .i64 4]) (hx'.log.trans hr.log) rfl ⟨none,0,rfl, .nil⟩
    |some x=>
     have o1:outs d w 5 0=d++[w]:=by unfold outs;rw[hit_end,hf];rfl
     rw[o1]at own
     have hdl:(d++[w]).length=d.length+1:=by simp
     obtain⟨ua,uc,rfl⟩:=(own.slice (by omega)).form
     by_cases h6:600<(d++[w]).length
     ·have e:readE t=([],4):=by
       unfold readE
       rw[if_neg h0,if_neg]
       rintro⟨_,q⟩
       rw[hpr]at q
       simp at q h6;omega
      rw[e]
      refine wE_seq ?_;refine y4 ?_;refine yM ?_;refine yf ?_;refine y3 ?_;refine yX ?_;refine wE_exit ?_;refine kS_e ?_
      refine kS_e ?_;refine kB_e ?_;refine kS_n ?_;refine wE_seq ?_;refine y4 ?_;refine yM ?_;refine yA ?_;refine yM ?_;refine yO ?_;refine yM ?_;refine yO ?_;refine yD ?_
      refine yO ?_;refine yt ?_;refine yU ?_;refine y3 ?_;refine yY ?_;refine y4 ?_
      refine yM ?_;refine yM ?_;refine y3 ?_;refine wE_ret ?_;refine kS_r ?_;refine kB_r ?_;refine kS_r ?_;refine kS_r ?_;refine kB_r ?_;refine kS_r ?_
      exact endA_ret (vs:=[.slice none 0 0, .int .i64 4]) (hx'.log.trans hr.log) rfl ⟨none,0,rfl, .nil⟩
     ·refine wE_seq ?_;refine y4 ?_;refine yM ?_;refine yf ?_;refine y3 ?_;refine yX ?_;refine wE_exit ?_;refine kS_e ?_
      refine kS_e ?_;refine kB_e ?_;refine kS_n ?_;refine wE_seq ?_;refine y4 ?_;refine yM ?_;refine yA ?_;refine yM ?_;refine yO ?_;refine yM ?_;refine yO ?_;refine yD ?_
      refine yO ?_;refine yf ?_;refine yU ?_;refine y3 ?_;refine yX ?_;refine wE_skip ?_;refine kS_n ?_;refine wE_region ?_
      refine yM ?_;refine yinc ?_;refine yM ?_;refine wO_nil ?_;refine y1 ?_;refine kB_n ?_;refine kS_n ?_;refine wE_region ?_;refine yM ?_
      refine yinc ?_;refine yM ?_;refine y3 ?_
      refine⟨t.length+1-(i+1),by omega,i+1,i+1,_,d++[w],by omega,rfl,rfl,rfl,hx',own,?_,by omega,Nat.le_refl _,?_,?_⟩
      ·intro y hy
       rcases List.mem_append.1 hy with q|q
       ·exact hfd y q
       ·rw[List.mem_singleton.1 q,hf];rfl
      ·intro hil
       have hlt:i<t.length:=by omega
       have hc:t[i]? =some 32:=Decidable.byContradiction fun q=>hsk ⟨hlt,q⟩
       have hti:t.take (i+1)=t.take i++[32]:=by rw[List.take_add_one,hc];rfl
       rw[hti,splitB_snoc _ 32 hsp,if_pos rfl,List.drop_of_length_le (by simp;omega)]
       simp
      ·intro q
       rw[List.take_of_length_le (by omega)]at hsp
       exact hsp
 ·obtain rfl:i=t.length+1:=by omega
  have e:readE t=(d.map nodeOf,0):=by
   unfold readE
   rw[if_neg h0,hs2 rfl,if_pos ⟨List.all_eq_true.2 hfd,hd6⟩]
  rw[e]
  refine wE_seq ?_;refine y4 ?_;refine yM ?_;refine yM ?_;refine wO_val (a_len0S (by exact rfl)) ?_;refine yf ?_;refine y3 ?_
  refine yX ?_;refine wE_exit ?_;refine kS_e ?_;refine kS_e ?_;refine kB_e ?_;refine kS_n ?_;refine y4 ?_;refine yM ?_;refine yM ?_;refine yM ?_;refine y3 ?_;refine wE_ret ?_
  exact endA_ret (vs:=[_, .int .i64 0]) (hx'.log.trans hr.log) rfl (NodesQ.ret (by rw[List.length_map];exact own.slice (by omega)))
end Go.A.Pk
end
section
set_option maxRecDepth 100000
namespace Go.A.Pk
variable {T:Nat→Option AFunc}
structure FnsTe (T:Nat→Option AFunc):Prop extends FnsRd T,FnsRwt T,FnsRr T where
 f4:T 4=some f4
 f31:T 31=some f31
 c19:∀{h:Heap},Rdy h→Pu T 19 [] h (.bool true)
theorem read_write{ns:List (Nat×Int)}{A:List UInt8}(h:writeE ns=(A,0)):readE A=(ns,0):=by
 unfold writeE at h
 split at h
 ·rename_i hall
  split at h
  ·rename_i hl
   have hA:joinW (ns.map wd)=A:=congrArg Prod.fst h
   have hok:∀x∈ns,okW x=true:=fun x hx=>List.all_eq_true.1 hall x hx
   cases ns with
   |nil=>subst hA;rfl
   |cons x r=>
    have hs:=split_join (ws:=(x::r).map wd) (by simp) (fun w hw=>by
     obtain⟨y,hy,rfl⟩:=List.mem_map.1 hw
     exact wd_no32 (hok y hy))
    rw[hA]at hs
    have hne:A≠[]:=fun q=>by
     rw[q]at hs
     have h1:wd x=[]:=by
      have:=congrArg (fun l=>l[0]?) hs
      simp[splitB]at this
      exact this
     exact(ok_ne (hok x (by simp))).2 h1
    unfold readE
    rw[if_neg hne,hs,if_pos]
    ·congr 1
     rw[List.map_map]
     conv=>rhs;rw[←List.map_id (x::r)]
     exact List.map_congr_left fun y hy=>(find_fine (find_wd (hok y hy))).2
    ·refine⟨?_,by rw[List.length_map];exact hl⟩
     rw[List.all_eq_true]
     intro w hw
     obtain⟨y,hy,rfl⟩:=List.mem_map.1 hw
     rw[find_wd (hok y hy)];rfl
  ·cases h
 ·cases h
theorem write_read{t:List UInt8}{X:List (Nat×Int)}(h:readE t=(X,0)):writeE X=(t,0)∧Ni X∧X.length≤1000+t.length:=by
 by_cases h0:t=[]
 ·subst h0
  have:X=[]:=(congrArg Prod.fst h).symm
  subst this
  exact⟨rfl,(fun x hx=>by cases hx),Nat.zero_le _⟩
 ·rw[read_ok h0]at h
  split at h
  ·rename_i hw
   have:X=(splitB t).map nodeOf:=(congrArg Prod.fst h).symm
   subst this
   refine⟨hw,nodes_Ni _,?_⟩
   rw[List.length_map,split_len]
   have:=List.count_le_length (a:=(32:UInt8)) (l:=t);omega
  ·cases h
theorem readE_len(t:List UInt8):(readE t).1.length≤1000+t.length:=by
 unfold readE
 split
 ·exact Nat.zero_le _
 ·split
  ·rw[List.length_map,split_len]
   have:=List.count_le_length (a:=(32:UInt8)) (l:=t);omega
  ·exact Nat.zero_le _
theorem writeE_len{ns:List (Nat×Int)}(hi:Ni ns):(writeE ns).1.length≤ns.length*102:=by
 unfold writeE
 repeat' split
 ·exact joinW_le hi
 ·exact Nat.zero_le _
 ·exact Nat.zero_le _
set_option maxHeartbeats 16000000 in
theorem law4(F:FnsTe T){h:Heap}(hr:Rdy h)(hG:Glob h){ns:List (Nat×Int)}{qa:Option Addr}{qc:Nat}(hns:SliceOf h 2 (.slice qa ns.length qc) ns.length (ncI ns))(hi:Ni ns)(t:List UInt8):
 Pu T 4 [.slice qa ns.length qc, .string (S t)] h (.bool true):=by
 have hp:=F.toFnsRd.toFnsSp.p
 refine .of hp F.f4 hr rfl ?_
 have C19:=F.c19 (h:={h with log:=[]}) (.of hr.wf)
 by_cases hn:ns.length≤700
 ·by_cases ht:t.length≤400
  ·have C1:=write27 F.toFnsRd.toFnsWt (h:={h with log:=[]}) (.of hr.wf) (hG.log []) (hns.log []) (by omega) hi
   have C2:=write28 F.toFnsRwt (h:={h with log:=[]}) (.of hr.wf) (hns.log []) (by omega) hi
   have hAl:=writeE_len hi
   have hmul:ns.length*102≤700*102:=Nat.mul_le_mul_right _ hn
   unfold writeR at C1 C2
   obtain⟨A,ea,hA⟩:∃A ea,writeE ns=(A,ea):=⟨_,_,rfl⟩
   rw[hA]at C1 C2 hAl
   simp only at C1 C2 hAl
   have hXl:=readE_len t
   obtain⟨X,ex,hX⟩:∃X ex,readE t=(X,ex):=⟨_,_,rfl⟩
   have R1:=read29 F.toFnsRd (h:={h with log:=[]}) (.of hr.wf) (hG.log []) (t:=t) (by omega)
   rw[hX]at R1 hXl
   simp only at R1 hXl
   refine y4 ?_;refine yM ?_;refine y3 ?_;refine wE_seq ?_;refine y4 ?_;refine yM ?_;refine yD ?_
   refine yf ?_;refine yM ?_;refine yO ?_;refine yM ?_;refine yO ?_;refine wO_val (a_len0S (by exact rfl)) ?_;refine yO ?_;refine yf ?_
   refine yU ?_;refine y3 ?_;refine yX ?_;refine wE_skip ?_;refine kS_n ?_;refine y4 ?_;refine yM ?_
   refine yC ?_
   refine FW.pu C1 ?_
   clear C1
   refine yM ?_;refine yE ?_;refine yE ?_;refine yM ?_;refine yM ?_;refine y3 ?_;refine y4 ?_;refine yM ?_
   refine yC ?_
   refine FW.pu C2 ?_
   clear C2
   refine yM ?_;refine yE ?_;refine yE ?_;refine yM ?_;refine yM ?_;refine y3 ?_;refine y4 ?_;refine yM ?_
   refine yC ?_
   refine FW.al R1 (fun v h' m q=>NodesQ.log v h' m q) ?_
   rintro _ h2 hx2 ⟨xa,xc,rfl,sx⟩
   clear R1
   have w2:=hx2.wf hr.wf
   have R2:=read30 F.toFnsRr (h:={h2 with log:=[]}) (.of w2) (t:=t) (by omega)
   rw[hX]at R2
   simp only at R2
   refine yM ?_;refine yE ?_;refine yE ?_;refine yM ?_;refine yM ?_;refine y3 ?_;refine y4 ?_;refine yM ?_
   refine yC ?_
   refine FW.al R2 (fun v h' m q=>NodesQ.log v h' m q) ?_
   rintro _ h3 hx3 ⟨ya,yc,rfl,sy⟩
   clear R2
   have w3:=hx3.wf w2
   have hx13:=hx2.trans hx3
   have hl3:=hx13.log.trans hr.log
   have S1:=sameNodes31 hp F.f31 (h:={h3 with log:=[]}) (.of w3) ((sx.ext hx3).log []) (sy.log []) (by omega)
   have C19':=F.c19 (h:={h3 with log:=[]}) (.of w3)
   have G3:=(Glob.ext hG hr.wf hx13).log []
   by_cases he:ea=0
   ·subst he
    by_cases hx0:ex=0
    ·subst hx0
     have R3:=read29 F.toFnsRd (h:={h3 with log:=[]}) (.of w3) G3 (t:=A) (by omega)
     rw[read_write hA]at R3
     simp only at R3
     refine yM ?_;refine yE ?_;refine yE ?_;refine yM ?_;refine yM ?_;refine y3 ?_;refine wE_seq ?_
     refine y4 ?_;refine yM ?_;refine yM ?_;refine wO_val (a_num (by exact rfl) (by exact rfl) (by exact m_neSF rfl)) ?_;refine yM ?_;refine yO ?_;refine yM ?_;refine yO ?_;refine yM ?_
     refine yO ?_;refine yf ?_;refine yU ?_;refine yM ?_;refine yO ?_;refine yM ?_;refine yO ?_;refine yM ?_;refine yO ?_
     refine yC ?_
     refine FW.pu S1 ?_
     clear S1
     refine yO ?_;refine yA ?_;refine yU ?_;refine yM ?_;refine yO ?_;refine yM ?_;refine yO ?_;refine yM ?_;refine yO ?_
     refine yf ?_;refine yU ?_;refine y3 ?_;refine yX ?_;refine wE_skip ?_;refine kS_n ?_;refine wE_seq ?_;refine y4 ?_;refine yM ?_;refine yt ?_;refine y3 ?_;refine yY ?_;refine y4 ?_;refine yM ?_
     refine yC ?_
     refine FW.al R3 (fun v h' m q=>NodesQ.log v h' m q) ?_
     rintro _ h4 hx4 ⟨za,zc,rfl,sz⟩
     clear R3
     have w4:=hx4.wf w3
     have hl4:=hx4.log.trans hl3
     have C19'':=F.c19 (h:={h4 with log:=[]}) (.of w4)
     have S2:=sameNodes31 hp F.f31 (h:={h4 with log:=[]}) (.of w4) (sz.log []) ((hns.ext (hx13.trans hx4)).log []) (by omega)
     have C3:=write27 F.toFnsRd.toFnsWt (h:={h4 with log:=[]}) (.of w4) ((Glob.ext hG hr.wf (hx13.trans hx4)).log []) ((sx.ext (hx3.trans hx4)).log []) (by omega) (write_read hX).2.1
     unfold writeR at C3
     rw[(write_read hX).1]at C3
     refine yM ?_;refine yE ?_;refine yE ?_;refine yM ?_;refine yM ?_;refine y3 ?_;refine y4 ?_;refine yM ?_;refine yf ?_;refine yM ?_;refine yO ?_;refine yM ?_;refine yO ?_;refine yM ?_;refine yO ?_
     refine yC ?_
     refine FW.pu S2 ?_
     clear S2
     refine yO ?_;refine yA ?_;refine yU ?_;refine y3 ?_;refine yX ?_;refine wE_skip ?_;refine kS_n ?_;refine wE_seq ?_;refine y4 ?_
     refine yM ?_;refine yt ?_;refine y3 ?_;refine yY ?_;refine y4 ?_;refine yM ?_
     refine yC ?_
     refine FW.pu C3 ?_
     clear C3
     refine yM ?_;refine yE ?_;refine yE ?_;refine yM ?_;refine yM ?_;refine y3 ?_;refine y4 ?_;refine yM ?_;refine yf ?_;refine yM ?_;refine yO ?_;refine yM ?_;refine yO ?_;refine yM ?_;refine yO ?_
     refine wO_val (a_num (by exact rfl) (by exact rfl) (by exact m_neSF rfl)) ?_;refine yU ?_;refine y3 ?_;refine yX ?_;refine wE_skip ?_;refine kS_n ?_;refine y4 ?_
     refine yC ?_
     refine FW.pu C19'' ?_
     refine yM ?_;refine y3 ?_;refine wE_ret ?_
     exact endP_ret hl4 rfl rfl
    ·skip
     have R3:=read29 F.toFnsRd (h:={h3 with log:=[]}) (.of w3) G3 (t:=A) (by omega)
     rw[read_write hA]at R3
     simp only at R3
     refine yM ?_;refine yE ?_;refine yE ?_;refine yM ?_;refine yM ?_;refine y3 ?_;refine wE_seq ?_
     refine y4 ?_;refine yM ?_;refine yM ?_;refine wO_val (a_num (by exact rfl) (by exact rfl) (by exact m_neSF rfl)) ?_;refine yM ?_;refine yO ?_;refine yM ?_;refine yO ?_;refine yM ?_
     refine yO ?_;refine yf ?_;refine yU ?_;refine yM ?_;refine yO ?_;refine yM ?_;refine yO ?_;refine yM ?_;refine yO ?_
     refine yC ?_
     refine FW.pu S1 ?_
     clear S1
     refine yO ?_;refine yA ?_;refine yU ?_;refine yM ?_;refine yO ?_;refine yM ?_;refine yO ?_;refine yM ?_;refine yO ?_
     refine yf ?_;refine yU ?_;refine y3 ?_;refine yX ?_;refine wE_skip ?_;refine kS_n ?_;refine wE_seq ?_;refine y4 ?_;refine yM ?_;refine yt ?_;refine y3 ?_;refine yY ?_;refine y4 ?_;refine yM ?_
     refine yC ?_
     refine FW.al R3 (fun v h' m q=>NodesQ.log v h' m q) ?_
     rintro _ h4 hx4 ⟨za,zc,rfl,sz⟩
     clear R3
     have w4:=hx4.wf w3
     have hl4:=hx4.log.trans hl3
     have C19'':=F.c19 (h:={h4 with log:=[]}) (.of w4)
     have S2:=sameNodes31 hp F.f31 (h:={h4 with log:=[]}) (.of w4) (sz.log []) ((hns.ext (hx13.trans hx4)).log []) (by omega)
     refine yM ?_;refine yE ?_;refine yE ?_;refine yM ?_;refine yM ?_;refine y3 ?_;refine y4 ?_;refine yM ?_;refine yf ?_;refine yM ?_;refine yO ?_;refine yM ?_;refine yO ?_;refine yM ?_;refine yO ?_
     refine yC ?_
     refine FW.pu S2 ?_
     clear S2
     refine yO ?_;refine yA ?_;refine yU ?_;refine y3 ?_;refine yX ?_;refine wE_skip ?_;refine kS_n ?_;refine wE_seq ?_;refine y4 ?_
     refine yM ?_;refine yf ?_;refine y3 ?_;refine yX ?_;refine wE_skip ?_;refine kS_n ?_;refine y4 ?_
     refine yC ?_
     refine FW.pu C19'' ?_
     refine yM ?_;refine y3 ?_;refine wE_ret ?_
     exact endP_ret hl4 rfl rfl
   ·by_cases hx0:ex=0
    ·subst hx0
     have C3:=write27 F.toFnsRd.toFnsWt (h:={h3 with log:=[]}) (.of w3) G3 ((sx.ext hx3).log []) (by omega) (write_read hX).2.1
     unfold writeR at C3
     rw[(write_read hX).1]at C3
     refine yM ?_;refine yE ?_;refine yE ?_;refine yM ?_;refine yM ?_;refine y3 ?_;refine wE_seq ?_
     refine y4 ?_;refine yM ?_;refine yM ?_;refine wO_val (a_num (by exact rfl) (by exact rfl) (by exact m_neSF rfl)) ?_;refine yM ?_;refine yO ?_;refine yM ?_;refine yO ?_;refine yM ?_
     refine yO ?_;refine yf ?_;refine yU ?_;refine yM ?_;refine yO ?_;refine yM ?_;refine yO ?_;refine yM ?_;refine yO ?_
     refine yC ?_
     refine FW.pu S1 ?_
     clear S1
     refine yO ?_;refine yA ?_;refine yU ?_;refine yM ?_;refine yO ?_;refine yM ?_;refine yO ?_;refine yM ?_;refine yO ?_
     refine yf ?_;refine yU ?_;refine y3 ?_;refine yX ?_;refine wE_skip ?_;refine kS_n ?_;refine wE_seq ?_;refine y4 ?_;refine yM ?_;refine yf ?_;refine y3 ?_;refine yX ?_;refine wE_skip ?_;refine kS_n ?_;refine wE_seq ?_;refine y4 ?_;refine yM ?_;refine yt ?_;refine y3 ?_;refine yY ?_;refine y4 ?_;refine yM ?_
     refine yC ?_
     refine FW.pu C3 ?_
     clear C3
     refine yM ?_;refine yE ?_;refine yE ?_;refine yM ?_;refine yM ?_;refine y3 ?_;refine y4 ?_;refine yM ?_;refine yf ?_;refine yM ?_;refine yO ?_;refine yM ?_;refine yO ?_;refine yM ?_;refine yO ?_
     refine wO_val (a_num (by exact rfl) (by exact rfl) (by exact m_neSF rfl)) ?_;refine yU ?_;refine y3 ?_;refine yX ?_;refine wE_skip ?_;refine kS_n ?_;refine y4 ?_
     refine yC ?_
     refine FW.pu C19' ?_
     refine yM ?_;refine y3 ?_;refine wE_ret ?_
     exact endP_ret hl3 rfl rfl
    ·skip
     refine yM ?_;refine yE ?_;refine yE ?_;refine yM ?_;refine yM ?_;refine y3 ?_;refine wE_seq ?_
     refine y4 ?_;refine yM ?_;refine yM ?_;refine wO_val (a_num (by exact rfl) (by exact rfl) (by exact m_neSF rfl)) ?_;refine yM ?_;refine yO ?_;refine yM ?_;refine yO ?_;refine yM ?_
     refine yO ?_;refine yf ?_;refine yU ?_;refine yM ?_;refine yO ?_;refine yM ?_;refine yO ?_;refine yM ?_;refine yO ?_
     refine yC ?_
     refine FW.pu S1 ?_
     clear S1
     refine yO ?_;refine yA ?_;refine yU ?_;refine yM ?_;refine yO ?_;refine yM ?_;refine yO ?_;refine yM ?_;refine yO ?_
     refine yf ?_;refine yU ?_;refine y3 ?_;refine yX ?_;refine wE_skip ?_;refine kS_n ?_;refine wE_seq ?_;refine y4 ?_;refine yM ?_;refine yf ?_;refine y3 ?_;refine yX ?_;refine wE_skip ?_;refine kS_n ?_;refine wE_seq ?_;refine y4 ?_;refine yM ?_;refine yf ?_;refine y3 ?_;refine yX ?_;refine wE_skip ?_;refine kS_n ?_;refine y4 ?_
     refine yC ?_
     refine FW.pu C19' ?_
     refine yM ?_;refine y3 ?_;refine wE_ret ?_
     exact endP_ret hl3 rfl rfl
  ·refine y4 ?_;refine yM ?_;refine y3 ?_;refine wE_seq ?_;refine y4 ?_;refine yM ?_;refine yD ?_
   refine yf ?_;refine yM ?_;refine yO ?_;refine yM ?_;refine yO ?_;refine wO_val (a_len0S (by exact rfl)) ?_;refine yO ?_;refine yt ?_
   refine yU ?_;refine y3 ?_;refine yY ?_;refine y4 ?_
   refine yC ?_
   refine FW.pu C19 ?_
   refine yM ?_;refine y3 ?_;refine wE_ret ?_;refine kS_r ?_
   exact endP_ret hr.log rfl rfl
 ·refine y4 ?_;refine yM ?_;refine y3 ?_;refine wE_seq ?_;refine y4 ?_;refine yM ?_;refine yD ?_
  refine yt ?_;refine yM ?_;refine yP ?_;refine yP ?_;refine yP ?_;refine yT ?_;refine y3 ?_;refine yY ?_;refine y4 ?_
  refine yC ?_
  refine FW.pu C19 ?_
  refine yM ?_;refine y3 ?_;refine wE_ret ?_;refine kS_r ?_
  exact endP_ret hr.log rfl rfl
end Go.A.Pk
end
section
set_option maxRecDepth 100000
open Go Go.Proofs Go.Joins Go.ChangeShapes Go.WideShapes Go.RowKit Go.Deep
namespace Go.A.Pk
theorem laid_in{P:Program}{w:World}:∀{l:List (String×DataW Unit)} {ps:List MemPlace},DataW.LaidVars P w l ps→∀{n:String} {d:DataW Unit},(n,d)∈l→∃g t cs fuel p,P.globalNamed n=some g∧(P.globals[g]?).map (·.type)=some t∧w.var? P n=some cs∧
 DataW.trod (fun _=>()) P w 0 (fun _=>true) false fuel t cs.toList=some (d,p)∧∀x∈MemPlace.row ⟨g,0,none⟩ cs.size,x∈ps
 |[],_,_,_,_,hm=>by cases hm
 |(n',d')::r,ps,h,n,d,hm=>by
  obtain⟨g,t,cs,fuel,p,q,h1,h2,h3,h4,h5,rfl⟩:=h
  rcases List.mem_cons.1 hm with e|e
  ·cases e
   exact⟨g,t,cs,fuel,p,h1,h2,h3,h4,fun x hx=>List.mem_append_left _ (List.mem_append_left _ hx)⟩
  ·obtain⟨g,t,cs,fuel,p,k1,k2,k3,k4,k5⟩:=laid_in h5 e
   exact⟨g,t,cs,fuel,p,k1,k2,k3,k4,fun x hx=>List.mem_append_right _ (k5 x hx)⟩
theorem var_heap{P:Program}{w:World}{n:String}{g:Nat}{cs:Array Value}(hg:P.globalNamed n=some g)(h:w.var? P n=some cs):∃t fz,w.heap[g]? =some (.cells cs t fz):=by
 unfold World.var? at h
 rw[hg]at h
 simp only[Option.bind_some]at h
 split at h
 ·rename_i c t fz he
  cases h
  exact⟨t,fz,he⟩
 ·cases h
structure VarsAt (W:World):Prop where
 pow:∃t fz,W.heap[3]? =some (.cells powV.toArray t fz)
 err:∀g,g=1∨g=2→∃t fz u b o,W.heap[g]? =some (.cells #[.iface u (.pointer (some ⟨b,o,none⟩))] t fz)∧∃c el fz2,W.heap[b]? =some (.cells c el fz2)
theorem gty1:(Tryz.prog.globals[1]?).map (·.type)=some 124:=by kernel_rfl
theorem gty2:(Tryz.prog.globals[2]?).map (·.type)=some 124:=by kernel_rfl
theorem gty3:(Tryz.prog.globals[3]?).map (·.type)=some 243:=by kernel_rfl
theorem gn1:Tryz.prog.globalNamed "strconv.ErrSyntax" =some 1:=by kernel_rfl
theorem gn2:Tryz.prog.globalNamed "strconv.ErrRange" =some 2:=by kernel_rfl
theorem under124:∃ms,Tryz.prog.underlying 124=some (.interface ms):=⟨_,by rw[Tryz.underlying124]⟩
theorem trod_ptr{H:Type}{enc:TypeId×Value→H}{P:Program}{w:World}{base:Nat}{sp:Nat→Bool}{held:Bool}{fuel:Nat}{t:TypeId}{cs:List Value}{x:DataW H}{ps:List MemPlace}(h:DataW.trod enc P w base sp held fuel t cs=some (.ptr x,ps)):
 ∃e a,P.underlying t=some (.pointer e)∧cs=[.pointer (some a)]:=by
 cases fuel with
 |zero=>simp[DataW.trod]at h
 |succ n=>
  unfold DataW.trod at h
  split at h
  case h_6=>exact⟨_,_,by assumption,rfl⟩
  all_goals try simp only[Option.map_eq_some_iff,Option.bind_eq_some_iff,Option.ite_none_right_eq_some,Option.some.injEq,Prod.mk.injEq,reduceCtorEq,false_and,and_false,exists_false,exists_const]at h
  all_goals (first|exact h.elim|(split at h<;>simp_all))
  obtain⟨_,h⟩:=h
  simp only[Option.bind_eq_some_iff]at h
  obtain⟨_,_,h⟩:=h
  split at h<;>simp at h
theorem trod_iface{H:Type}{enc:TypeId×Value→H}{P:Program}{w:World}{base:Nat}{sp:Nat→Bool}{fuel:Nat}{t:TypeId}{cs:List Value}{x:DataW H×List MemPlace}{ms:Array (String×TypeId)}(ht:P.underlying t=some (.interface ms))(h:DataW.trod enc P w base sp false fuel t cs=some x):
 x=(.nil,[])∨∃u v n nm y,cs=[.iface u v]∧P.typeName? 3 u=some nm∧DataW.trod enc P w base sp false n u v.cells.toList=some y∧x=(.iface nm y.1,y.2):=by
 cases fuel with
 |zero=>simp[DataW.trod]at h
 |succ n=>
  unfold DataW.trod at h
  rw[ht]at h
  split at h<;>simp_all
  rename_i u v _
  cases hn:P.typeName? 3 u with
  |none=>rw[hn]at h;simp at h
  |some nm=>
   rw[hn]at h
   simp only[Option.map_eq_some_iff]at h
   obtain⟨y,h1,h2⟩:=h
   exact .inr ⟨u,v,⟨rfl,rfl⟩,n,nm,hn,y.1,y.2,h1,h2.symm⟩
theorem err_at{W:World}{l:List (String×DataW Unit)}(hL:laidMet Tryz.prog l W){n:String}{g:Nat}(hg:Tryz.prog.globalNamed n=some g)(hy:(Tryz.prog.globals[g]?).map (·.type)=some 124){x:DataW Unit}(hm:(n, .iface "*errors.errorString" (.ptr x))∈l):
 ∃t fz u b o,W.heap[g]? =some (.cells #[.iface u (.pointer (some ⟨b,o,none⟩))] t fz)∧∃c el fz2,W.heap[b]? =some (.cells c el fz2):=by
 obtain⟨ps,hv,_,hall⟩:=hL
 obtain⟨g',t',cs,fuel,p,k1,k2,k3,k4,k5⟩:=laid_in hv hm
 obtain rfl:=Option.some.inj (hg.symm.trans k1)
 obtain rfl:=Option.some.inj (hy.symm.trans k2)
 obtain⟨t,fz,hh⟩:=var_heap hg k3
 obtain⟨ms,hu⟩:=under124
 rcases trod_iface hu k4 with h|⟨u,v,f,nm,y,q2,hnm,hy2,he⟩
 ·cases h
 ·skip
  simp only[Prod.mk.injEq,DataW.iface.injEq]at he
  obtain⟨⟨rfl,hyx⟩,_⟩:=he
  obtain⟨d9,p9⟩:=y
  cases hyx
  obtain⟨e9,a9,hu2,hc9⟩:=trod_ptr hy2
  have hcs:cs= #[.iface u v]:=by
   apply arr_ext;simpa using q2
  subst hcs
  have hin:MemPlace.cell g 0∈ps:=k5 _ (by simp[MemPlace.row,Addr.add])
  have hok:=(hall g 0 hin).2 u v (by unfold World.cell?;simp only[hh];rfl)
  obtain⟨a,rfl⟩:=okWide_pointer hu2 hok
  cases a with
  |none=>simp[Value.cells]at hc9
  |some a=>
   have hcell:Cell.okWide Tryz.prog W .any 0 u (.pointer (some a)):=by simpa only[Value.okWide,hu2]using hok
   simp only[Cell.okWide,Cell.ok,hu2,World.has]at hcell
   obtain⟨_,hspot,row,cells,hsh,_⟩:=hcell
   obtain⟨b,o,sp⟩:=a
   simp only at hspot hsh
   subst hspot
   refine⟨t,fz,u,b,o,hh,?_⟩
   unfold World.shape? at hsh
   split at hsh
   ·rename_i c el fz2 he;exact⟨c,el,fz2,he⟩
   ·cases hsh
end Go.A.Pk
end
section
set_option maxRecDepth 100000
open Go Go.Proofs Go.Joins Go.ChangeShapes Go.WideShapes Go.RowKit Go.Deep
namespace Go.A.Pk
def obG(e1 e2:Value)(l:List Ob):Heap:=⟨(1, .cells [e1] false 1)::(2, .cells [e2] false 1)::(3, .cells powV false 1)::obsL 8 l,8+l.length,[]⟩
def gM(l:List Ob):Mu:=fun x=>if x=1 then some ⟨1,0,1,1⟩else if x=2 then some ⟨2,0,1,1⟩else if x=3 then some ⟨3,0,powV.length,1⟩else obM l x
theorem obG_get(e1 e2:Value)(l:List Ob)(x:Nat):(obG e1 e2 l).get x=if x=1 then some (.cells [e1] false 1)else if x=2 then some (.cells [e2] false 1)else if x=3 then some (.cells powV false 1)else(obH l).get x:=by
 show getO ((1,_)::(2,_)::(3,_)::obsL 8 l) x=_
 simp only[getO,cond_eq_ite,beq_eq,decide_eq_true_eq]
 by_cases h1:x=1
 ·subst h1;rfl
 ·rw[if_neg (Ne.symm h1),if_neg h1]
  by_cases h2:x=2
  ·subst h2;rfl
  ·rw[if_neg (Ne.symm h2),if_neg h2]
   by_cases h3:x=3
   ·subst h3;rfl
   ·rw[if_neg (Ne.symm h3),if_neg h3]
    rfl
theorem obM_gM{l:List Ob}:∀b k,obM l b=some k→gM l b=some k:=fun b k h=>by
 have:=(obM_some h).1
 unfold gM
 rw[if_neg (by omega),if_neg (by omega),if_neg (by omega),h]
theorem obH_obG{e1 e2:Value}{l:List Ob}{b:Nat}{a:AObj}(h:(obH l).get b=some a):(obG e1 e2 l).get b=(obH l).get b:=by
 have:=(obH_some h).1
 rw[obG_get,if_neg (by omega),if_neg (by omega),if_neg (by omega)]
structure BlkOk (W:World) (μ:Mu) (n x:Nat) (a:AObj) (k:Blk) (vs:List Value) (c:Array Value):Prop where
 lt:x<n
 cells:a= .cells vs false k.sz
 at':∃el fz,W.heap[k.r]? =some (.cells c el fz)
 e1:k.d+vs.length≤k.e
 e2:k.e≤c.size
 vals:∀i,i<vs.length→∃v',c[k.d+i]? =some v'∧VR μ (gv vs i) v'
 var:x<8→k.r=x∧k.d=0∧vs.length=c.size
structure VarsIn (W:World) (μ:Mu) (e1 e2:Value):Prop where
 pow:∃t fz,W.heap[3]? =some (.cells powV.toArray t fz)
 v1:∃t fz v,W.heap[1]? =some (.cells #[v] t fz)∧VR μ e1 v
 v2:∃t fz v,W.heap[2]? =some (.cells #[v] t fz)∧VR μ e2 v
theorem noRef_powV:∀v∈powV,noRef v=true:=by
 intro v hv
 simp only[powV,List.mem_map]at hv
 obtain⟨z,_,rfl⟩:=hv
 rfl
theorem obG_some{W:World}{e1 e2:Value}{l:List Ob}(V:VarsIn W (gM l) e1 e2)(H:∀o∈l,ObOk W (gM l) o){x:Nat}{a:AObj}(h:(obG e1 e2 l).get x=some a):
 ∃k vs c,gM l x=some k∧BlkOk W (gM l) (8+l.length) x a k vs c:=by
 rw[obG_get]at h
 split at h
 ·rename_i hx
  subst hx
  cases h
  obtain⟨t,fz,v,q1,q2⟩:=V.v1
  refine⟨⟨1,0,1,1⟩,[e1], #[v],rfl,⟨by omega,rfl,⟨t,fz,q1⟩,Nat.le_refl _,Nat.le_refl _,fun i hi=> ?_,fun _=>⟨rfl,rfl,rfl⟩⟩⟩
  obtain rfl:i=0:=by simpa using hi
  exact⟨v,rfl,q2⟩
 split at h
 ·rename_i hx
  subst hx
  cases h
  obtain⟨t,fz,v,q1,q2⟩:=V.v2
  refine⟨⟨2,0,1,1⟩,[e2], #[v],rfl,⟨by omega,rfl,⟨t,fz,q1⟩,Nat.le_refl _,Nat.le_refl _,fun i hi=> ?_,fun _=>⟨rfl,rfl,rfl⟩⟩⟩
  obtain rfl:i=0:=by simpa using hi
  exact⟨v,rfl,q2⟩
 split at h
 ·rename_i hx
  subst hx
  cases h
  obtain⟨t,fz,q1⟩:=V.pow
  refine⟨⟨3,0,powV.length,1⟩,powV,powV.toArray,rfl,⟨by omega,rfl,⟨t,fz,q1⟩,by show 0+powV.length≤powV.length;omega,by simp,fun i hi=> ?_,fun _=>⟨rfl,rfl,by simp⟩⟩⟩
  refine⟨powV[i],by show powV.toArray[0+i]? =_;rw[Nat.zero_add,List.getElem?_toArray,List.getElem?_eq_getElem hi],?_⟩
  have e:gv powV i=powV[i]'hi:=by unfold gv;rw[lget_eq,List.getElem?_eq_getElem hi];rfl
  rw[e]
  exact(VR.noRef (noRef_powV _ (List.getElem_mem _))).1
 ·obtain⟨h8,ob,hl,rfl⟩:=obH_some h
  obtain⟨c,el,fz,hW,h1,h2,hv⟩:=(H ob (List.mem_of_getElem? hl)).ok
  have hm:obM l x=some ⟨ob.b,ob.d,ob.e,ob.sz⟩:=by unfold obM;rw[if_pos h8,hl];rfl
  have:=(List.getElem?_eq_some_iff.1 hl).1
  exact⟨_,ob.vs,c,obM_gM _ _ hm,⟨by omega,rfl,⟨el,fz,hW⟩,h1,h2,hv,fun q=>absurd q (by omega)⟩⟩
theorem gM_lt{W:World}{e1 e2:Value}{l:List Ob}(V:VarsIn W (gM l) e1 e2)(H:∀o∈l,ObOk W (gM l) o){x:Nat}{k:Blk}(h:gM l x=some k):x<8+l.length∧k.r<W.heap.size:=by
 unfold gM at h
 split at h
 ·cases h;obtain⟨t,fz,v,q1,q2⟩:=V.v1;exact⟨by omega,(Array.getElem?_eq_some_iff.1 q1).1⟩
 split at h
 ·cases h;obtain⟨t,fz,v,q1,q2⟩:=V.v2;exact⟨by omega,(Array.getElem?_eq_some_iff.1 q1).1⟩
 split at h
 ·cases h;obtain⟨t,fz,q1⟩:=V.pow;exact⟨by omega,(Array.getElem?_eq_some_iff.1 q1).1⟩
 ·obtain⟨h8,ob,hl,rfl⟩:=obM_some h
  have:=(List.getElem?_eq_some_iff.1 hl).1
  obtain⟨c,el,fz,hW,_⟩:=(H ob (List.mem_of_getElem? hl)).ok
  exact⟨by omega,(Array.getElem?_eq_some_iff.1 hW).1⟩
theorem R.obG{W:World}{e1 e2:Value}{l:List Ob}(V:VarsIn W (gM l) e1 e2)(H:∀o∈l,ObOk W (gM l) o):R Tryz.prog (gM l) (obG e1 e2 l) W:=by
 refine⟨by rw[globals_size];exact Nat.le_add_right _ _,fun g o hgs hx=> ?_,fun x o hx=> ?_,fun x o hx=> ?_,fun x k hk=>gM_lt V H hk,fun x y o o' k k' hne hx hy _ _ hk hk' _=> ?_⟩
 ·rw[globals_size]at hgs
  obtain⟨k,vs,c,hk,B⟩:=obG_some V H hx
  obtain⟨r1,r2,r3⟩:=B.var hgs
  obtain⟨el,fz,q⟩:=B.at'
  refine⟨k,hk,r1,r2,fun _ _ c' t' fz' hc'=> ?_⟩
  rw[q]at hc'
  cases hc'
  rw[B.cells]
  exact r3
 ·obtain⟨k,vs,c,hk,B⟩:=obG_some V H hx
  rw[B.cells]
  intro k' hk'
  rw[hk]at hk'
  cases hk'
  obtain⟨el,fz,q⟩:=B.at'
  exact⟨rfl,c,el,fz,q,B.e1,B.e2,B.vals,fun h=>by cases h⟩
 ·obtain⟨k,vs,c,hk,B⟩:=obG_some V H hx
  exact B.lt
 ·obtain⟨_,_,_,_,B⟩:=obG_some V H hx
  obtain⟨_,_,_,_,B'⟩:=obG_some V H hy
  rw[B.cells,B'.cells]
  exact⟨rfl,rfl⟩
theorem obG_ro{e1 e2:Value}{l:List Ob}:∀b o,(obG e1 e2 l).get b=some o→o.ro=true∨o.live=false:=fun b o hx=>by
 rw[obG_get]at hx
 split at hx
 ·cases hx;exact .inl rfl
 split at hx
 ·cases hx;exact .inl rfl
 split at hx
 ·cases hx;exact .inl rfl
 ·exact obH_ro b o hx
theorem obG_rdy(e1 e2:Value)(l:List Ob):Rdy (obG e1 e2 l):=by
 obtain⟨h1,h2⟩:=obsL_keys l 8
 refine⟨⟨?_,fun b hb=> ?_⟩,rfl⟩
 ·show(1::2::3::(obsL 8 l).map (·.1)).Nodup
  have e:∀z,z<8→z ∉ (obsL 8 l).map (·.1):=fun z hz q=>by have:=(h2 z q).1;omega
  simp only[List.nodup_cons,List.mem_cons,not_or]
  exact⟨⟨by omega,by omega,e 1 (by omega)⟩,⟨by omega,e 2 (by omega)⟩,e 3 (by omega),h1⟩
 ·have hb':b∈(1::2::3::(obsL 8 l).map (·.1)):=hb
  simp only[List.mem_cons]at hb'
  show b<8+l.length
  rcases hb' with rfl|rfl|rfl|q
  ·omega
  ·omega
  ·omega
  ·exact(h2 b q).2
theorem laidG{W:World}(V:VarsAt W){sz n:Nat}{sl:Value}{cs:List Value}(hc:CellsAt W sz sl n cs):∃(h:Heap) (μ:Mu),R Tryz.prog μ h W∧(∀b o,h.get b=some o→o.ro=true∨o.live=false)∧Rdy h∧Glob h∧
 ∃a c,VR μ (.slice a n c) sl∧SliceOf h sz (.slice a n c) n cs∧c<UNK:=by
 obtain⟨ob,k1,q1⟩:=hc.lay
 obtain⟨t1,zz1,u1,b1,o1,w1,c1,el1,yy1,x1⟩:=V.err 1 (.inl rfl)
 obtain⟨t2,zz2,u2,b2,o2,w2,c2,el2,yy2,x2⟩:=V.err 2 (.inr rfl)
 have g:∀L:List Ob,L=ob++[⟨[],1,b1,0,0⟩,⟨[],1,b2,0,0⟩]→obM L (8+ob.length)=some ⟨b1,0,0,1⟩∧obM L (8+(ob.length+1))=some ⟨b2,0,0,1⟩:=by
  intro L hL
  subst hL
  constructor
  ·unfold obM
   rw[if_pos (by omega),Nat.add_sub_cancel_left,List.getElem?_append_right (Nat.le_refl _),Nat.sub_self]
   rfl
  ·unfold obM
   rw[if_pos (by omega),Nat.add_sub_cancel_left,List.getElem?_append_right (by omega),show ob.length+1-ob.length=1 by omega]
   rfl
 generalize hL:ob++[⟨[],1,b1,0,0⟩,⟨[],1,b2,0,0⟩]=L at*
 obtain⟨g1,g2⟩:=g L rfl
 have H:∀o∈L,ObOk W (gM L) o:=fun o ho=>by
  rw[←hL]at ho
  rcases List.mem_append.1 ho with q|q
  ·exact k1 _ o q
  ·rcases List.mem_cons.1 q with rfl|q
   ·exact⟨c1,el1,yy1,x1,Nat.le_refl _,Nat.zero_le _,fun i hi=>by cases hi⟩
   ·rw[List.mem_singleton.1 q]
    exact⟨c2,el2,yy2,x2,Nat.le_refl _,Nat.zero_le _,fun i hi=>by cases hi⟩
 have p1:VR (gM L) (.iface u1 (.pointer (some ⟨8+ob.length,o1,none⟩))) (.iface u1 (.pointer (some ⟨b1,o1,none⟩))):=by
  have:=VR.ptr (o:=o1) (obM_gM _ _ g1)
  rw[Nat.zero_add]at this
  exact .iface this
 have p2:VR (gM L) (.iface u2 (.pointer (some ⟨8+(ob.length+1),o2,none⟩))) (.iface u2 (.pointer (some ⟨b2,o2,none⟩))):=by
  have:=VR.ptr (o:=o2) (obM_gM _ _ g2)
  rw[Nat.zero_add]at this
  exact .iface this
 have VI:VarsIn W (gM L) (.iface u1 (.pointer (some ⟨8+ob.length,o1,none⟩))) (.iface u2 (.pointer (some ⟨8+(ob.length+1),o2,none⟩))):=⟨V.pow,⟨t1,zz1,_,w1,p1⟩,t2,zz2,_,w2,p2⟩
 obtain⟨a,c,r1,r2,r3⟩:=q1 L 0 (fun o ho=>by
  rw[←hL,List.getElem?_append_left (List.getElem?_eq_some_iff.1 ho).1]
  exact ho)
 refine⟨_,_,R.obG VI H,obG_ro,obG_rdy _ _ _,⟨rfl,⟨_,_,rfl⟩,_,_,rfl⟩,a,c,r1.mono obM_gM,Pk.SliceOf.agree r2 (Nat.le_refl _) fun b vs o t _ hb=>obH_obG hb,r3⟩
end Go.A.Pk
end
section
set_option maxRecDepth 100000
open Go Go.Proofs Go.Joins Go.ChangeShapes Go.WideShapes Go.RowKit Go.Deep
namespace Go.A.Pk
theorem pow_data:(Proofs.YteafdpbjocdbbaaGreatDoor.Rows.laid_internal_strconv_uint64pow10:DataW Unit)=Lib.tabData .u64 Lib.pow10Tab:=by kernel_rfl
theorem vars_at{W:World}{l:List (String×DataW Unit)}(hL:laidMet Tryz.prog l W){x y:DataW Unit}(h1:("strconv.ErrSyntax", .iface "*errors.errorString" (.ptr x))∈l)(h2:("strconv.ErrRange", .iface "*errors.errorString" (.ptr y))∈l)
 (h3:("internal/strconv.uint64pow10",Lib.tabData .u64 Lib.pow10Tab)∈l):VarsAt W:=by
 refine⟨?_,fun g hg=> ?_⟩
 ·obtain⟨ps,hv,_,_⟩:=hL
  obtain⟨g',t',cs,fuel,p,k1,k2,k3,k4,k5⟩:=laid_in hv h3
  obtain rfl:=Option.some.inj (pow_named.symm.trans k1)
  obtain rfl:=Option.some.inj (gty3.symm.trans k2)
  obtain⟨t,fz,hh⟩:=var_heap pow_named k3
  have hc:=Lib.cells_of_tab Tryz.underlying243 Tryz.underlying77 (by kernel_rfl) (by kernel_rfl) k4
  have:cs=powV.toArray:=by
   apply arr_ext;simpa[powV]using hc
  rw[this]at hh
  exact⟨t,fz,hh⟩
 ·rcases hg with rfl|rfl
  ·exact err_at hL gn1 gty1 h1
  ·exact err_at hL gn2 gty2 h2
section
variable {H:Type} {enc:TypeId×Value→H} {W:World} {base:Nat} {spare:Nat→Bool} {held:Bool}
theorem node_cellsI{fuel:Nat}{cs:List Value}{x:DataW H×List MemPlace}(h:DataW.trod enc Tryz.prog W base spare held fuel 115 cs=some x):∃k:Nat×Int,cs=[.int .u8 k.1, .int .i64 k.2]∧k.1<256∧ -9223372036854775808≤k.2∧k.2≤9223372036854775807:=by
 obtain⟨xs,n,_,hx,hcl,hlen,hg⟩:=DataW.trod_struct Tryz.underlying115 h
 rw[cells115]at hcl
 match cs,hcl with
 |[c0,c1],_=>
  match xs,hlen with
  |[y0,y1],_=>
   have g0:DataW.trod enc Tryz.prog W base spare held n 5 [c0]=some y0:=by have:=hg 0 _ rfl;simpa[cells5]using this
   have g1:DataW.trod enc Tryz.prog W base spare held n 3 [c1]=some y1:=by have:=hg 1 _ rfl;simpa[cells3]using this
   obtain⟨a0,h0,_,w0⟩:=DataW.trod_int Tryz.underlying5 g0
   obtain⟨a1,h1,_,w1⟩:=DataW.trod_int Tryz.underlying3 g1
   cases h0;cases h1
   simp only[Lit.wf,Bool.and_eq_true,decide_eq_true_eq]at w0 w1
   have e1:IntKind.u8.min=0:=rfl
   have e2:IntKind.u8.max=255:=rfl
   rw[e1,e2]at w0
   have e3:IntKind.i64.min= -9223372036854775808:=rfl
   have e4:IntKind.i64.max=9223372036854775807:=rfl
   rw[e3,e4]at w1
   obtain⟨a0,rfl⟩:=Int.eq_ofNat_of_zero_le w0.1
   exact⟨(a0,a1),rfl,by show a0<256;omega,w1.1,w1.2⟩
theorem open_nodesI{v:Value}{d:DataW H}{p:List MemPlace}(hv:Value.okWide Tryz.prog W .any base 31 v)(h:DataW.Trod enc Tryz.prog W 0 (fun _=>true) held 31 v d p)(hz:∀n∈d.weights Tryz.prog 31,n≤reachBytes):∃ns,CellsAt W 2 v ns.length (ncI ns)∧Ni ns:=by
 have hcell:Cell.okWide Tryz.prog W .any base 31 v:=by
  simpa only[Value.okWide,Tryz.underlying31]using hv
 obtain⟨a0,len0,cap0,rfl⟩:=okWide_slice Tryz.underlying31 hv
 obtain⟨fuel,hf⟩:=h
 have hf:DataW.trod enc Tryz.prog W 0 (fun _=>true) held fuel 31 [.slice a0 len0 cap0]=some (d,p):=by simpa[Value.cells]using hf
 rcases open_slice Tryz.underlying31 hf with⟨h2,_⟩|⟨a,len,cap,m,n',D,Pl,h2,_,hl,hcap,hm,hy,hx⟩
 ·cases h2
  exact⟨[], .nil,fun x hx=>by cases hx⟩
 ·cases h2
  simp only[Cell.okWide,Cell.ok,Tryz.underlying31,World.has]at hcell
  obtain⟨_,_,_,hspot,row,cells,hsh,_⟩:=hcell
  obtain⟨b,o,sp⟩:=a
  simp only at hspot hsh
  subst hspot
  rw[if_pos rfl]at hm
  subst hm
  have hcapU:m<UNK:=by
   have e16:Tryz.prog.bytesOf 115=16:=by kernel_rfl
   have:=hz (m*16) (by
    cases hy
    simp only[DataW.weights,Tryz.underlying31,e16,List.length_map,List.length_range,show len0+(m-len0)=m by omega]
    simp)
   unfold reachBytes at this
   unfold UNK;omega
  obtain⟨c,el,fz,hheap⟩:∃c el fz,W.heap[b]? =some (.cells c el fz):=by
   unfold World.shape? at hsh
   split at hsh
   ·rename_i c el fz he;exact⟨c,el,fz,he⟩
   ·cases hsh
  obtain⟨f,hf⟩:=choose_lt (α:=Nat×Int) (n:=len0) (p:=fun i k=>(k.1<256∧ -9223372036854775808≤k.2∧k.2≤9223372036854775807)∧∀j,j<2→c[o+(i*2+j)]? =([.int .u8 k.1, .int .i64 k.2]:List Value)[j]?) (fun i hi=>by
   obtain⟨cs',hc,ht⟩:=hx i (by omega)
   obtain⟨k,hk,hk2⟩:=node_cellsI ht
   subst hk
   refine⟨k,hk2,fun j hj=> ?_⟩
   rw[cells115]at hc
   obtain⟨_,_,hat⟩:=World.cells?_some hc
   have:=hat j hj
   rw[add_eq,add_eq]at this
   rw[←this,Nat.add_assoc]
   unfold World.cell?
   simp only[hheap]
   rfl)
  by_cases h0:len0=0
  ·subst h0
   exact⟨[], .empty hheap hcapU,fun x hx=>by cases hx⟩
  ·have hlen:((List.range len0).map f).length=len0:=by simp
   refine⟨(List.range len0).map f,?_,fun x hx=> ?_⟩
   ·rw[hlen]
    refine .full hheap h0 (by rw[ncI_len,hlen]) (by omega) hl hcapU (fun j hj=> ?_) (noRef_ncI _)
    have h5:j / 2<len0:=by omega
    have e1:j=j / 2*2+j % 2:=by omega
    have g1:=(hf (j / 2) h5).2 (j % 2) (by omega)
    have g2:=ncI_get (l:=(List.range len0).map f) (i:=j / 2) (k:=f (j / 2)) (j:=j % 2) (by simp[h5]) (by omega)
    rw[←e1]at g1 g2
    rw[g1,g2]
   ·obtain⟨i,hi,rfl⟩:=List.mem_map.1 hx
    exact(hf i (List.mem_range.1 hi)).1
theorem open_str{v:Value}{d:DataW H}{p:List MemPlace}(h:DataW.Trod enc Tryz.prog W 0 (fun _=>true) held 9 v d p)(hv:Value.okWide Tryz.prog W .any base 9 v):∃s:List UInt8,v= .string (S s)∧d= .lit (.string s)∧p=[]:=by
 obtain⟨s,rfl⟩:=okWide_string Tryz.underlying9 hv
 obtain⟨fuel,hf⟩:=h
 obtain⟨s',e1,e2,_⟩:=DataW.trod_string Tryz.underlying9 hf
 simp only[Value.cells]at e1
 cases e1
 cases e2
 exact⟨s.data.toList,rfl,rfl,rfl⟩
end
end Go.A.Pk
end
section
set_option maxRecDepth 100000
open Go Go.A Go.Proofs Go.RowKit
namespace Go.A.Pk
theorem c4:compF Tryz.prog Tryz.f4 [[0,1],[0,1,24],[4],[0,1,5,6],[0,1,5,6,7,8],[0,1,5,6,7,8,9,10],[0,1,5,6,7,8,9,10,11,12],[0,1,5,6,9,10,64],[4],[0,1,5,9,10,66],[0,1,9,10,13,14],[1,9,10,79],[4],[1,9,81],[1,15,16],[93],[4],[4]]=some f4:=by kernel_rfl
theorem c28:compF Tryz.prog Tryz.f28 [[0],[0,4],[0,4,5],[0,4,5,10],[0,4,5,6],[0,4,5,6,19],[2,3],[0,4,5,6,21],[0,4,5,6],[0,4,5],[0,4,5],[4,29],[2,3],[2,3]]=some f28:=by kernel_rfl
theorem c30:compF Tryz.prog Tryz.f30 [[0],[0,13],[2,3],[0,4],[0,4,5],[0,4,5,6],[0,4,5,6,17],[0,4,5,6,29],[0,4,5,6,7],[0,4,5,6,7,8],[0,4,5,6,7,8,31],[0,4,5,6,7,8,9],[0,4,5,6,7,8,9,35],[0,4,5,6,7,8,9,10],[0,4,5,6,7,8,9,10,11],[0,4,5,6,7,8,9,10,53],[0,4,5,6,8,9],[0,4,5,6,7,8,9],[0,4,5,6,7,8,9],[0,4,5,6,7,8],[0,4,6,64],[2,3],[0,4,5,6],[0,4,5,6],[2,3]]=some f30:=by kernel_rfl
theorem c31:compF Tryz.prog Tryz.f31 [[0,1],[0,1,10],[4],[0,1,5],[0,1,5,14],[0,1,5,25],[4],[0,1,5],[4]]=some f31:=by kernel_rfl
theorem c88:compF Tryz.prog Tryz.f88 [[1],[1,4],[1,4,5],[9],[2],[1,4,10],[1,14],[2],[1,4,19],[1,23],[2],[1,4,28],[1,32],[2],[1,37],[1,41],[2],[2]]=some f88:=by kernel_rfl
theorem c131:compF Tryz.prog Tryz.f131 [[0],[0,4],[2],[2]]=some f131:=by kernel_rfl
theorem ok127:Entry Tryz.prog 127 (.prim pItoa):= .prim (pItoa_ok Tryz.func127 (of_decide_eq_true (by kernel_rfl)) (by kernel_rfl))
theorem ok92:Entry Tryz.prog 92 (.prim pAtoi):= .prim (pAtoi_ok Tryz.func92 (of_decide_eq_true (by kernel_rfl)) (by kernel_rfl))
noncomputable def tree4:Tr:=(.node (.node (.node (.node (.node .nil 4 f4 .nil) 19 (.prim (pConst (.bool true))) (.node .nil 27 f27 .nil)) 28 f28 (.node (.node .nil 29 f29 .nil) 30 f30 .nil)) 31 f31 (.node (.node (.node .nil 77 f77 .nil) 80 f80 .nil) 86 f86 (.node (.node .nil 87 (.prim pJoin) .nil) 88 f88 .nil))) 89 f89 (.node (.node (.node (.node .nil 90 f90 .nil) 91 f91 .nil) 92 (.prim pAtoi) (.node (.node .nil 127 (.prim pItoa) .nil) 131 f131 .nil)) 132 f132 (.node (.node (.node .nil 133 f133 .nil) 155 f155 .nil) 156 f156 (.node (.node .nil 182 (.prim pCnt) .nil) 183 (.prim pIdx) .nil))))
noncomputable def T4:Nat→Option AFunc:=tree4.get
theorem all4:tree4.all (Entry Tryz.prog):=by
 unfold tree4
 exact(Tr.all_node (Tr.all_node (Tr.all_node (Tr.all_node (Tr.all_node Tr.all_nil (.of Tryz.func4 c4) Tr.all_nil) ok19 (Tr.all_node Tr.all_nil (.of Tryz.func27 c27) Tr.all_nil)) (.of Tryz.func28 c28) (Tr.all_node (Tr.all_node Tr.all_nil (.of Tryz.func29 c29) Tr.all_nil) (.of Tryz.func30 c30) Tr.all_nil)) (.of Tryz.func31 c31) (Tr.all_node (Tr.all_node (Tr.all_node Tr.all_nil (.of Tryz.func77 c77) Tr.all_nil) (.of Tryz.func80 c80) Tr.all_nil) (.of Tryz.func86 c86) (Tr.all_node (Tr.all_node Tr.all_nil ok87 Tr.all_nil) (.of Tryz.func88 c88) Tr.all_nil))) (.of Tryz.func89 c89) (Tr.all_node (Tr.all_node (Tr.all_node (Tr.all_node Tr.all_nil (.of Tryz.func90 c90) Tr.all_nil) (.of Tryz.func91 c91) Tr.all_nil) ok92 (Tr.all_node (Tr.all_node Tr.all_nil ok127 Tr.all_nil) (.of Tryz.func131 c131) Tr.all_nil)) (.of Tryz.func132 c132) (Tr.all_node (Tr.all_node (Tr.all_node Tr.all_nil (.of Tryz.func133 c133) Tr.all_nil) (.of Tryz.func155 c155) Tr.all_nil) (.of Tryz.func156 c156) (Tr.all_node (Tr.all_node Tr.all_nil ok182 Tr.all_nil) ok183 Tr.all_nil))))
theorem sound4:SoundT Tryz.prog T4:=soundT_of (by kernel_rfl) all4
theorem pu19_4{h:Heap}:Pu T4 19 [] h (.bool true):= .prim (p:=pConst (.bool true)) (by kernel_rfl) rfl ⟨rfl,rfl⟩
theorem pu127{T:Nat→Option AFunc}(hT:T 127=some (.prim pItoa)){h:Heap}{n:Int}(hG:Glob h)(h1: -9223372036854775808≤n)(h2:n≤9223372036854775807):Pu T 127 [.int .i64 n] h (.string (S (Lib.itoa n))):=by
 refine CW.prim (p:=pItoa) (v:= .string (S (Lib.itoa n))) (h':=h) hT ?_ ⟨rfl,rfl⟩
 unfold pItoa
 exact if_pos ⟨hG,h1,h2⟩
theorem al92{T:Nat→Option AFunc}(hT:T 92=some (.prim pAtoi)){h:Heap}{l:List UInt8}(hG:Glob h)(hl:l.length≤100000):Al T 92 [.string (S l)] h fun v _=>∃x,v= .tuple #[.int .i64 (atoiV l),x]:=by
 have hs:(S l).size≤281474976710656:=by show l.toArray.size≤_;simp;omega
 have e0:∀r,(match Lib.atoiAll l with
  | .ok v=>some (Value.tuple #[.int .i64 v, .nilIface],h)
  | .range=>some (.tuple #[.int .i64 (Lib.atoiSat l), .iface 205 (.pointer (some ⟨h.next,0,none⟩))],h.push (.cells [] false 1))
  |_=>some (.tuple #[.int .i64 0, .iface 205 (.pointer (some ⟨h.next,0,none⟩))],h.push (.cells [] false 1)))=r→pAtoi [.string (S l)] h=r:=by
  intro r hr
  unfold pAtoi
  exact(if_pos ⟨hG,hs⟩).trans hr
 have e1:∀r,(match Lib.atoiAll l with
  | .ok v=>v
  | .range=>Lib.atoiSat l
  |_=>0)=r→atoiV l=r:=fun r hr=>hr
 cases e:Lib.atoiAll l with
 |ok v=>
  rw[e]at e0 e1
  rw[e1 _ rfl]
  exact CW.prim (p:=pAtoi) hT (e0 _ rfl) ⟨Ext.refl h,_,rfl,_,rfl⟩
 |range=>
  rw[e]at e0 e1
  rw[e1 _ rfl]
  exact CW.prim (p:=pAtoi) hT (e0 _ rfl) ⟨(Ext.refl h).push _,_,rfl,_,rfl⟩
 |_=>
  rw[e]at e0 e1
  rw[e1 _ rfl]
  exact CW.prim (p:=pAtoi) hT (e0 _ rfl) ⟨(Ext.refl h).push _,_,rfl,_,rfl⟩
theorem fns4:FnsTe T4:={p:=sound4.primAS,f4:=by kernel_rfl,f27:=by kernel_rfl,f28:=by kernel_rfl,f29:=by kernel_rfl,f30:=by kernel_rfl,f31:=by kernel_rfl,f77:=by kernel_rfl,f80:=by kernel_rfl,f86:=by kernel_rfl,f88:=by kernel_rfl,f89:=by kernel_rfl,f90:=by kernel_rfl,f91:=by kernel_rfl,f131:=by kernel_rfl,f132:=by kernel_rfl,f133:=by kernel_rfl,f155:=by kernel_rfl,f156:=by kernel_rfl,c87:=by kernel_rfl,c182:=by kernel_rfl,c183:=by kernel_rfl,c19:=fun _=>pu19_4,c127:=fun _ hG h1 h2=>pu127 (by kernel_rfl) hG h1 h2,c92:=fun _ hG hl=>al92 (by kernel_rfl) hG hl}
theorem texts_calls{W:World}(V:VarsAt W){nl:Value}{ns:List (Nat×Int)}(hk:CellsAt W 2 nl ns.length (ncI ns))(hn:Ni ns)(t:List UInt8):Calls Tryz.prog 4 #[nl, .string (S t)] W fun e W'=>e= .returned (.bool true)∧Below W.heap.size W W':=by
 obtain⟨h,μ,hR,hro,hrd,hG,a,c,hu,hs,_⟩:=laidG V hk
 obtain⟨r,h',⟨m,hm⟩,rfl,rfl⟩:=law4 fns4 hrd hG hs hn t
 have hrun:=hm m (Nat.le_refl _)
 have ha:LR μ [.slice a ns.length c, .string (S t)] [nl, .string (S t)]:= .cons hu (.cons (.string _) .nil)
 refine(acall_calls sound4 hrun hrd.log (by kernel_rfl) hR ha).mono fun e W' hq=> ?_
 obtain⟨μ',q1,q2,q3⟩:=hq
 cases e with
 |returned v'=>
  have hv:VR μ' (.bool true) v':=q1
  cases hv
  exact⟨rfl,St.below q3 hro⟩
 |panicked _=>exact q1.elim
 |outgrown=>exact q1.elim
end Go.A.Pk
end
