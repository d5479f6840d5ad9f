/- Walks of functions, plain laws, the table. -/
import Derived.Test.YteafdpbjocdbbaaGreatDoorHU5
import Derived.Test.YteafdpbjocdbbaaGreatDoorHU2
import Derived.Test.YteafdpbjocdbbaaGreatDoorHH
import Derived.Test.YteafdpbjocdbbaaGreatDoorHT
import Derived.Test.YteafdpbjocdbbaaGreatDoorHD
set_option linter.all false
section
set_option maxRecDepth 100000
namespace Go.A.Pk
open Go Go.Proofs Go.Joins Go.ChangeShapes Go.WideShapes Go.RowKit Go.Deep
inductive jo (W:World) (sz:Nat):Value→Nat→List Value→Prop
 |nil:jo W sz (.slice none 0 0) 0 []
 |empty {b o cap c el fz}:W.heap[b]? =some (.cells c el fz)→cap<UNK→jo W sz (.slice (some ⟨b,o,none⟩) 0 cap) 0 []
 |full {b o cap n c el fz} {cs:List Value}:W.heap[b]? =some (.cells c el fz)→n≠0→cs.length=n*sz→0<sz→n≤cap→cap<UNK→(∀j,j<n*sz→c[o+j]? =cs[j]?)→(∀x∈cs,cD x=true)→jo W sz (.slice (some ⟨b,o,none⟩) n cap) n cs
theorem uj:∀(l:List Kd),∀x∈kcs l,cD x=true
 |[],x,hx=>by cases hx
 |k::l,x,hx=>by
  simp only[kcs,kc,List.mem_append,List.mem_cons,List.not_mem_nil,or_false]at hx
  rcases hx with(rfl|rfl|rfl|rfl|rfl)|hx
  ·rfl
  ·rfl
  ·rfl
  ·rfl
  ·rfl
  ·exact uj l x hx
theorem tZ:∀(l:List (Nat×Int)),∀x∈ncI l,cD x=true
 |[],x,hx=>by cases hx
 |k::l,x,hx=>by
  simp only[ncI,List.mem_append,List.mem_cons,List.not_mem_nil,or_false]at hx
  rcases hx with(rfl|rfl)|hx
  ·rfl
  ·rfl
  ·exact tZ l x hx
theorem kz.cells{W:World}{v:Value}{l:List Kd}(k:kz W v l):jo W 5 v l.length (kcs l):=by
 cases k with
 |nil=>exact .nil
 |empty h1 h2=>exact .empty h1 h2
 |full h1 h2 h3 h4 h5=>exact .full h1 (fun e=>h2 (List.length_eq_zero_iff.1 e)) (cP l) (by omega) h3 h4 h5 (uj l)
def Af(W:World)(v:Value)(ns:List (Nat×Int)):Prop:=jo W 2 v ns.length (ncI ns)∧∀x∈ns,x.1<256
structure Ob where
 vs:List Value
 sz:Nat
 b:Nat
 d:Nat
 e:Nat
def sx:Nat→List Ob→List (Nat×bE)
 |_,[]=>[]
 |n,o::l=>(n, .cells o.vs false o.sz)::sx (n+1) l
def obH(l:List Ob):Heap:=⟨sx 8 l,8+l.length,[]⟩
def obM(l:List Ob):Mu:=fun x=>if 8≤x then(l[x-8]?).map fun o=>⟨o.b,o.d,o.e,o.sz⟩else none
structure EJ (W:World) (μ:Mu) (o:Ob):Prop where
 ok:∃c el fz,W.heap[o.b]? =some (.cells c el fz)∧o.d+o.vs.length≤o.e∧o.e≤c.size∧∀i,i<o.vs.length→∃v',c[o.d+i]? =some v'∧VR μ (gv o.vs i) v'
theorem wS:∀(l:List Ob) (n x:Nat),fS (sx n l) x=if n≤x then(l[x-n]?).map fun o=> .cells o.vs false o.sz else none
 |[],n,x=>by simp[sx,fS]
 |o::l,n,x=>by
  simp only[sx,fS,cond_eq_ite,beq_eq,decide_eq_true_eq]
  by_cases hx:n=x
  ·subst hx
   rw[if_pos rfl,if_pos (Nat.le_refl _),Nat.sub_self]
   rfl
  ·rw[if_neg hx,wS l (n+1) x]
   by_cases h1:n≤x
   ·rw[if_pos h1,if_pos (by omega),show x-n=(x-(n+1))+1 by omega,List.getElem?_cons_succ]
   ·rw[if_neg h1,if_neg (by omega)]
theorem oT(l:List Ob)(x:Nat):(obH l).get x=if 8≤x then(l[x-8]?).map fun o=> .cells o.vs false o.sz else none:=wS l 8 x
theorem kX{l:List Ob}{x:Nat}{a:bE}(h:(obH l).get x=some a):8≤x∧∃o,l[x-8]? =some o∧a= .cells o.vs false o.sz:=by
 rw[oT]at h
 split at h
 ·rename_i h8
  cases hl:l[x-8]? with
  |none=>rw[hl]at h;cases h
  |some o=>rw[hl]at h;cases h;exact⟨h8,o,rfl,rfl⟩
 ·cases h
theorem we{l:List Ob}{x:Nat}{k:Blk}(h:obM l x=some k):8≤x∧∃o,l[x-8]? =some o∧k=⟨o.b,o.d,o.e,o.sz⟩:=by
 unfold obM at h
 split at h
 ·rename_i h8
  cases hl:l[x-8]? with
  |none=>rw[hl]at h;cases h
  |some o=>rw[hl]at h;cases h;exact⟨h8,o,rfl,rfl⟩
 ·cases h
theorem R.obs{P:Program}{W:World}{l:List Ob}(hg:P.globals.size≤8)(H:∀o∈l,EJ W (obM l) o):R P (obM l) (obH l) W:=by
 refine⟨Nat.le_trans hg (Nat.le_add_right _ _),fun g o hgs hx=> ?_,fun x o hx=> ?_,fun x o hx=> ?_,fun x k hk=> ?_,fun x y o o' k k' hne hx hy _ _ hk hk' _=> ?_⟩
 ·have:=(kX hx).1;omega
 ·obtain⟨h8,ob,hl,rfl⟩:=kX hx
  intro k hk
  obtain⟨_,ob',hl',rfl⟩:=we hk
  rw[hl]at hl'
  cases hl'
  obtain⟨c,el,fz,hW,h1,h2,hv⟩:=(H ob (List.mem_of_getElem? hl)).ok
  exact⟨rfl,c,el,fz,hW,h1,h2,hv,fun h=>by cases h⟩
 ·obtain⟨h8,ob,hl,rfl⟩:=kX hx
  have:=(List.getElem?_eq_some_iff.1 hl).1
  show x<8+l.length
  omega
 ·obtain⟨h8,ob,hl,rfl⟩:=we hk
  have:=(List.getElem?_eq_some_iff.1 hl).1
  obtain⟨c,el,fz,hW,_⟩:=(H ob (List.mem_of_getElem? hl)).ok
  exact⟨by show x<8+l.length;omega,(Array.getElem?_eq_some_iff.1 hW).1⟩
 ·obtain⟨_,ob,_,rfl⟩:=kX hx
  obtain⟨_,ob',_,rfl⟩:=kX hy
  exact⟨rfl,rfl⟩
theorem Kj{l:List Ob}:∀b o,(obH l).get b=some o→o.ro=true∨o.live=false:=fun b o hx=>by
 obtain⟨_,ob,_,rfl⟩:=kX hx
 exact .inl rfl
theorem pF:∀(l:List Ob) (n:Nat),((sx n l).map (·.1)).Nodup∧∀b∈(sx n l).map (·.1),n≤b∧b<n+l.length
 |[],n=>⟨by simp[sx],fun b hb=>by simp[sx]at hb⟩
 |o::l,n=>by
  obtain⟨h1,h2⟩:=pF l (n+1)
  refine⟨?_,fun b hb=> ?_⟩
  ·simp only[sx,List.map_cons,List.nodup_cons]
   exact⟨fun q=>by have:=(h2 n q).1;omega,h1⟩
  ·simp only[sx,List.map_cons,List.mem_cons]at hb
   rcases hb with rfl|hb
   ·simp
   ·have:=h2 b hb
    simp only[List.length_cons]
    omega
theorem G0(l:List Ob):Rdy (obH l):=⟨⟨(pF l 8).1,fun b hb=>((pF l 8).2 b hb).2⟩,rfl⟩
section
variable {H:Type} {enc:TypeId×Value→H} {W:World} {base:Nat} {spare:Nat→Bool} {held:Bool}
theorem JP:Tryz.prog.cellsOf 5=1:=by kernel_rfl
theorem xk:Tryz.prog.cellsOf 115=2:=by kernel_rfl
theorem xL{fuel:Nat}{cs:List Value}{x:DataW H×List MemPlace}(h:DataW.trod enc Tryz.prog W base spare held fuel 115 cs=some x):∃k:Nat×Int,cs=[.int .u8 k.1, .int .i64 k.2]∧k.1<256:=by
 obtain⟨xs,n,_,hx,hcl,hlen,hg⟩:=DataW.trod_struct Tryz.underlying115 h
 rw[xk]at hcl
 match cs,hcl with
 |[c0,c1],_=>
  match xs,hlen with
  |[y0,y1],_=>
   have g0:DataW.trod enc Tryz.prog W base spare held n 5 [c0]=some y0:=by have:=hg 0 _ rfl;simpa[JP]using this
   have g1:DataW.trod enc Tryz.prog W base spare held n 3 [c1]=some y1:=by have:=hg 1 _ rfl;simpa[qh]using this
   obtain⟨a0,h0,_,w0⟩:=DataW.trod_int Tryz.underlying5 g0
   obtain⟨a1,h1,_⟩:=DataW.trod_int Tryz.underlying3 g1
   cases h0;cases h1
   simp only[Lit.wf,Bool.and_eq_true,decide_eq_true_eq]at w0
   have e1:IntKind.u8.min=0:=rfl
   have e2:IntKind.u8.max=255:=rfl
   rw[e1,e2]at w0
   obtain⟨a0,rfl⟩:=Int.eq_ofNat_of_zero_le w0.1
   exact⟨(a0,a1),rfl,by show a0<256;omega⟩
theorem AJ:∀{l:List (Nat×Int)} {i:Nat} {k:Nat×Int} {j:Nat},l[i]? =some k→j<2→(ncI l)[i*2+j]? =([.int .u8 k.1, .int .i64 k.2]:List Value)[j]?
 |[],i,k,j,h,_=>by simp at h
 |x::l,0,k,j,h,hj=>by
  simp only[List.getElem?_cons_zero,Option.some.injEq]at h
  subst h
  simp only[ncI,Nat.zero_mul,Nat.zero_add]
  rw[List.getElem?_append_left (by simpa using hj)]
 |x::l,i+1,k,j,h,hj=>by
  rw[List.getElem?_cons_succ]at h
  have:=AJ (l:=l) h hj
  simp only[ncI]
  rw[List.getElem?_append_right (by simp;omega),←this]
  congr 1
  simp;omega
theorem yW{v:Value}{d:DataW H}{p:List MemPlace}(hv:Value.okWide Tryz.prog W .any base 31 v)(h:DataW.Trod enc Tryz.prog W 0 (fun _=>true) held 31 v d p)(hz:∀n∈d.weights Tryz.prog 31,n≤reachBytes):∃ns,Af W v ns:=by
 have hcell:Cell.okWide Tryz.prog W .any base 31 v:=by
  simpa only[Value.okWide,Tryz.underlying31]using hv
 obtain⟨a0,len0,cap0,rfl⟩:=okWide_slice Tryz.underlying31 hv
 obtain⟨fuel,hf⟩:=h
 have hf:DataW.trod enc Tryz.prog W 0 (fun _=>true) held fuel 31 [.slice a0 len0 cap0]=some (d,p):=by simpa[Value.cells]using hf
 rcases open_slice Tryz.underlying31 hf with⟨h2,_⟩|⟨a,len,cap,m,n',D,Pl,h2,_,hl,hcap,hm,hy,hx⟩
 ·cases h2
  exact⟨[], .nil,fun x hx=>by cases hx⟩
 ·cases h2
  simp only[Cell.okWide,Cell.ok,Tryz.underlying31,World.has]at hcell
  obtain⟨_,_,_,hspot,row,cells,hsh,_⟩:=hcell
  obtain⟨b,o,sp⟩:=a
  simp only at hspot hsh
  subst hspot
  rw[if_pos rfl]at hm
  subst hm
  have hcapU:m<UNK:=by
   have e16:Tryz.prog.bytesOf 115=16:=by kernel_rfl
   have:=hz (m*16) (by
    cases hy
    simp only[DataW.weights,Tryz.underlying31,e16,List.length_map,List.length_range,show len0+(m-len0)=m by omega]
    simp)
   unfold reachBytes at this
   unfold UNK;omega
  obtain⟨c,el,fz,hheap⟩:∃c el fz,W.heap[b]? =some (.cells c el fz):=by
   unfold World.shape? at hsh
   split at hsh
   ·rename_i c el fz he;exact⟨c,el,fz,he⟩
   ·cases hsh
  obtain⟨f,hf⟩:=choose_lt (α:=Nat×Int) (n:=len0) (p:=fun i k=>k.1<256∧∀j,j<2→c[o+(i*2+j)]? =([.int .u8 k.1, .int .i64 k.2]:List Value)[j]?) (fun i hi=>by
   obtain⟨cs',hc,ht⟩:=hx i (by omega)
   obtain⟨k,hk,hk2⟩:=xL ht
   subst hk
   refine⟨k,hk2,fun j hj=> ?_⟩
   rw[xk]at hc
   obtain⟨_,_,hat⟩:=World.cells?_some hc
   have:=hat j hj
   rw[add_eq,add_eq]at this
   rw[←this,Nat.add_assoc]
   unfold World.cell?
   simp only[hheap]
   rfl)
  by_cases h0:len0=0
  ·subst h0
   exact⟨[], .empty hheap hcapU,fun x hx=>by cases hx⟩
  ·have hlen:((List.range len0).map f).length=len0:=by simp
   refine⟨(List.range len0).map f,?_,fun x hx=> ?_⟩
   ·rw[hlen]
    refine .full hheap h0 (by rw[rj,hlen]) (by omega) hl hcapU (fun j hj=> ?_) (tZ _)
    have h5:j / 2<len0:=by omega
    have e1:j=j / 2*2+j % 2:=by omega
    have g1:=(hf (j / 2) h5).2 (j % 2) (by omega)
    have g2:=AJ (l:=(List.range len0).map f) (i:=j / 2) (k:=f (j / 2)) (j:=j % 2) (by simp[h5]) (by omega)
    rw[←e1]at g1 g2
    rw[g1,g2]
   ·obtain⟨i,hi,rfl⟩:=List.mem_map.1 hx
    exact(hf i (List.mem_range.1 hi)).1
end
end Go.A.Pk
end
section
set_option maxRecDepth 100000
namespace Go.A.Pk
open Go Go.Proofs Go.Joins Go.ChangeShapes Go.WideShapes Go.RowKit Go.Deep
theorem jo.FJ{W:World}{sz n:Nat}{sl:Value}{cs:List Value}(s:jo W sz sl n cs):∃ob:List Ob,(∀μ,∀o∈ob,EJ W μ o)∧∃f:Nat→Value,∀(L:List Ob) (i:Nat),(∀o,ob[0]? =some o→L[i]? =some o)→VR (obM L) (f i) sl∧∃a c,f i= .slice a n c∧aA (obH L) sz (.slice a n c) n cs∧c<UNK:=by
 cases s with
 |nil=>exact⟨[],(fun _ o ho=>by cases ho),fun _=> .slice none 0 0,fun L i _=>⟨.gW _ _,none,0,rfl, .nil,by unfold UNK;omega⟩⟩
 | @empty b o cap c el fz hW hc=>
   refine⟨[⟨[],sz,b,0,0⟩],fun μ o' ho=> ?_,fun i=> .slice (some ⟨8+i,o,none⟩) 0 cap,fun L i hL=> ?_⟩
   ·rw[List.mem_singleton.1 ho]
    exact⟨c,el,fz,hW,Nat.le_refl _,Nat.zero_le _,fun i hi=>by cases hi⟩
   ·have hi:=hL _ rfl
    have hg:(obH L).get (8+i)=some (.cells [] false sz):=by rw[oT,if_pos (by omega),show 8+i-8=i by omega,hi];rfl
    have hm:obM L (8+i)=some ⟨b,0,0,sz⟩:=by unfold obM;rw[if_pos (by omega),show 8+i-8=i by omega,hi];rfl
    have hlt:=(List.getElem?_eq_some_iff.1 hi).1
    refine⟨?_,some ⟨8+i,o,none⟩,cap,rfl, .mem ⟨by show 8+i<8+L.length;omega,⟨[],false,sz,hg,?_⟩,by simp⟩ (Nat.zero_le _),hc⟩
    ·have:=VR.slice (μ:=obM L) (b:=8+i) (o:=o) (l:=0) (c:=cap) (k:=⟨b,0,0,sz⟩) hm hc (Nat.zero_le _)
     simpa using this
    ·rw[cu,List.drop_nil]
     cases 0*sz<;>rfl
 | @full b o cap _ c el fz _ hW hne hlen hsz hl hc hat hno=>
   have hpos:0<n*sz:=Nat.mul_pos (Nat.pos_of_ne_zero hne) hsz
   have hsize:o+n*sz≤c.size:=by
    have h1:=hat (n*sz-1) (by omega)
    have h2:cs[n*sz-1]? =some (cs[n*sz-1]'(by omega)):=List.getElem?_eq_getElem _
    rw[h2]at h1
    have:=(Array.getElem?_eq_some_iff.1 h1).1
    omega
   refine⟨[⟨cs,sz,b,o,o+n*sz⟩],fun μ o' ho=> ?_,fun i=> .slice (some ⟨8+i,0,none⟩) n cap,fun L i hL=> ?_⟩
   ·rw[List.mem_singleton.1 ho]
    refine⟨c,el,fz,hW,by show o+cs.length≤o+n*sz;omega,hsize,fun i hi=> ?_⟩
    have hi':i<cs.length:=hi
    have h2:cs[i]? =some (cs[i]'hi'):=List.getElem?_eq_getElem _
    refine⟨_,(hat i (by omega)).trans h2,?_⟩
    have e:gv cs i=cs[i]'hi':=by unfold gv;rw[cq,h2];rfl
    show VR μ (gv cs i) _
    rw[e]
    exact(VR.cD (hno _ (List.getElem_mem _))).1
   ·have hi:=hL _ rfl
    have hg:(obH L).get (8+i)=some (.cells cs false sz):=by rw[oT,if_pos (by omega),show 8+i-8=i by omega,hi];rfl
    have hm:obM L (8+i)=some ⟨b,o,o+n*sz,sz⟩:=by unfold obM;rw[if_pos (by omega),show 8+i-8=i by omega,hi];rfl
    have hlt:=(List.getElem?_eq_some_iff.1 hi).1
    refine⟨?_,some ⟨8+i,0,none⟩,cap,rfl, .mem ⟨by show 8+i<8+L.length;omega,⟨cs,false,sz,hg,?_⟩,hlen⟩ hl,hc⟩
    ·have:=VR.slice (μ:=obM L) (b:=8+i) (o:=0) (l:=n) (c:=cap) (k:=⟨b,o,o+n*sz,sz⟩) hm hc hl
     simpa using this
    ·rw[dj,cu,List.drop_zero,List.take_of_length_le (by omega)]
inductive oH (W:World):Value→List Int→Prop
 |cells {v r}:jo W 1 v r.length (ints r)→oH W v r
 |Gn {b o s}:oH W (.slice (some ⟨b,o,s⟩) 0 0) []
theorem oH.FJ{W:World}{sl:Value}{r:List Int}(s:oH W sl r):∃ob:List Ob,(∀μ,∀o∈ob,EJ W μ o)∧∃f:Nat→Value,∀(L:List Ob) (i:Nat),(∀k o,ob[k]? =some o→L[i+k]? =some o)→VR (obM L) (f i) sl∧∃a c,f i= .slice a r.length c∧(r≠[]→aA (obH L) 1 (.slice a r.length c) r.length (ints r)):=by
 cases s with
 |cells h=>
  obtain⟨ob,h1,f,h2⟩:=h.FJ
  refine⟨ob,h1,f,fun L i hL=> ?_⟩
  obtain⟨q1,a,c,q2,q3,_⟩:=h2 L i fun o ho=>hL 0 o ho
  exact⟨q1,a,c,q2,fun _=>q3⟩
 | @Gn b o s=>exact⟨[],(fun _ o ho=>by cases ho),fun _=> .slice (some ⟨b,o,some (tP s)⟩) 0 0,fun L i _=>⟨.jw s,_,_,rfl,fun q=>absurd rfl q⟩⟩
theorem uA{W:World}:∀{rows:List (List Int)} {xs:List Value},xs.length=rows.length→(∀(j:Nat) (r:List Int) (x:Value),rows[j]? =some r→xs[j]? =some x→oH W x r)→
 ∃ob:List Ob,(∀μ,∀o∈ob,EJ W μ o)∧∃F:Nat→List Value,(∀i,(F i).length=rows.length)∧∀(L:List Ob) (i:Nat),(∀k o,ob[k]? =some o→L[i+k]? =some o)→
  ∀(j:Nat) (r:List Int) (x:Value),rows[j]? =some r→xs[j]? =some x→VR (obM L) (gv (F i) j) x∧∃a c,bG (F i) j=some (.slice a r.length c)∧(r≠[]→aA (obH L) 1 (.slice a r.length c) r.length (ints r))
 |[],[],_,_=>⟨[],(fun _ o ho=>by cases ho),fun _=>[],fun _=>rfl,fun L i _ j r x hj=>by cases hj⟩
 |[],_::_,h,_=>by simp at h
 |_::_,[],h,_=>by simp at h
 |r::rows,x::xs,h,H=>by
  obtain⟨o1,k1,f,q1⟩:=(H 0 r x rfl rfl).FJ
  obtain⟨o2,k2,F,hF,q2⟩:=uA (rows:=rows) (xs:=xs) (by simpa using h) fun j r x h1 h2=>H (j+1) r x (by simpa using h1) (by simpa using h2)
  refine⟨o1++o2,fun μ o ho=> ?_,fun i=>f i::F (i+o1.length),fun i=>by simp[hF],fun L i hL=> ?_⟩
  ·rcases List.mem_append.1 ho with q|q
   ·exact k1 μ o q
   ·exact k2 μ o q
  ·have h1:=q1 L i fun k o ho=>hL k o (by rw[List.getElem?_append_left ((List.getElem?_eq_some_iff.1 ho).1)];exact ho)
   have h2:=q2 L (i+o1.length) fun k o ho=>by
    have:=hL (o1.length+k) o (by rw[List.getElem?_append_right (by omega),Nat.add_sub_cancel_left];exact ho)
    rw[Nat.add_assoc];exact this
   intro j r' x' hr hx
   cases j with
   |zero=>
    simp only[List.getElem?_cons_zero,Option.some.injEq]at hr hx
    subst hr hx
    obtain⟨p1,a,c,p2,p3⟩:=h1
    exact⟨p1,a,c,by rw[←p2];rfl,p3⟩
   |succ j=>
    rw[List.getElem?_cons_succ]at hr hx
    exact h2 j r' x' hr hx
inductive mA (W:World):Value→List (List Int)→Prop
 |nil:mA W (.slice none 0 0) []
 |empty {b o cap c el fz}:W.heap[b]? =some (.cells c el fz)→cap<UNK→mA W (.slice (some ⟨b,o,none⟩) 0 cap) []
 |full {b o cap c el fz rows}:W.heap[b]? =some (.cells c el fz)→rows≠[]→rows.length≤cap→cap<UNK→(∀j r,rows[j]? =some r→∃x,c[o+j]? =some x∧oH W x r)→mA W (.slice (some ⟨b,o,none⟩) rows.length cap) rows
theorem Kx{W:World}{lv:Value}{rows:List (List Int)}(o1:List Ob)(k1:∀μ,∀o∈o1,EJ W μ o)(h2:mA W lv rows):∃L:List Ob,(∀(k:Nat) (o:Ob),o1[k]? =some o→L[k]? =some o)∧R Tryz.prog (obM L) (obH L) W∧∃v,VR (obM L) v lv∧dO (obH L) v rows:=by
 have hg:Tryz.prog.globals.size≤8:=of_decide_eq_true (by kernel_rfl)
 cases h2 with
 |nil=>exact⟨o1,fun k o ho=>ho,R.obs hg fun o ho=>k1 _ o ho, .slice none 0 0, .gW _ _, .nil⟩
 | @empty b o cap c el fz hW hc=>
   have hi:(o1++[(⟨[],1,b,0,0⟩:Ob)])[o1.length]? =some ⟨[],1,b,0,0⟩:=by rw[List.getElem?_append_right (Nat.le_refl _),Nat.sub_self];rfl
   refine⟨o1++[⟨[],1,b,0,0⟩],fun k x ho=> ?_,R.obs hg fun o' ho=> ?_, .slice (some ⟨8+o1.length,o,none⟩) 0 cap,?_,?_⟩
   ·rw[List.getElem?_append_left ((List.getElem?_eq_some_iff.1 ho).1)];exact ho
   ·rcases List.mem_append.1 ho with q|q
    ·exact k1 _ o' q
    ·rw[List.mem_singleton.1 q]
     exact⟨c,el,fz,hW,Nat.le_refl _,Nat.zero_le _,fun i hi=>by cases hi⟩
   ·have hm:obM (o1++[⟨[],1,b,0,0⟩]) (8+o1.length)=some ⟨b,0,0,1⟩:=by unfold obM;rw[if_pos (by omega),show 8+o1.length-8=o1.length by omega,hi];rfl
    have:=VR.slice (μ:=obM (o1++[⟨[],1,b,0,0⟩])) (b:=8+o1.length) (o:=o) (l:=0) (c:=cap) (k:=⟨b,0,0,1⟩) hm hc (Nat.zero_le _)
    simpa using this
   ·have hgt:(obH (o1++[⟨[],1,b,0,0⟩])).get (8+o1.length)=some (.cells [] false 1):=by rw[oT,if_pos (by omega),show 8+o1.length-8=o1.length by omega,hi];rfl
    exact dO.mem (rows:=[]) hgt (by show 8+o1.length<8+(o1++[_]).length;simp) fun i r hr=>by cases hr
 | @full b o cap c el fz _ hW hne hl hc hat=>
   obtain⟨xs,hxl,hxs⟩:∃xs:List Value,xs.length=rows.length∧∀j,j<rows.length→∃x,xs[j]? =some x∧c[o+j]? =some x:=by
    obtain⟨g,hg⟩:=choose_lt (α:=Value) (n:=rows.length) (p:=fun j x=>c[o+j]? =some x) (fun j hj=>by
     obtain⟨x,hx,_⟩:=hat j _ (List.getElem?_eq_getElem hj)
     exact⟨x,hx⟩)
    exact⟨(List.range rows.length).map g,by simp,fun j hj=>⟨g j,by simp[hj],hg j hj⟩⟩
   have hrow:∀j r x,rows[j]? =some r→xs[j]? =some x→oH W x r:=fun j r x hr hx=>by
    obtain⟨x1,p1,p2⟩:=hxs j (List.getElem?_eq_some_iff.1 hr).1
    obtain⟨x2,p3,p4⟩:=hat j r hr
    rw[hx]at p1
    cases p1
    rw[p2]at p3
    cases p3
    exact p4
   obtain⟨o2,k2,F,hF,q2⟩:=uA hxl hrow
   have hpos:0<rows.length:=List.length_pos_iff.2 hne
   have hsize:o+rows.length≤c.size:=by
    obtain⟨x,_,hx⟩:=hxs (rows.length-1) (by omega)
    have:=(Array.getElem?_eq_some_iff.1 hx).1
    omega
   obtain⟨ou,hou⟩:∃ou:Ob,ou=⟨F o1.length,1,b,o,o+rows.length⟩:=⟨_,rfl⟩
   obtain⟨L,hL⟩:∃L,L=o1++(o2++[ou]):=⟨_,rfl⟩
   have hL1:∀k x,o1[k]? =some x→L[k]? =some x:=fun k x hx=>by rw[hL,List.getElem?_append_left ((List.getElem?_eq_some_iff.1 hx).1)];exact hx
   have hL2:∀k x,o2[k]? =some x→L[o1.length+k]? =some x:=fun k x hx=>by rw[hL,List.getElem?_append_right (by omega),Nat.add_sub_cancel_left,List.getElem?_append_left ((List.getElem?_eq_some_iff.1 hx).1)];exact hx
   have hL3:L[o1.length+o2.length]? =some ou:=by rw[hL,List.getElem?_append_right (by omega),Nat.add_sub_cancel_left,List.getElem?_append_right (by omega),Nat.sub_self];rfl
   have Q:=q2 L o1.length hL2
   have hlt:=(List.getElem?_eq_some_iff.1 hL3).1
   have ho1:ou.vs=F o1.length:=by rw[hou]
   refine⟨L,hL1,R.obs hg fun o' ho=> ?_, .slice (some ⟨8+(o1.length+o2.length),0,none⟩) rows.length cap,?_,?_⟩
   ·rw[hL]at ho
    rcases List.mem_append.1 ho with q|q
    ·exact k1 _ o' q
    ·rcases List.mem_append.1 q with q|q
     ·exact k2 _ o' q
     ·rw[List.mem_singleton.1 q,hou]
      refine⟨c,el,fz,hW,by show o+(F o1.length).length≤o+rows.length;rw[hF];exact Nat.le_refl _,hsize,fun i hi=> ?_⟩
      have hi':i<rows.length:=by have:i<(F o1.length).length:=hi;rw[hF]at this;exact this
      obtain⟨x,hx1,hx2⟩:=hxs i hi'
      exact⟨x,hx2,(Q i _ x (List.getElem?_eq_getElem hi') hx1).1⟩
   ·have hm:obM L (8+(o1.length+o2.length))=some ⟨b,o,o+rows.length,1⟩:=by unfold obM;rw[if_pos (by omega),show 8+(o1.length+o2.length)-8=o1.length+o2.length by omega,hL3,hou];rfl
    have:=VR.slice (μ:=obM L) (b:=8+(o1.length+o2.length)) (o:=0) (l:=rows.length) (c:=cap) (k:=⟨b,o,o+rows.length,1⟩) hm hc hl
    simpa using this
   ·have hgt:(obH L).get (8+(o1.length+o2.length))=some (.cells (F o1.length) false 1):=by rw[oT,if_pos (by omega),show 8+(o1.length+o2.length)-8=o1.length+o2.length by omega,hL3,hou];rfl
    refine .mem hgt (by show 8+(o1.length+o2.length)<8+L.length;omega) fun i r hr=> ?_
    obtain⟨x,hx1,hx2⟩:=hxs i (List.getElem?_eq_some_iff.1 hr).1
    obtain⟨a,c',h3,h4⟩:=(Q i r x hr hx1).2
    exact⟨a,c',by rw[Nat.zero_add];exact h3,h4⟩
theorem Js{W:World}{sz1 sz2 n1 n2:Nat}{s1 s2 lv:Value}{c1 c2:List Value}{rows:List (List Int)}(h1:jo W sz1 s1 n1 c1)(h2:jo W sz2 s2 n2 c2)(h3:mA W lv rows):∃(h:Heap) (μ:Mu),R Tryz.prog μ h W∧(∀b o,h.get b=some o→o.ro=true∨o.live=false)∧Rdy h∧
 (∃a c,VR μ (.slice a n1 c) s1∧aA h sz1 (.slice a n1 c) n1 c1)∧(∃a c,VR μ (.slice a n2 c) s2∧aA h sz2 (.slice a n2 c) n2 c2∧c<UNK)∧∃v,VR μ v lv∧dO h v rows:=by
 obtain⟨o1,k1,f,q1⟩:=h1.FJ
 obtain⟨o2,k2,g,q2⟩:=h2.FJ
 obtain⟨L,hL,hR,Q⟩:=Kx (o1++o2) (fun μ o ho=>(List.mem_append.1 ho).elim (k1 μ o) (k2 μ o)) h3
 obtain⟨p1,a,c,p2,p3,_⟩:=q1 L 0 fun o ho=>hL 0 o (by rw[List.getElem?_append_left ((List.getElem?_eq_some_iff.1 ho).1)];exact ho)
 obtain⟨r1,a2,c2,r2,r3,r4⟩:=q2 L o1.length fun o ho=>hL o1.length o (by rw[List.getElem?_append_right (Nat.le_refl _),Nat.sub_self];exact ho)
 rw[p2]at p1
 rw[r2]at r1
 exact⟨obH L,obM L,hR,Kj,G0 _,⟨a,c,p1,p3⟩,⟨a2,c2,r1,r3,r4⟩,Q⟩
section
variable {H:Type} {enc:TypeId×Value→H} {W:World} {base:Nat} {spare:Nat→Bool} {held:Bool}
theorem HC:Tryz.prog.cellsOf 53=1:=by kernel_rfl
theorem mL{P:Program}{e:TypeId}:∀{l:List (DataW H)} {d:DataW H},d∈l→∀n∈d.weights P e,n∈DataW.weightsAll P e l
 |x::l,d,hd,n,hn=>by
  simp only[DataW.weightsAll,List.mem_append]
  rcases List.mem_cons.1 hd with rfl|hd
  ·exact .inl hn
  ·exact .inr (mL hd n hn)
theorem DO{fuel:Nat}{v:Value}{x:DataW H×List MemPlace}(h:DataW.trod enc Tryz.prog W 0 (fun _=>true) held fuel 53 [v]=some x)(hz:∀n∈x.1.weights Tryz.prog 53,n≤reachBytes):∃r,oH W v r:=by
 rcases open_slice1 Tryz.underlying53 qh h with⟨h2,_⟩|⟨a,len,cap,m,n',V,D,Pl,h2,_,hl,_,hm,hy,hx⟩
 ·cases h2
  exact⟨[], .cells .nil⟩
 ·cases h2
  rw[if_pos rfl]at hm
  subst hm
  have hcapU:m<UNK:=by
   have e8:Tryz.prog.bytesOf 3=8:=by kernel_rfl
   have:=hz (m*8) (by
    rw[hy]
    simp only[DataW.weights,Tryz.underlying53,e8,List.length_map,List.length_range,show len+(m-len)=m by omega]
    simp)
   unfold reachBytes at this
   unfold UNK;omega
  obtain⟨b,o,sp⟩:=a
  by_cases h0:m=0
  ·subst h0
   obtain rfl:len=0:=by omega
   exact⟨[], .Gn⟩
  ·have hc0:=(hx 0 (by omega)).1
   have ha0:(Addr.mk b o sp).add 0=⟨b,o,sp⟩:=rfl
   rw[ha0]at hc0
   unfold World.cell? at hc0
   simp only at hc0
   obtain⟨c,el,fz,hheap⟩:∃c el fz,W.heap[b]? =some (.cells c el fz):=by
    split at hc0
    ·rename_i c el fz he;exact⟨c,el,fz,he⟩
    ·cases hc0
   have hsp:sp=none:=by
    rw[hheap]at hc0
    cases sp with
    |none=>rfl
    |some s=>simp at hc0
   subst hsp
   by_cases hl0:len=0
   ·subst hl0
    exact⟨[], .cells (.empty hheap hcapU)⟩
   ·obtain⟨f,hf⟩:=choose_lt (α:=Int) (n:=len) (p:=fun i k=>c[o+i]? =some (.int .i64 k)) (fun i hi=>by
     obtain⟨hc,ht⟩:=hx i (by omega)
     obtain⟨k,hk,_⟩:=DataW.trod_int Tryz.underlying3 ht
     have hk':V i= .int .i64 k:=by simpa using hk
     refine⟨k,?_⟩
     rw[add_eq,hk']at hc
     unfold World.cell? at hc
     simp only[hheap]at hc
     exact hc)
    have hlen:((List.range len).map f).length=len:=by simp
    refine⟨(List.range len).map f, .cells ?_⟩
    rw[hlen]
    refine .full hheap hl0 (by simp[ints]) (by omega) hl hcapU (fun j hj=> ?_) (fun x hx=>by
     obtain⟨y,_,rfl⟩:=List.mem_map.1 hx
     rfl)
    rw[Nat.mul_one]at hj
    rw[hf j hj]
    simp[ints,hj]
theorem zF{v:Value}{d:DataW H}{p:List MemPlace}(hv:Value.okWide Tryz.prog W .any base 42 v)(h:DataW.Trod enc Tryz.prog W 0 (fun _=>true) held 42 v d p)(hz:∀n∈d.weights Tryz.prog 42,n≤reachBytes):∃rows,mA W v rows:=by
 have hcell:Cell.okWide Tryz.prog W .any base 42 v:=by
  simpa only[Value.okWide,Tryz.underlying42]using hv
 obtain⟨a0,len0,cap0,rfl⟩:=okWide_slice Tryz.underlying42 hv
 obtain⟨fuel,hf⟩:=h
 have hf:DataW.trod enc Tryz.prog W 0 (fun _=>true) held fuel 42 [.slice a0 len0 cap0]=some (d,p):=by simpa[Value.cells]using hf
 rcases open_slice1 Tryz.underlying42 HC hf with⟨h2,_⟩|⟨a,len,cap,m,n',V,D,Pl,h2,_,hl,hcap,hm,hy,hx⟩
 ·cases h2
  exact⟨[], .nil⟩
 ·cases h2
  simp only[Cell.okWide,Cell.ok,Tryz.underlying42,World.has]at hcell
  obtain⟨_,_,_,hspot,row,cells,hsh,_⟩:=hcell
  obtain⟨b,o,sp⟩:=a
  simp only at hspot hsh
  subst hspot
  rw[if_pos rfl]at hm
  subst hm
  have hd:d=(.slice ((List.range len0).map D) ((List.range (m-len0)).map fun j=>D (len0+j))):=congrArg Prod.fst hy
  have e24:Tryz.prog.bytesOf 53=24:=by kernel_rfl
  have hw:∀n,n=m*24∨n∈DataW.weightsAll Tryz.prog 53 ((List.range len0).map D)→n≤reachBytes:=fun n hn=>by
   refine hz n ?_
   rw[hd]
   simp only[DataW.weights,Tryz.underlying42,e24,List.length_map,List.length_range,show len0+(m-len0)=m by omega,List.mem_cons,List.mem_append]
   exact hn.imp id .inl
  have hcapU:m<UNK:=by
   have:=hw (m*24) (.inl rfl)
   unfold reachBytes at this
   unfold UNK;omega
  obtain⟨c,el,fz,hheap⟩:∃c el fz,W.heap[b]? =some (.cells c el fz):=by
   unfold World.shape? at hsh
   split at hsh
   ·rename_i c el fz he;exact⟨c,el,fz,he⟩
   ·cases hsh
  by_cases h0:len0=0
  ·subst h0
   exact⟨[], .empty hheap hcapU⟩
  ·obtain⟨f,hf⟩:=choose_lt (α:=List Int) (n:=len0) (p:=fun i r=>∃x,c[o+i]? =some x∧oH W x r) (fun i hi=>by
    obtain⟨hc,ht⟩:=hx i (by omega)
    obtain⟨r,hr⟩:=DO ht fun n hn=>hw n (.inr (mL (List.mem_map.2 ⟨i,List.mem_range.2 hi,rfl⟩) n hn))
    rw[add_eq]at hc
    unfold World.cell? at hc
    simp only[hheap]at hc
    exact⟨r,V i,hc,hr⟩)
   have hlen:((List.range len0).map f).length=len0:=by simp
   refine⟨(List.range len0).map f,?_⟩
   have:=mA.full (W:=W) (o:=o) (cap:=m) (rows:=(List.range len0).map f) hheap (by intro e;rw[e]at hlen;simp at hlen;omega) (by omega) hcapU (fun j r hr=>by
    have hj:=(List.getElem?_eq_some_iff.1 hr).1
    rw[hlen]at hj
    have e:r=f j:=by simpa[hj]using hr.symm
    rw[e]
    exact hf j hj)
   rw[hlen]at this
   exact this
end
end Go.A.Pk
end
section
set_option maxRecDepth 100000
open Go Go.A Go.Proofs Go.RowKit
namespace Go.A.Pk
theorem c13:bB Tryz.prog Tryz.f13 [[1,2,3,4,5],[1,2,3,4,5,41],[10],[1,2,3,4,5,11,12],[1,2,3,4,5,11,12,13,14],[1,2,3,4,5,11,12,13,14,15,16],[1,2,4,5,11,12,13,14,15,16,17,18,19],[1,2,4,5,11,12,13,14,15,16,17,18,19,20,21],[1,2,4,5,11,12,13,15,17,18,20,98],[10],[1,2,4,5,11,13,15,17,18,20,100],[10],[1,2,4,5,11,15,17,18,20,22,23,24],[1,2,4,11,15,17,18,20,22,23,24,25,26],[1,2,4,15,17,18,20,186],[10],[1,2,4,15,17,18,188],[10],[1,2,4,15,17,18,27],[1,2,4,15,17,18,27,192],[1,2,4,15,17,18,27,28],[1,2,4,15,17,18,27,28,197],[1,2,4,15,17,18,27,28,214],[10],[1,2,4,15,17,18,27,28],[1,2,4,15,17,18,27],[10]]=some f13:=by kernel_rfl
theorem c36:bB Tryz.prog Tryz.f36 [[1,2,3],[1,2,8,9],[1,2,8,9,20],[6,7],[6,7]]=some f36:=by kernel_rfl
theorem c56:bB Tryz.prog Tryz.f56 [[1,4,6,7,8,9],[1,6,7,8,9,10,11],[1,6,7,8,9,10,11,29],[8,9],[1,6,7,8,9,10,39],[8,9],[1,6,7,8,9,10,12],[7,8,9,10,12,43],[7,8,9,10,12,13],[8,9,10,12,13],[8,9,10,12,13,14],[8,9,10,12,13,14,64],[10,12,13,14,15],[],[8,9,10,12,13,14,83],[10,12,13,14,16],[12,13,14,17,18],[],[8,9,107],[],[8,9]]=some f56:=by kernel_rfl
theorem Mr:bB Tryz.prog Tryz.f110 [[0,1],[4]]=some f110:=by kernel_rfl
theorem Mq:bB Tryz.prog Tryz.f111 [[0,1],[3]]=some f111:=by kernel_rfl
theorem MN:bB Tryz.prog Tryz.f146 [[0,1],[0,1,7,8],[0,1,7,8,9],[0,1,5,7,8],[0,1,5,7,8,16],[4],[0,1,7,8],[4]]=some f146:=by kernel_rfl
def yw:Tr:=(.node (.node (.node (.node (.node (.node .nil 13 f13 .nil) 18 f18 .nil) 19 (.jd (vh (.bool true))) (.node (.node .nil 32 f32 .nil) 34 f34 .nil)) 36 f36 (.node (.node (.node .nil 50 f50 .nil) 56 f56 .nil) 66 f66 (.node (.node .nil 75 f75 .nil) 76 f76 .nil))) 77 f77 (.node (.node (.node (.node .nil 83 f83 .nil) 84 f84 .nil) 94 f94 (.node (.node .nil 96 f96 .nil) 97 f97 .nil)) 104 f104 (.node (.node (.node .nil 105 f105 .nil) 106 f106 .nil) 109 f109 (.node (.node .nil 110 f110 .nil) 111 f111 .nil)))) 113 f113 (.node (.node (.node (.node (.node .nil 117 f117 .nil) 118 f118 .nil) 119 f119 (.node (.node .nil 122 f122 .nil) 125 f125 .nil)) 126 f126 (.node (.node (.node .nil 136 f136 .nil) 140 f140 .nil) 141 f141 (.node (.node .nil 142 f142 .nil) 143 f143 .nil))) 144 f144 (.node (.node (.node (.node .nil 145 f145 .nil) 146 f146 .nil) 147 f147 (.node (.node .nil 149 f149 .nil) 150 f150 .nil)) 169 f169 (.node (.node (.node .nil 170 f170 .nil) 171 f171 .nil) 172 f172 (.node (.node .nil 173 f173 .nil) 176 f176 .nil)))))
def T13:Nat→Option ah:=yw.get
theorem Lv:yw.all (Entry Tryz.prog):=by
 unfold yw
 exact(Tr.au (Tr.au (Tr.au (Tr.au (Tr.au (Tr.au Tr.all_nil (.of Tryz.func13 c13) Tr.all_nil) (.of Tryz.func18 c18) Tr.all_nil) MK (Tr.au (Tr.au Tr.all_nil (.of Tryz.func32 c32) Tr.all_nil) (.of Tryz.func34 c34) Tr.all_nil)) (.of Tryz.func36 c36) (Tr.au (Tr.au (Tr.au Tr.all_nil (.of Tryz.func50 c50) Tr.all_nil) (.of Tryz.func56 c56) Tr.all_nil) (.of Tryz.func66 c66) (Tr.au (Tr.au Tr.all_nil (.of Tryz.func75 c75) Tr.all_nil) (.of Tryz.func76 c76) Tr.all_nil))) (.of Tryz.func77 c77) (Tr.au (Tr.au (Tr.au (Tr.au Tr.all_nil (.of Tryz.func83 c83) Tr.all_nil) (.of Tryz.func84 c84) Tr.all_nil) (.of Tryz.func94 c94) (Tr.au (Tr.au Tr.all_nil (.of Tryz.func96 c96) Tr.all_nil) (.of Tryz.func97 c97) Tr.all_nil)) (.of Tryz.func104 Lq) (Tr.au (Tr.au (Tr.au Tr.all_nil (.of Tryz.func105 Le) Tr.all_nil) (.of Tryz.func106 K7) Tr.all_nil) (.of Tryz.func109 KA) (Tr.au (Tr.au Tr.all_nil (.of Tryz.func110 Mr) Tr.all_nil) (.of Tryz.func111 Mq) Tr.all_nil)))) (.of Tryz.func113 Mg) (Tr.au (Tr.au (Tr.au (Tr.au (Tr.au Tr.all_nil (.of Tryz.func117 w9) Tr.all_nil) (.of Tryz.func118 xT) Tr.all_nil) (.of Tryz.func119 Ly) (Tr.au (Tr.au Tr.all_nil (.of Tryz.func122 Lo) Tr.all_nil) (.of Tryz.func125 LV) Tr.all_nil)) (.of Tryz.func126 LC) (Tr.au (Tr.au (Tr.au Tr.all_nil (.of Tryz.func136 LS) Tr.all_nil) (.of Tryz.func140 LK) Tr.all_nil) (.of Tryz.func141 Lw) (Tr.au (Tr.au Tr.all_nil (.of Tryz.func142 LU) Tr.all_nil) (.of Tryz.func143 Lu) Tr.all_nil))) (.of Tryz.func144 KW) (Tr.au (Tr.au (Tr.au (Tr.au Tr.all_nil (.of Tryz.func145 Ls) Tr.all_nil) (.of Tryz.func146 MN) Tr.all_nil) (.of Tryz.func147 Lb) (Tr.au (Tr.au Tr.all_nil (.of Tryz.func149 KG) Tr.all_nil) (.of Tryz.func150 KI) Tr.all_nil)) (.of Tryz.func169 MI) (Tr.au (Tr.au (Tr.au Tr.all_nil (.of Tryz.func170 LI) Tr.all_nil) (.of Tryz.func171 MJ) Tr.all_nil) (.of Tryz.func172 LY) (Tr.au (Tr.au Tr.all_nil (.of Tryz.func173 Me) Tr.all_nil) (.of Tryz.func176 Lr) Tr.all_nil)))))
theorem Ah:eK Tryz.prog T13:=uE (by kernel_rfl) Lv
theorem HZ{h:Heap}:Pu T13 19 [] h (.bool true):= .jd (p:=vh (.bool true)) (by kernel_rfl) rfl ⟨rfl,rfl⟩
theorem Lj:IL T13:={p:=Ah.bC,f77:=by kernel_rfl,f117:=by kernel_rfl,f119:=by kernel_rfl,f147:=by kernel_rfl,f118:=by kernel_rfl,f66:=by kernel_rfl,f18:=by kernel_rfl,f97:=by kernel_rfl,f122:=by kernel_rfl,f149:=by kernel_rfl,f75:=by kernel_rfl,f96:=by kernel_rfl,f113:=by kernel_rfl,f94:=by kernel_rfl,f104:=by kernel_rfl,f105:=by kernel_rfl,f106:=by kernel_rfl,f136:=by kernel_rfl,f140:=by kernel_rfl,f141:=by kernel_rfl,f83:=by kernel_rfl,f76:=by kernel_rfl,f32:=by kernel_rfl,f126:=by kernel_rfl,f150:=by kernel_rfl,f176:=by kernel_rfl,f125:=by kernel_rfl,f84:=by kernel_rfl,f36:=by kernel_rfl,f34:=by kernel_rfl,f143:=by kernel_rfl,f145:=by kernel_rfl,f169:=by kernel_rfl,f170:=by kernel_rfl,f171:=by kernel_rfl,f172:=by kernel_rfl,f173:=by kernel_rfl,f144:=by kernel_rfl,f109:=by kernel_rfl,f142:=by kernel_rfl,f50:=by kernel_rfl,f110:=by kernel_rfl,f111:=by kernel_rfl,f146:=by kernel_rfl,f56:=by kernel_rfl,f13:=by kernel_rfl,c19:=fun _=>HZ}
theorem y9{W:World}{sl:Value}{l:List Kd}(hk:kz W sl l)(kerf:Int)(i1:Int)(i2:Int){nl:Value}{ns:List (Nat×Int)}(hn:Af W nl ns){lv:Value}{rows:List (List Int)}(hl:mA W lv rows):Calls Tryz.prog 13 #[.agg #[sl, .int .i64 kerf], .int .i64 i1, .int .i64 i2,nl,lv] W fun e W'=>e= .returned (.bool true)∧Below W.heap.size W W':=by
 obtain⟨h,μ,hR,hro,hrd,⟨a,c,hu,hs⟩,⟨a2,c2,hu2,hns,hc2⟩,⟨v2,hu3,hv2⟩⟩:=Js hk.cells hn.1 hl
 obtain⟨r,h',⟨m,hm⟩,rfl,rfl⟩:=LF Lj hrd hs kerf i1 i2 hns (fun b o n e=>by cases e;exact absurd hc2 (Nat.lt_irrefl _)) (.inl hc2) hn.2 hv2
 have hrun:=hm m (Nat.le_refl _)
 have ha:LR μ [.agg #[.slice a l.length c, .int .i64 kerf], .int .i64 i1, .int .i64 i2, .slice a2 ns.length c2,v2] [.agg #[sl, .int .i64 kerf], .int .i64 i1, .int .i64 i2,nl,lv]:=
  .cons (VR.BP (.cons hu (.cons (.int _ _) .nil))) (.cons (.int _ _) (.cons (.int _ _) (.cons hu2 (.cons hu3 .nil))))
 refine(qG Ah hrun hrd.log (by kernel_rfl) hR ha).mono fun e W' hq=> ?_
 obtain⟨μ',q1,q2,q3⟩:=hq
 cases e with
 |returned v'=>
  have hv:VR μ' (.bool true) v':=q1
  cases hv
  exact⟨rfl,St.below q3 hro⟩
 |panicked _=>exact q1.elim
 |outgrown=>exact q1.elim
end Go.A.Pk
end
