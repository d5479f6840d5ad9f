/- Walks of functions, plain laws, the table. -/
import Derived.Test.YteafdpbjocdbbaaGreatDoorGU4
import Derived.Test.YteafdpbjocdbbaaGreatDoorGU2
import Derived.Test.YteafdpbjocdbbaaGreatDoorGH
import Derived.Test.YteafdpbjocdbbaaGreatDoorGT
import Derived.Test.YteafdpbjocdbbaaGreatDoorGD
set_option linter.all false
section
set_option maxRecDepth 100000
namespace Go.A.Pk
open Go Go.Proofs Go.Joins Go.ChangeShapes Go.WideShapes Go.RowKit Go.Deep
theorem CellsAt.layF{W:World}{sz n:Nat}{sl:Value}{cs:List Value}(s:CellsAt W sz sl n cs):∃ob:List Ob,(∀μ,∀o∈ob,ObOk W μ o)∧∃f:Nat→Value,∀(L:List Ob) (i:Nat),(∀o,ob[0]? =some o→L[i]? =some o)→VR (obM L) (f i) sl∧∃a c,f i= .slice a n c∧SliceOf (obH L) sz (.slice a n c) n cs∧c<UNK:=by
 cases s with
 |nil=>exact⟨[],(fun _ o ho=>by cases ho),fun _=> .slice none 0 0,fun L i _=>⟨.sliceN _ _,none,0,rfl, .nil,by unfold UNK;omega⟩⟩
 | @empty b o cap c el fz hW hc=>
   refine⟨[⟨[],sz,b,0,0⟩],fun μ o' ho=> ?_,fun i=> .slice (some ⟨8+i,o,none⟩) 0 cap,fun L i hL=> ?_⟩
   ·rw[List.mem_singleton.1 ho]
    exact⟨c,el,fz,hW,Nat.le_refl _,Nat.zero_le _,fun i hi=>by cases hi⟩
   ·have hi:=hL _ rfl
    have hg:(obH L).get (8+i)=some (.cells [] false sz):=by rw[obH_get,if_pos (by omega),show 8+i-8=i by omega,hi];rfl
    have hm:obM L (8+i)=some ⟨b,0,0,sz⟩:=by unfold obM;rw[if_pos (by omega),show 8+i-8=i by omega,hi];rfl
    have hlt:=(List.getElem?_eq_some_iff.1 hi).1
    refine⟨?_,some ⟨8+i,o,none⟩,cap,rfl, .mem ⟨by show 8+i<8+L.length;omega,⟨[],false,sz,hg,?_⟩,by simp⟩ (Nat.zero_le _),hc⟩
    ·have:=VR.slice (μ:=obM L) (b:=8+i) (o:=o) (l:=0) (c:=cap) (k:=⟨b,0,0,sz⟩) hm hc (Nat.zero_le _)
     simpa using this
    ·rw[ldrop_eq,List.drop_nil]
     cases 0*sz<;>rfl
 | @full b o cap _ c el fz _ hW hne hlen hsz hl hc hat hno=>
   have hpos:0<n*sz:=Nat.mul_pos (Nat.pos_of_ne_zero hne) hsz
   have hsize:o+n*sz≤c.size:=by
    have h1:=hat (n*sz-1) (by omega)
    have h2:cs[n*sz-1]? =some (cs[n*sz-1]'(by omega)):=List.getElem?_eq_getElem _
    rw[h2]at h1
    have:=(Array.getElem?_eq_some_iff.1 h1).1
    omega
   refine⟨[⟨cs,sz,b,o,o+n*sz⟩],fun μ o' ho=> ?_,fun i=> .slice (some ⟨8+i,0,none⟩) n cap,fun L i hL=> ?_⟩
   ·rw[List.mem_singleton.1 ho]
    refine⟨c,el,fz,hW,by show o+cs.length≤o+n*sz;omega,hsize,fun i hi=> ?_⟩
    have hi':i<cs.length:=hi
    have h2:cs[i]? =some (cs[i]'hi'):=List.getElem?_eq_getElem _
    refine⟨_,(hat i (by omega)).trans h2,?_⟩
    have e:gv cs i=cs[i]'hi':=by unfold gv;rw[lget_eq,h2];rfl
    show VR μ (gv cs i) _
    rw[e]
    exact(VR.noRef (hno _ (List.getElem_mem _))).1
   ·have hi:=hL _ rfl
    have hg:(obH L).get (8+i)=some (.cells cs false sz):=by rw[obH_get,if_pos (by omega),show 8+i-8=i by omega,hi];rfl
    have hm:obM L (8+i)=some ⟨b,o,o+n*sz,sz⟩:=by unfold obM;rw[if_pos (by omega),show 8+i-8=i by omega,hi];rfl
    have hlt:=(List.getElem?_eq_some_iff.1 hi).1
    refine⟨?_,some ⟨8+i,0,none⟩,cap,rfl, .mem ⟨by show 8+i<8+L.length;omega,⟨cs,false,sz,hg,?_⟩,hlen⟩ hl,hc⟩
    ·have:=VR.slice (μ:=obM L) (b:=8+i) (o:=0) (l:=n) (c:=cap) (k:=⟨b,o,o+n*sz,sz⟩) hm hc hl
     simpa using this
    ·rw[ltake_eq,ldrop_eq,List.drop_zero,List.take_of_length_le (by omega)]
inductive RowAt (W:World):Value→List Int→Prop
 |cells {v r}:CellsAt W 1 v r.length (ints r)→RowAt W v r
 |junk {b o s}:RowAt W (.slice (some ⟨b,o,s⟩) 0 0) []
theorem RowAt.layF{W:World}{sl:Value}{r:List Int}(s:RowAt W sl r):∃ob:List Ob,(∀μ,∀o∈ob,ObOk W μ o)∧∃f:Nat→Value,∀(L:List Ob) (i:Nat),(∀k o,ob[k]? =some o→L[i+k]? =some o)→VR (obM L) (f i) sl∧∃a c,f i= .slice a r.length c∧(r≠[]→SliceOf (obH L) 1 (.slice a r.length c) r.length (ints r)):=by
 cases s with
 |cells h=>
  obtain⟨ob,h1,f,h2⟩:=h.layF
  refine⟨ob,h1,f,fun L i hL=> ?_⟩
  obtain⟨q1,a,c,q2,q3,_⟩:=h2 L i fun o ho=>hL 0 o ho
  exact⟨q1,a,c,q2,fun _=>q3⟩
 | @junk b o s=>exact⟨[],(fun _ o ho=>by cases ho),fun _=> .slice (some ⟨b,o,some (spotJ s)⟩) 0 0,fun L i _=>⟨.sliceJ s,_,_,rfl,fun q=>absurd rfl q⟩⟩
theorem rows_layF{W:World}:∀{rows:List (List Int)} {xs:List Value},xs.length=rows.length→(∀(j:Nat) (r:List Int) (x:Value),rows[j]? =some r→xs[j]? =some x→RowAt W x r)→
 ∃ob:List Ob,(∀μ,∀o∈ob,ObOk W μ o)∧∃F:Nat→List Value,(∀i,(F i).length=rows.length)∧∀(L:List Ob) (i:Nat),(∀k o,ob[k]? =some o→L[i+k]? =some o)→
  ∀(j:Nat) (r:List Int) (x:Value),rows[j]? =some r→xs[j]? =some x→VR (obM L) (gv (F i) j) x∧∃a c,lget (F i) j=some (.slice a r.length c)∧(r≠[]→SliceOf (obH L) 1 (.slice a r.length c) r.length (ints r))
 |[],[],_,_=>⟨[],(fun _ o ho=>by cases ho),fun _=>[],fun _=>rfl,fun L i _ j r x hj=>by cases hj⟩
 |[],_::_,h,_=>by simp at h
 |_::_,[],h,_=>by simp at h
 |r::rows,x::xs,h,H=>by
  obtain⟨o1,k1,f,q1⟩:=(H 0 r x rfl rfl).layF
  obtain⟨o2,k2,F,hF,q2⟩:=rows_layF (rows:=rows) (xs:=xs) (by simpa using h) fun j r x h1 h2=>H (j+1) r x (by simpa using h1) (by simpa using h2)
  refine⟨o1++o2,fun μ o ho=> ?_,fun i=>f i::F (i+o1.length),fun i=>by simp[hF],fun L i hL=> ?_⟩
  ·rcases List.mem_append.1 ho with q|q
   ·exact k1 μ o q
   ·exact k2 μ o q
  ·have h1:=q1 L i fun k o ho=>hL k o (by rw[List.getElem?_append_left ((List.getElem?_eq_some_iff.1 ho).1)];exact ho)
   have h2:=q2 L (i+o1.length) fun k o ho=>by
    have:=hL (o1.length+k) o (by rw[List.getElem?_append_right (by omega),Nat.add_sub_cancel_left];exact ho)
    rw[Nat.add_assoc];exact this
   intro j r' x' hr hx
   cases j with
   |zero=>
    simp only[List.getElem?_cons_zero,Option.some.injEq]at hr hx
    subst hr hx
    obtain⟨p1,a,c,p2,p3⟩:=h1
    exact⟨p1,a,c,by rw[←p2];rfl,p3⟩
   |succ j=>
    rw[List.getElem?_cons_succ]at hr hx
    exact h2 j r' x' hr hx
inductive RowsAt (W:World):Value→List (List Int)→Prop
 |nil:RowsAt W (.slice none 0 0) []
 |empty {b o cap c el fz}:W.heap[b]? =some (.cells c el fz)→cap<UNK→RowsAt W (.slice (some ⟨b,o,none⟩) 0 cap) []
 |full {b o cap c el fz rows}:W.heap[b]? =some (.cells c el fz)→rows≠[]→rows.length≤cap→cap<UNK→(∀j r,rows[j]? =some r→∃x,c[o+j]? =some x∧RowAt W x r)→RowsAt W (.slice (some ⟨b,o,none⟩) rows.length cap) rows
theorem laidP{W:World}{lv:Value}{rows:List (List Int)}(o1:List Ob)(k1:∀μ,∀o∈o1,ObOk W μ o)(h2:RowsAt W lv rows):∃L:List Ob,(∀(k:Nat) (o:Ob),o1[k]? =some o→L[k]? =some o)∧R Tryz.prog (obM L) (obH L) W∧∃v,VR (obM L) v lv∧ListsW (obH L) v rows:=by
 have hg:Tryz.prog.globals.size≤8:=of_decide_eq_true (by kernel_rfl)
 cases h2 with
 |nil=>exact⟨o1,fun k o ho=>ho,R.obs hg fun o ho=>k1 _ o ho, .slice none 0 0, .sliceN _ _, .nil⟩
 | @empty b o cap c el fz hW hc=>
   have hi:(o1++[(⟨[],1,b,0,0⟩:Ob)])[o1.length]? =some ⟨[],1,b,0,0⟩:=by rw[List.getElem?_append_right (Nat.le_refl _),Nat.sub_self];rfl
   refine⟨o1++[⟨[],1,b,0,0⟩],fun k x ho=> ?_,R.obs hg fun o' ho=> ?_, .slice (some ⟨8+o1.length,o,none⟩) 0 cap,?_,?_⟩
   ·rw[List.getElem?_append_left ((List.getElem?_eq_some_iff.1 ho).1)];exact ho
   ·rcases List.mem_append.1 ho with q|q
    ·exact k1 _ o' q
    ·rw[List.mem_singleton.1 q]
     exact⟨c,el,fz,hW,Nat.le_refl _,Nat.zero_le _,fun i hi=>by cases hi⟩
   ·have hm:obM (o1++[⟨[],1,b,0,0⟩]) (8+o1.length)=some ⟨b,0,0,1⟩:=by unfold obM;rw[if_pos (by omega),show 8+o1.length-8=o1.length by omega,hi];rfl
    have:=VR.slice (μ:=obM (o1++[⟨[],1,b,0,0⟩])) (b:=8+o1.length) (o:=o) (l:=0) (c:=cap) (k:=⟨b,0,0,1⟩) hm hc (Nat.zero_le _)
    simpa using this
   ·have hgt:(obH (o1++[⟨[],1,b,0,0⟩])).get (8+o1.length)=some (.cells [] false 1):=by rw[obH_get,if_pos (by omega),show 8+o1.length-8=o1.length by omega,hi];rfl
    exact ListsW.mem (rows:=[]) hgt (by show 8+o1.length<8+(o1++[_]).length;simp) fun i r hr=>by cases hr
 | @full b o cap c el fz _ hW hne hl hc hat=>
   obtain⟨xs,hxl,hxs⟩:∃xs:List Value,xs.length=rows.length∧∀j,j<rows.length→∃x,xs[j]? =some x∧c[o+j]? =some x:=by
    obtain⟨g,hg⟩:=choose_lt (α:=Value) (n:=rows.length) (p:=fun j x=>c[o+j]? =some x) (fun j hj=>by
     obtain⟨x,hx,_⟩:=hat j _ (List.getElem?_eq_getElem hj)
     exact⟨x,hx⟩)
    exact⟨(List.range rows.length).map g,by simp,fun j hj=>⟨g j,by simp[hj],hg j hj⟩⟩
   have hrow:∀j r x,rows[j]? =some r→xs[j]? =some x→RowAt W x r:=fun j r x hr hx=>by
    obtain⟨x1,p1,p2⟩:=hxs j (List.getElem?_eq_some_iff.1 hr).1
    obtain⟨x2,p3,p4⟩:=hat j r hr
    rw[hx]at p1
    cases p1
    rw[p2]at p3
    cases p3
    exact p4
   obtain⟨o2,k2,F,hF,q2⟩:=rows_layF hxl hrow
   have hpos:0<rows.length:=List.length_pos_iff.2 hne
   have hsize:o+rows.length≤c.size:=by
    obtain⟨x,_,hx⟩:=hxs (rows.length-1) (by omega)
    have:=(Array.getElem?_eq_some_iff.1 hx).1
    omega
   obtain⟨ou,hou⟩:∃ou:Ob,ou=⟨F o1.length,1,b,o,o+rows.length⟩:=⟨_,rfl⟩
   obtain⟨L,hL⟩:∃L,L=o1++(o2++[ou]):=⟨_,rfl⟩
   have hL1:∀k x,o1[k]? =some x→L[k]? =some x:=fun k x hx=>by rw[hL,List.getElem?_append_left ((List.getElem?_eq_some_iff.1 hx).1)];exact hx
   have hL2:∀k x,o2[k]? =some x→L[o1.length+k]? =some x:=fun k x hx=>by rw[hL,List.getElem?_append_right (by omega),Nat.add_sub_cancel_left,List.getElem?_append_left ((List.getElem?_eq_some_iff.1 hx).1)];exact hx
   have hL3:L[o1.length+o2.length]? =some ou:=by rw[hL,List.getElem?_append_right (by omega),Nat.add_sub_cancel_left,List.getElem?_append_right (by omega),Nat.sub_self];rfl
   have Q:=q2 L o1.length hL2
   have hlt:=(List.getElem?_eq_some_iff.1 hL3).1
   have ho1:ou.vs=F o1.length:=by rw[hou]
   refine⟨L,hL1,R.obs hg fun o' ho=> ?_, .slice (some ⟨8+(o1.length+o2.length),0,none⟩) rows.length cap,?_,?_⟩
   ·rw[hL]at ho
    rcases List.mem_append.1 ho with q|q
    ·exact k1 _ o' q
    ·rcases List.mem_append.1 q with q|q
     ·exact k2 _ o' q
     ·rw[List.mem_singleton.1 q,hou]
      refine⟨c,el,fz,hW,by show o+(F o1.length).length≤o+rows.length;rw[hF];exact Nat.le_refl _,hsize,fun i hi=> ?_⟩
      have hi':i<rows.length:=by have:i<(F o1.length).length:=hi;rw[hF]at this;exact this
      obtain⟨x,hx1,hx2⟩:=hxs i hi'
      exact⟨x,hx2,(Q i _ x (List.getElem?_eq_getElem hi') hx1).1⟩
   ·have hm:obM L (8+(o1.length+o2.length))=some ⟨b,o,o+rows.length,1⟩:=by unfold obM;rw[if_pos (by omega),show 8+(o1.length+o2.length)-8=o1.length+o2.length by omega,hL3,hou];rfl
    have:=VR.slice (μ:=obM L) (b:=8+(o1.length+o2.length)) (o:=0) (l:=rows.length) (c:=cap) (k:=⟨b,o,o+rows.length,1⟩) hm hc hl
    simpa using this
   ·have hgt:(obH L).get (8+(o1.length+o2.length))=some (.cells (F o1.length) false 1):=by rw[obH_get,if_pos (by omega),show 8+(o1.length+o2.length)-8=o1.length+o2.length by omega,hL3,hou];rfl
    refine .mem hgt (by show 8+(o1.length+o2.length)<8+L.length;omega) fun i r hr=> ?_
    obtain⟨x,hx1,hx2⟩:=hxs i (List.getElem?_eq_some_iff.1 hr).1
    obtain⟨a,c',h3,h4⟩:=(Q i r x hr hx1).2
    exact⟨a,c',by rw[Nat.zero_add];exact h3,h4⟩
theorem laidL{W:World}{sz1 n1:Nat}{s1 lv:Value}{c1:List Value}{rows:List (List Int)}(h1:CellsAt W sz1 s1 n1 c1)(h2:RowsAt W lv rows):∃(h:Heap) (μ:Mu),R Tryz.prog μ h W∧(∀b o,h.get b=some o→o.ro=true∨o.live=false)∧Rdy h∧
 (∃a c,VR μ (.slice a n1 c) s1∧SliceOf h sz1 (.slice a n1 c) n1 c1)∧∃v,VR μ v lv∧ListsW h v rows:=by
 obtain⟨o1,k1,f,q1⟩:=h1.layF
 obtain⟨L,hL,hR,Q⟩:=laidP o1 k1 h2
 obtain⟨p1,a,c,p2,p3,_⟩:=q1 L 0 fun o ho=>hL 0 o ho
 rw[p2]at p1
 exact⟨obH L,obM L,hR,obH_ro,obH_rdy _,⟨a,c,p1,p3⟩,Q⟩
section
variable {H:Type} {enc:TypeId×Value→H} {W:World} {base:Nat} {spare:Nat→Bool} {held:Bool}
theorem cells53:Tryz.prog.cellsOf 53=1:=by kernel_rfl
theorem weightsAll_mem{P:Program}{e:TypeId}:∀{l:List (DataW H)} {d:DataW H},d∈l→∀n∈d.weights P e,n∈DataW.weightsAll P e l
 |x::l,d,hd,n,hn=>by
  simp only[DataW.weightsAll,List.mem_append]
  rcases List.mem_cons.1 hd with rfl|hd
  ·exact .inl hn
  ·exact .inr (weightsAll_mem hd n hn)
theorem row_cell{fuel:Nat}{v:Value}{x:DataW H×List MemPlace}(h:DataW.trod enc Tryz.prog W 0 (fun _=>true) held fuel 53 [v]=some x)(hz:∀n∈x.1.weights Tryz.prog 53,n≤reachBytes):∃r,RowAt W v r:=by
 rcases open_slice1 Tryz.underlying53 cells3 h with⟨h2,_⟩|⟨a,len,cap,m,n',V,D,Pl,h2,_,hl,_,hm,hy,hx⟩
 ·cases h2
  exact⟨[], .cells .nil⟩
 ·cases h2
  rw[if_pos rfl]at hm
  subst hm
  have hcapU:m<UNK:=by
   have e8:Tryz.prog.bytesOf 3=8:=by kernel_rfl
   have:=hz (m*8) (by
    rw[hy]
    simp only[DataW.weights,Tryz.underlying53,e8,List.length_map,List.length_range,show len+(m-len)=m by omega]
    simp)
   unfold reachBytes at this
   unfold UNK;omega
  obtain⟨b,o,sp⟩:=a
  by_cases h0:m=0
  ·subst h0
   obtain rfl:len=0:=by omega
   exact⟨[], .junk⟩
  ·have hc0:=(hx 0 (by omega)).1
   have ha0:(Addr.mk b o sp).add 0=⟨b,o,sp⟩:=rfl
   rw[ha0]at hc0
   unfold World.cell? at hc0
   simp only at hc0
   obtain⟨c,el,fz,hheap⟩:∃c el fz,W.heap[b]? =some (.cells c el fz):=by
    split at hc0
    ·rename_i c el fz he;exact⟨c,el,fz,he⟩
    ·cases hc0
   have hsp:sp=none:=by
    rw[hheap]at hc0
    cases sp with
    |none=>rfl
    |some s=>simp at hc0
   subst hsp
   by_cases hl0:len=0
   ·subst hl0
    exact⟨[], .cells (.empty hheap hcapU)⟩
   ·obtain⟨f,hf⟩:=choose_lt (α:=Int) (n:=len) (p:=fun i k=>c[o+i]? =some (.int .i64 k)) (fun i hi=>by
     obtain⟨hc,ht⟩:=hx i (by omega)
     obtain⟨k,hk,_⟩:=DataW.trod_int Tryz.underlying3 ht
     have hk':V i= .int .i64 k:=by simpa using hk
     refine⟨k,?_⟩
     rw[add_eq,hk']at hc
     unfold World.cell? at hc
     simp only[hheap]at hc
     exact hc)
    have hlen:((List.range len).map f).length=len:=by simp
    refine⟨(List.range len).map f, .cells ?_⟩
    rw[hlen]
    refine .full hheap hl0 (by simp[ints]) (by omega) hl hcapU (fun j hj=> ?_) (fun x hx=>by
     obtain⟨y,_,rfl⟩:=List.mem_map.1 hx
     rfl)
    rw[Nat.mul_one]at hj
    rw[hf j hj]
    simp[ints,hj]
theorem open_lists{v:Value}{d:DataW H}{p:List MemPlace}(hv:Value.okWide Tryz.prog W .any base 42 v)(h:DataW.Trod enc Tryz.prog W 0 (fun _=>true) held 42 v d p)(hz:∀n∈d.weights Tryz.prog 42,n≤reachBytes):∃rows,RowsAt W v rows:=by
 have hcell:Cell.okWide Tryz.prog W .any base 42 v:=by
  simpa only[Value.okWide,Tryz.underlying42]using hv
 obtain⟨a0,len0,cap0,rfl⟩:=okWide_slice Tryz.underlying42 hv
 obtain⟨fuel,hf⟩:=h
 have hf:DataW.trod enc Tryz.prog W 0 (fun _=>true) held fuel 42 [.slice a0 len0 cap0]=some (d,p):=by simpa[Value.cells]using hf
 rcases open_slice1 Tryz.underlying42 cells53 hf with⟨h2,_⟩|⟨a,len,cap,m,n',V,D,Pl,h2,_,hl,hcap,hm,hy,hx⟩
 ·cases h2
  exact⟨[], .nil⟩
 ·cases h2
  simp only[Cell.okWide,Cell.ok,Tryz.underlying42,World.has]at hcell
  obtain⟨_,_,_,hspot,row,cells,hsh,_⟩:=hcell
  obtain⟨b,o,sp⟩:=a
  simp only at hspot hsh
  subst hspot
  rw[if_pos rfl]at hm
  subst hm
  have hd:d=(.slice ((List.range len0).map D) ((List.range (m-len0)).map fun j=>D (len0+j))):=congrArg Prod.fst hy
  have e24:Tryz.prog.bytesOf 53=24:=by kernel_rfl
  have hw:∀n,n=m*24∨n∈DataW.weightsAll Tryz.prog 53 ((List.range len0).map D)→n≤reachBytes:=fun n hn=>by
   refine hz n ?_
   rw[hd]
   simp only[DataW.weights,Tryz.underlying42,e24,List.length_map,List.length_range,show len0+(m-len0)=m by omega,List.mem_cons,List.mem_append]
   exact hn.imp id .inl
  have hcapU:m<UNK:=by
   have:=hw (m*24) (.inl rfl)
   unfold reachBytes at this
   unfold UNK;omega
  obtain⟨c,el,fz,hheap⟩:∃c el fz,W.heap[b]? =some (.cells c el fz):=by
   unfold World.shape? at hsh
   split at hsh
   ·rename_i c el fz he;exact⟨c,el,fz,he⟩
   ·cases hsh
  by_cases h0:len0=0
  ·subst h0
   exact⟨[], .empty hheap hcapU⟩
  ·obtain⟨f,hf⟩:=choose_lt (α:=List Int) (n:=len0) (p:=fun i r=>∃x,c[o+i]? =some x∧RowAt W x r) (fun i hi=>by
    obtain⟨hc,ht⟩:=hx i (by omega)
    obtain⟨r,hr⟩:=row_cell ht fun n hn=>hw n (.inr (weightsAll_mem (List.mem_map.2 ⟨i,List.mem_range.2 hi,rfl⟩) n hn))
    rw[add_eq]at hc
    unfold World.cell? at hc
    simp only[hheap]at hc
    exact⟨r,V i,hc,hr⟩)
   have hlen:((List.range len0).map f).length=len0:=by simp
   refine⟨(List.range len0).map f,?_⟩
   have:=RowsAt.full (W:=W) (o:=o) (cap:=m) (rows:=(List.range len0).map f) hheap (by intro e;rw[e]at hlen;simp at hlen;omega) (by omega) hcapU (fun j r hr=>by
    have hj:=(List.getElem?_eq_some_iff.1 hr).1
    rw[hlen]at hj
    have e:r=f j:=by simpa[hj]using hr.symm
    rw[e]
    exact hf j hj)
   rw[hlen]at this
   exact this
end
end Go.A.Pk
end
section
set_option maxRecDepth 100000
open Go Go.A Go.Proofs Go.RowKit
namespace Go.A.Pk
theorem c11:compF Tryz.prog Tryz.f11 [[1,2,3,4],[1,2,3,4,21],[8],[1,2,3,4,9],[1,2,3,4,9,26],[1,2,3,4,9,34],[8],[1,2,3,4,9],[1,2,3,4,10,11],[10,11,12,13],[8]]=some f11:=by kernel_rfl
theorem c56:compF Tryz.prog Tryz.f56 [[1,4,6,7,8,9],[1,6,7,8,9,10,11],[1,6,7,8,9,10,11,29],[8,9],[1,6,7,8,9,10,39],[8,9],[1,6,7,8,9,10,12],[7,8,9,10,12,43],[7,8,9,10,12,13],[8,9,10,12,13],[8,9,10,12,13,14],[8,9,10,12,13,14,64],[10,12,13,14,15],[],[8,9,10,12,13,14,83],[10,12,13,14,16],[12,13,14,17,18],[],[8,9,107],[],[8,9]]=some f56:=by kernel_rfl
theorem c57:compF Tryz.prog Tryz.f57 [[1,2,3,4],[1,2,3,4,10],[1,2,3,4,10,24],[8,9],[1,2,3,4,29],[8,9],[1,2,3,4,11],[1,2,3,4,11,12],[1,2,3,4,11,12,32],[1,2,3,4,11,12,42],[8,9],[1,2,3,4,11,12,13],[1,2,3,4,11,12,13,45],[1,2,3,4,11,12,13],[1,2,3,4,11,12,13,67],[8,9],[1,2,3,4,11,12,13],[1,2,3,4,11,12],[1,2,4,11,14],[1,2,4,11,14,70],[1,2,4,11,14,15],[1,2,4,11,14,15,75],[1,2,4,11,14,15,16],[1,2,4,11,14,15,16,82],[1,2,4,11,14,15,16,106],[8,9],[1,2,4,11,14,15,16],[1,2,4,11,14,15,17],[1,2,4,11,14,15,17,109],[1,2,4,11,14,15,17,134],[8,9],[1,2,4,11,14,15,17],[1,2,4,11,14,15,18],[1,2,4,11,14,15,18,137],[1,2,4,11,14,15,18,162],[8,9],[1,2,4,11,14,15,18],[1,2,4,11,14,15],[1,2,4,11,14],[8,9]]=some f57:=by kernel_rfl
theorem c110:compF Tryz.prog Tryz.f110 [[0,1],[4]]=some f110:=by kernel_rfl
theorem c111:compF Tryz.prog Tryz.f111 [[0,1],[3]]=some f111:=by kernel_rfl
theorem c112:compF Tryz.prog Tryz.f112 [[1,2,3],[6]]=some f112:=by kernel_rfl
theorem c146:compF Tryz.prog Tryz.f146 [[0,1],[0,1,7,8],[0,1,7,8,9],[0,1,5,7,8],[0,1,5,7,8,16],[4],[0,1,7,8],[4]]=some f146:=by kernel_rfl
def tree11:Tr:=(.node (.node (.node (.node (.node (.node .nil 11 f11 .nil) 18 f18 .nil) 19 (.prim (pConst (.bool true))) (.node .nil 56 f56 .nil)) 57 f57 (.node (.node .nil 66 f66 .nil) 67 f67 (.node .nil 75 f75 .nil))) 76 f76 (.node (.node (.node (.node .nil 77 f77 .nil) 79 f79 .nil) 80 f80 (.node .nil 83 f83 .nil)) 94 f94 (.node (.node .nil 96 f96 .nil) 97 f97 (.node .nil 99 f99 .nil)))) 104 f104 (.node (.node (.node (.node (.node .nil 105 f105 .nil) 106 f106 .nil) 110 f110 (.node .nil 111 f111 .nil)) 112 f112 (.node (.node .nil 113 f113 .nil) 117 f117 (.node .nil 118 f118 .nil))) 119 f119 (.node (.node (.node (.node .nil 122 f122 .nil) 123 f123 .nil) 136 f136 (.node .nil 140 f140 .nil)) 141 f141 (.node (.node .nil 146 f146 .nil) 147 f147 (.node .nil 149 f149 .nil)))))
def T11:Nat→Option AFunc:=tree11.get
theorem all11:tree11.all (Entry Tryz.prog):=by
 unfold tree11
 exact(Tr.all_node (Tr.all_node (Tr.all_node (Tr.all_node (Tr.all_node (Tr.all_node Tr.all_nil (.of Tryz.func11 c11) Tr.all_nil) (.of Tryz.func18 c18) Tr.all_nil) ok19 (Tr.all_node Tr.all_nil (.of Tryz.func56 c56) Tr.all_nil)) (.of Tryz.func57 c57) (Tr.all_node (Tr.all_node Tr.all_nil (.of Tryz.func66 c66) Tr.all_nil) (.of Tryz.func67 c67) (Tr.all_node Tr.all_nil (.of Tryz.func75 c75) Tr.all_nil))) (.of Tryz.func76 c76) (Tr.all_node (Tr.all_node (Tr.all_node (Tr.all_node Tr.all_nil (.of Tryz.func77 c77) Tr.all_nil) (.of Tryz.func79 c79) Tr.all_nil) (.of Tryz.func80 c80) (Tr.all_node Tr.all_nil (.of Tryz.func83 c83) Tr.all_nil)) (.of Tryz.func94 c94) (Tr.all_node (Tr.all_node Tr.all_nil (.of Tryz.func96 c96) Tr.all_nil) (.of Tryz.func97 c97) (Tr.all_node Tr.all_nil (.of Tryz.func99 c99) Tr.all_nil)))) (.of Tryz.func104 c104) (Tr.all_node (Tr.all_node (Tr.all_node (Tr.all_node (Tr.all_node Tr.all_nil (.of Tryz.func105 c105) Tr.all_nil) (.of Tryz.func106 c106) Tr.all_nil) (.of Tryz.func110 c110) (Tr.all_node Tr.all_nil (.of Tryz.func111 c111) Tr.all_nil)) (.of Tryz.func112 c112) (Tr.all_node (Tr.all_node Tr.all_nil (.of Tryz.func113 c113) Tr.all_nil) (.of Tryz.func117 c117) (Tr.all_node Tr.all_nil (.of Tryz.func118 c118) Tr.all_nil))) (.of Tryz.func119 c119) (Tr.all_node (Tr.all_node (Tr.all_node (Tr.all_node Tr.all_nil (.of Tryz.func122 c122) Tr.all_nil) (.of Tryz.func123 c123) Tr.all_nil) (.of Tryz.func136 c136) (Tr.all_node Tr.all_nil (.of Tryz.func140 c140) Tr.all_nil)) (.of Tryz.func141 c141) (Tr.all_node (Tr.all_node Tr.all_nil (.of Tryz.func146 c146) Tr.all_nil) (.of Tryz.func147 c147) (Tr.all_node Tr.all_nil (.of Tryz.func149 c149) Tr.all_nil)))))
theorem sound11:SoundT Tryz.prog T11:=soundT_of (by kernel_rfl) all11
theorem pu19_11{h:Heap}:Pu T11 19 [] h (.bool true):= .prim (p:=pConst (.bool true)) (by kernel_rfl) rfl ⟨rfl,rfl⟩
theorem fns11:FnsVa T11:={p:=sound11.primAS,f77:=by kernel_rfl,f117:=by kernel_rfl,f119:=by kernel_rfl,f147:=by kernel_rfl,f118:=by kernel_rfl,f66:=by kernel_rfl,f18:=by kernel_rfl,f97:=by kernel_rfl,f122:=by kernel_rfl,f149:=by kernel_rfl,f75:=by kernel_rfl,f96:=by kernel_rfl,f113:=by kernel_rfl,f94:=by kernel_rfl,f104:=by kernel_rfl,f105:=by kernel_rfl,f106:=by kernel_rfl,f136:=by kernel_rfl,f140:=by kernel_rfl,f141:=by kernel_rfl,f83:=by kernel_rfl,f76:=by kernel_rfl,f110:=by kernel_rfl,f111:=by kernel_rfl,f146:=by kernel_rfl,f56:=by kernel_rfl,f80:=by kernel_rfl,f67:=by kernel_rfl,f79:=by kernel_rfl,f99:=by kernel_rfl,f123:=by kernel_rfl,f112:=by kernel_rfl,f57:=by kernel_rfl,f11:=by kernel_rfl,c19:=fun _=>pu19_11}
theorem values_calls{W:World}{sl:Value}{l:List Kd}(hk:KindsAt W sl l)(kerf:Int)(i1:Int)(i2:Int){lv:Value}{rows:List (List Int)}(hl:RowsAt W lv rows):Calls Tryz.prog 11 #[.agg #[sl, .int .i64 kerf], .int .i64 i1, .int .i64 i2,lv] W fun e W'=>e= .returned (.bool true)∧Below W.heap.size W W':=by
 obtain⟨h,μ,hR,hro,hrd,⟨a,c,hu,hs⟩,⟨v2,hu2,hv2⟩⟩:=laidL hk.cells hl
 obtain⟨r,h',⟨m,hm⟩,rfl,rfl⟩:=law11 fns11 hrd hs kerf i1 i2 hv2
 have hrun:=hm m (Nat.le_refl _)
 have ha:LR μ [.agg #[.slice a l.length c, .int .i64 kerf], .int .i64 i1, .int .i64 i2,v2] [.agg #[sl, .int .i64 kerf], .int .i64 i1, .int .i64 i2,lv]:=
  .cons (VR.aggL (.cons hu (.cons (.int _ _) .nil))) (.cons (.int _ _) (.cons (.int _ _) (.cons hu2 .nil)))
 refine(acall_calls sound11 hrun hrd.log (by kernel_rfl) hR ha).mono fun e W' hq=> ?_
 obtain⟨μ',q1,q2,q3⟩:=hq
 cases e with
 |returned v'=>
  have hv:VR μ' (.bool true) v':=q1
  cases hv
  exact⟨rfl,St.below q3 hro⟩
 |panicked _=>exact q1.elim
 |outgrown=>exact q1.elim
end Go.A.Pk
end
