/- Walks of functions, plain laws, the table. -/
import Derived.Test.YtalmahakphchfaaGreatDoorSU3
import Derived.Test.YtalmahakphchfaaGreatDoorSU4
import Derived.Test.YtalmahakphchfaaGreatDoorSU0
import Derived.Test.YtalmahakphchfaaGreatDoorSU2
import Derived.Test.YtalmahakphchfaaGreatDoorSF
import Derived.Test.YtalmahakphchfaaGreatDoorSD
set_option linter.all false
section
set_option maxRecDepth 100000
namespace Go.A.Pk
open Go Go.Proofs Go.Joins Go.ChangeShapes Go.WideShapes Go.RowKit Go.Deep
section
variable {H:Type} {enc:TypeId×Value→H} {W:World} {base:Nat} {spare:Nat→Bool} {held:Bool}
end
end Go.A.Pk
end
section
set_option maxRecDepth 100000
namespace Go.A.Pk
open Go Go.Proofs Go.Joins Go.ChangeShapes Go.WideShapes Go.RowKit Go.Deep
section
variable {H:Type} {enc:TypeId×Value→H} {W:World} {base:Nat} {spare:Nat→Bool} {held:Bool}
theorem BG:Tryz.prog.cellsOf 41=16:=by kernel_rfl
theorem Bj{fuel:Nat}{cs:List Value}{x:DataW H×List MemPlace}(h:DataW.trod enc Tryz.prog W base spare held fuel 41 cs=some x):∃w:List Nat×List Nat,IsW w∧cs=wL w:=by
 obtain⟨xs,n,_,hx,hcl,hlen,hg⟩:=DataW.trod_struct Tryz.underlying41 h
 rw[BG]at hcl
 match cs,hcl with
 |[c0,c1,c2,c3,c4,c5,c6,c7,c8,c9,c10,c11,c12,c13,c14,c15],_=>
  match xs,hlen with
  |[yq0,yq1],_=>
   have g0:DataW.trod enc Tryz.prog W base spare held n 36 [c0,c1,c2,c3,c4,c5,c6,c7]=some yq0:=by have:=hg 0 _ rfl;simpa[nY]using this
   have g1:DataW.trod enc Tryz.prog W base spare held n 36 [c8,c9,c10,c11,c12,c13,c14,c15]=some yq1:=by have:=hg 1 _ rfl;simpa[nY]using this
   obtain⟨s0,h0,e0⟩:=jN g0
   obtain⟨s1,h1,e1⟩:=jN g1
   refine⟨(s0,s1),⟨h0,h1⟩,?_⟩
   show _=us s0++us s1
   rw[←e0,←e1];rfl
end
end Go.A.Pk
end
section
set_option maxRecDepth 100000
namespace Go.A.Pk
open Go Go.Proofs Go.Joins Go.ChangeShapes Go.WideShapes Go.RowKit Go.Deep
theorem yh{α:Type}{cL:α→List Value}{k:Nat}:∀{l:List α},(∀a∈l,(cL a).length=k)→(l.flatMap cL).length=l.length*k
 |[],_=>by simp
 |a::l,h=>by
  rw[List.flatMap_cons,List.length_append,h a List.mem_cons_self,yh fun x hx=>h x (List.mem_cons_of_mem _ hx),List.length_cons,Nat.add_mul];omega
theorem yg{α:Type}{cL:α→List Value}{k:Nat}:∀{l:List α} {i j:Nat} {a:α},(∀a∈l,(cL a).length=k)→l[i]? =some a→j<k→(l.flatMap cL)[i*k+j]? =(cL a)[j]?
 |[],i,j,a,_,h,_=>by simp at h
 |b::l,0,j,a,hl,h,hj=>by
  simp at h
  subst h
  rw[List.flatMap_cons,Nat.zero_mul,Nat.zero_add,List.getElem?_append_left (by rw[hl b List.mem_cons_self];exact hj)]
 |b::l,i+1,j,a,hl,h,hj=>by
  have hb:=hl b List.mem_cons_self
  rw[List.flatMap_cons,List.getElem?_append_right (by rw[hb,Nat.add_mul];omega),hb,show(i+1)*k+j-k=i*k+j by rw[Nat.add_mul];omega]
  exact yg (fun x hx=>hl x (List.mem_cons_of_mem _ hx)) (by simpa using h) hj
section
variable {H:Type} {enc:TypeId×Value→H} {W:World} {base:Nat} {held:Bool}
theorem mw{α:Type}[Inhabited α]{st et k bsz:Nat}(hu:Tryz.prog.underlying st=some (.slice et))(hk:Tryz.prog.cellsOf et=k)(hk0:0<k)(hbs:Tryz.prog.bytesOf et=bsz)(hb0:0<bsz)(ok:α→Prop)(cL:α→List Value)(hlen:∀a,ok a→(cL a).length=k)(hno:∀a,∀v∈cL a,cT v=true)
 (hel:∀{fuel:Nat} {cs:List Value} {x:DataW H×List MemPlace},DataW.trod enc Tryz.prog W 0 (fun _=>true) held fuel et cs=some x→∃a,ok a∧cs=cL a)
 {v:Value}{d:DataW H}{p:List MemPlace}(hv:Value.okWide Tryz.prog W .any base st v)(h:DataW.Trod enc Tryz.prog W 0 (fun _=>true) held st v d p)(hz:∀n∈d.weights Tryz.prog st,n≤reachBytes):∃l:List α,gI W k v l.length (l.flatMap cL)∧∀a∈l,ok a:=by
 have hcell:Cell.okWide Tryz.prog W .any base st v:=by
  simpa only[Value.okWide,hu]using hv
 obtain⟨a0,len0,cap0,rfl⟩:=okWide_slice hu hv
 obtain⟨fuel,hf⟩:=h
 have hf:DataW.trod enc Tryz.prog W 0 (fun _=>true) held fuel st [.slice a0 len0 cap0]=some (d,p):=by simpa[Value.cells]using hf
 rcases open_slice hu hf with⟨h2,_⟩|⟨a,len,cap,m,n',D,Pl,h2,_,hl,hcap,hm,hy,hx⟩
 ·cases h2
  exact⟨[], .nil,fun x hx=>by cases hx⟩
 ·cases h2
  simp only[Cell.okWide,Cell.ok,hu,World.has]at hcell
  obtain⟨_,_,_,hspot,row,cells,hsh,_⟩:=hcell
  obtain⟨b,o,sp⟩:=a
  simp only at hspot hsh
  subst hspot
  rw[if_pos rfl]at hm
  subst hm
  have hcapU:m*bsz≤reachBytes:=by
   refine hz (m*bsz) ?_
   cases hy
   simp only[DataW.weights,hu,hbs,List.length_map,List.length_range,show len0+(m-len0)=m by omega]
   simp
  have hmU:m<UNK:=by
   have:m*1≤m*bsz:=Nat.mul_le_mul_left _ hb0
   unfold reachBytes at hcapU
   unfold UNK
   omega
  obtain⟨c,el,fz,hheap⟩:∃c el fz,W.heap[b]? =some (.cells c el fz):=by
   unfold World.shape? at hsh
   split at hsh
   ·rename_i c el fz he;exact⟨c,el,fz,he⟩
   ·cases hsh
  obtain⟨f,hf⟩:=choose_lt (α:=α) (n:=len0) (p:=fun i x=>ok x∧∀j,j<k→c[o+(i*k+j)]? =(cL x)[j]?) (fun i hi=>by
   obtain⟨cs',hc,ht⟩:=hx i (by omega)
   obtain⟨x,hx2,hxk⟩:=hel ht
   subst hxk
   refine⟨x,hx2,fun j hj=> ?_⟩
   rw[hk]at hc
   obtain⟨_,_,hat⟩:=World.cells?_some hc
   have:=hat j hj
   rw[add_eq,add_eq]at this
   rw[←this,Nat.add_assoc]
   unfold World.cell?
   simp only[hheap]
   rfl)
  by_cases h0:len0=0
  ·subst h0
   exact⟨[], .empty hheap hmU,fun x hx=>by cases hx⟩
  ·have hll:((List.range len0).map f).length=len0:=by simp
   have hok:∀r∈(List.range len0).map f,ok r:=fun x hx=>by
    obtain⟨i,hi,rfl⟩:=List.mem_map.1 hx
    exact(hf i (List.mem_range.1 hi)).1
   refine⟨(List.range len0).map f,?_,hok⟩
   rw[hll]
   refine .full hheap h0 (by rw[yh fun a ha=>hlen a (hok a ha),hll]) hk0 hl hmU (fun j hj=> ?_) (fun v hv=> ?_)
   ·have h5:j / k<len0:=by rw[Nat.div_lt_iff_lt_mul hk0];exact hj
    have e1:j=j / k*k+j % k:=(Nat.div_add_mod' j k).symm
    have g1:=(hf (j / k) h5).2 (j % k) (Nat.mod_lt _ hk0)
    have g2:=yg (cL:=cL) (k:=k) (l:=(List.range len0).map f) (i:=j / k) (j:=j % k) (a:=f (j / k)) (fun a ha=>hlen a (hok a ha)) (by simp[h5]) (Nat.mod_lt _ hk0)
    rw[←e1]at g1 g2
    rw[g1,g2]
   ·obtain⟨a,_,ha⟩:=List.mem_flatMap.1 hv
    exact hno a v ha
theorem nw(s:List Nat):∀v∈us s,cT v=true:=fun v hv=>by
 obtain⟨n,_,rfl⟩:=List.mem_map.1 hv
 rfl
instance:Inhabited Pb:=⟨⟨[],0⟩⟩
def MW(W:World)(v:Value)(l:List (List Nat)):Prop:=gI W 8 v l.length (ssL l)∧∀s∈l,IsS s
theorem zj{v:Value}{d:DataW H}{p:List MemPlace}(hv:Value.okWide Tryz.prog W .any base 33 v)(h:DataW.Trod enc Tryz.prog W 0 (fun _=>true) held 33 v d p)(hz:∀n∈d.weights Tryz.prog 33,n≤reachBytes):∃l,MW W v l:=
 mw (α:=List Nat) Tryz.underlying33 nY (by decide) (show Tryz.prog.bytesOf 36=64 by kernel_rfl) (by decide) IsS us (fun p h=>by rw[aG,h.len]) nw (fun h=>jN h) hv h hz
end
end Go.A.Pk
end
section
set_option maxRecDepth 100000
namespace Go.A.Pk
variable {T:Nat→Option af}
def LsS{α:Type}(f:α→List Value)(n:Nat)(h:Heap)(v:Value)(l:List α):Prop:=cA h n v l.length (l.flatMap f)
section
variable {α:Type} {f:α→List Value} {n:Nat}
theorem BN:∀{l:List α} {i:Nat} {x:α},(∀x∈l,(f x).length=n)→l[i]? =some x→((l.flatMap f).drop (i*n)).take n=f x
 |[],i,x,_,h=>by simp at h
 |y::l,0,x,hl,h=>by
  simp at h
  subst h
  have:=hl y List.mem_cons_self
  rw[List.flatMap_cons,Nat.zero_mul,List.drop_zero,List.take_append_of_le_length (by omega),List.take_of_length_le (by omega)]
 |y::l,i+1,x,hl,h=>by
  have e8:=hl y List.mem_cons_self
  have e2:(f y++l.flatMap f).drop n=l.flatMap f:=by rw[←e8];exact List.drop_left
  rw[List.flatMap_cons,show(i+1)*n=n+i*n by rw[Nat.succ_mul];omega,←List.drop_drop,e2]
  exact BN (fun s hs=>hl s (List.mem_cons_of_mem _ hs)) (by simpa using h)
theorem LsS.elem{h:Heap}{v:Value}{l:List α}(s:LsS f n h v l)(hl:∀x∈l,(f x).length=n){i:Nat}{x:α}(hi:l[i]? =some x):
 ∃b o c vs own t,v= .slice (some ⟨b,o,none⟩) l.length c∧h.get b=some (.cells vs own t)∧b<h.next∧bT n (bS (o+i*n) vs)=f x:=by
 have hlt:=(List.getElem?_eq_some_iff.1 hi).1
 rcases cA.inv s with⟨_,_,h0,_⟩|⟨b,o,cap,hv,s1,hc⟩
 ·omega
 ·obtain⟨vs,own,t,g1,g2⟩:=s1.obj
  refine⟨b,o,cap,vs,own,t,hv,g1,s1.lt,?_⟩
  rw[←BN hl hi,←g2]
  simp only[dy,cK,List.drop_take,List.take_take,List.drop_drop]
  congr 1
  have:i*n+n≤l.length*n:=by rw[←Nat.succ_mul];exact Nat.mul_le_mul_right n hlt
  omega
theorem Jl{vs r q:List Value}{o n j m:Nat}(h:bT n (bS o vs)=r)(hj:j+m≤n)(hr:bT m (bS j r)=q):bT m (bS (o+j) vs)=q:=by
 rw[←hr,←h]
 simp only[dy,cK,List.drop_take,List.take_take,List.drop_drop]
 congr 1;omega
end
structure Od where
 id:Int
 fr:Int
 to:Int
 size:Int
 B4:Int
 cI:List Nat
structure Sp where
 id:Int
 size:Int
 cI:List Nat
def odL(x:Od):List Value:=[.int .i64 x.id, .int .i64 x.fr, .int .i64 x.to, .int .i64 x.size, .int .i64 x.B4]++us x.cI
def spL(x:Sp):List Value:=[.int .i64 x.id, .int .i64 x.size]++us x.cI
def odV(x:Od):Value:= .agg (odL x).toArray
def spV(x:Sp):Value:= .agg (spL x).toArray
theorem fS{x:Od}(h:IsS x.cI):(odL x).length=13:=by simp[odL,aG,h.len]
theorem eM{x:Sp}(h:IsS x.cI):(spL x).length=10:=by simp[spL,aG,h.len]
theorem lI{x:Od}(h:IsS x.cI):bT 8 (bS (0+5) (odL x))=us x.cI:=by
 rw[dy,cK]
 show(us x.cI).take 8=_
 rw[List.take_of_length_le (by rw[aG,h.len];omega)]
theorem nN{x:Sp}(h:IsS x.cI):bT 8 (bS (0+2) (spL x))=us x.cI:=by
 rw[dy,cK]
 show(us x.cI).take 8=_
 rw[List.take_of_length_le (by rw[aG,h.len];omega)]
theorem qe{x:Od}(h:IsS x.cI):bT 13 (bS 0 (odL x))=odL x:=by
 rw[dy,cK,List.drop_zero,List.take_of_length_le (by rw[fS h];omega)]
theorem mE{x:Sp}(h:IsS x.cI):bT 10 (bS 0 (spL x))=spL x:=by
 rw[dy,cK,List.drop_zero,List.take_of_length_le (by rw[eM h];omega)]
theorem ny{x:Od}(h:IsS x.cI):Nat.beq (bO (odL x)) 13=true:=by rw[bN,fS h];rfl
theorem kE{x:Sp}(h:IsS x.cI):Nat.beq (bO (spL x)) 10=true:=by rw[bN,eM h];rfl
theorem nA(x:Od):dG (odL x)=true:=iz rfl (cF _)
theorem kF(x:Sp):dG (spL x)=true:=iz rfl (cF _)
structure OdS (h:Heap) (v:Value) (l:List Od):Prop where
 sl:LsS odL 13 h v l
 ok:∀x∈l,IsS x.cI
structure SpS (h:Heap) (v:Value) (l:List Sp):Prop where
 sl:LsS spL 10 h v l
 ok:∀x∈l,IsS x.cI
theorem OdS.form{h:Heap}{v:Value}{l:List Od}(s:OdS h v l):∃a c,v= .slice a l.length c:=cA.form s.sl
theorem OdS.ext{h h':Heap}{v:Value}{l:List Od}(s:OdS h v l)(x:Ext h h'):OdS h' v l:=⟨cA.ext s.sl x,s.ok⟩
theorem OdS.log{h:Heap}{v:Value}{l:List Od}(s:OdS h v l)(m:List Nat):OdS {h with log:=m} v l:=⟨cA.log s.sl m,s.ok⟩
theorem SpS.form{h:Heap}{v:Value}{l:List Sp}(s:SpS h v l):∃a c,v= .slice a l.length c:=cA.form s.sl
theorem SpS.ext{h h':Heap}{v:Value}{l:List Sp}(s:SpS h v l)(x:Ext h h'):SpS h' v l:=⟨cA.ext s.sl x,s.ok⟩
theorem SpS.log{h:Heap}{v:Value}{l:List Sp}(s:SpS h v l)(m:List Nat):SpS {h with log:=m} v l:=⟨cA.log s.sl m,s.ok⟩
theorem OdS.elem{h:Heap}{v:Value}{l:List Od}(s:OdS h v l){i:Nat}{x:Od}(hi:l[i]? =some x):
 ∃b o c vs own t,v= .slice (some ⟨b,o,none⟩) l.length c∧h.get b=some (.cells vs own t)∧b<h.next∧bT 13 (bS (o+i*13) vs)=odL x:=
 LsS.elem s.sl (fun x hx=>fS (s.ok x hx)) hi
theorem SpS.elem{h:Heap}{v:Value}{l:List Sp}(s:SpS h v l){i:Nat}{x:Sp}(hi:l[i]? =some x):
 ∃b o c vs own t,v= .slice (some ⟨b,o,none⟩) l.length c∧h.get b=some (.cells vs own t)∧b<h.next∧bT 10 (bS (o+i*10) vs)=spL x:=
 LsS.elem s.sl (fun x hx=>eM (s.ok x hx)) hi
def thB(id size:Int)(w:List Nat):Bool:=inR id 1 1000000&&inR size 1 1000000&&decide (w≠s0)
def odB(x:Od):Bool:=thB x.id x.size x.cI&&decide (0≤x.fr)&&decide (x.fr≤x.to)&&decide (x.to≤100000)&&inR x.B4 0 1000000
def spB(x:Sp):Bool:=thB x.id x.size x.cI
structure sH (T:Nat→Option af):Prop where
 p:bI T
 f273:T 107=some f273
 f274:T 108=some f274
 f276:T 110=some f276
 f277:T 111=some f277
 f278:T 112=some f278
 f279:T 113=some f279
theorem BQ(F:sH T){h:Heap}(hr:Rdy h)(n a b:Int):Pu T 113 [.int .i64 n, .int .i64 a, .int .i64 b] h (.bool (inR n a b)):=by
 refine .of F.p F.f279 hr rfl ?_
 unfold inR
 by_cases h1:a≤n
 ·by_cases h2:n≤b
  ·rw[decide_eq_true ⟨h1,h2⟩]
   refine y4 ?_;refine yM ?_;refine y3 ?_;refine y4 ?_;refine yM ?_;refine yM ?_
   refine yt ?_;refine yM ?_;refine yO ?_;refine yM ?_;refine yO ?_;refine yM ?_;refine yO ?_;refine yt ?_
   refine yT ?_;refine yM ?_;refine y3 ?_;refine aM ?_
   exact aD hr.log rfl rfl
  ·rw[decide_eq_false (fun q=>h2 q.2)]
   refine y4 ?_;refine yM ?_;refine y3 ?_;refine y4 ?_;refine yM ?_;refine yM ?_
   refine yt ?_;refine yM ?_;refine yO ?_;refine yM ?_;refine yO ?_;refine yM ?_;refine yO ?_;refine yf ?_
   refine yT ?_;refine yM ?_;refine y3 ?_;refine aM ?_
   exact aD hr.log rfl rfl
 ·rw[decide_eq_false (fun q=>h1 q.1)]
  refine y4 ?_;refine yM ?_;refine y3 ?_;refine y4 ?_;refine yM ?_;refine yM ?_
  refine yf ?_;refine yM ?_;refine yP ?_;refine yP ?_;refine yP ?_;refine yU ?_;refine yM ?_;refine y3 ?_;refine aM ?_
  exact aD hr.log rfl rfl
theorem zI(F:sH T){h:Heap}(hr:Rdy h)(id size:Int){w:List Nat}(hw:IsS w):Pu T 111 [.int .i64 id, .int .i64 size,sv w] h (.bool (thB id size w)):=by
 refine .of F.p F.f277 hr rfl ?_
 have hsc:cellsOf (sv w)=us w:=by show(us w).toArray.toList=_;simp
 have x0:Ext h (h.push (.cells (cellsOf (sv w)) true 1)):=(Ext.refl h).push _
 have g0:(h.push (.cells (cellsOf (sv w)) true 1)).get h.next=some (.cells (us w) true 1):=by rw[hsc];exact z3 _ _
 refine y4 ?_;refine yB ?_;refine yM ?_;refine y3 ?_
 generalize(h.push (.cells (cellsOf (sv w)) true 1))=H at*
 have W:=x0.wf hr.wf
 have hL:=x0.log.trans hr.log
 have k8:=bU hw.len
 have k9:=dh hw.len
 have C1:=BQ F (h:={H with log:=[]}) (.of W) id 1 1000000
 have C2:=BQ F (h:={H with log:=[]}) (.of W) size 1 1000000
 unfold thB
 cases h1:inR id 1 1000000 with
 |false=>
  rw[h1]at C1
  refine y4 ?_;refine yM ?_
  refine yC ?_
  refine FW.pu C1 ?_
  refine yM ?_;refine yP ?_;refine yP ?_;refine yU ?_;refine yM ?_;refine yP ?_;refine yP ?_;refine yP ?_
  refine yU ?_;refine yM ?_;refine y3 ?_;refine aM ?_
  exact aD hL rfl rfl
 |true=>
  rw[h1]at C1
  cases h2:inR size 1 1000000 with
  |false=>
   rw[h2]at C2
   refine y4 ?_;refine yM ?_
   refine yC ?_
   refine FW.pu C1 ?_
   refine yM ?_;refine yO ?_;refine yM ?_;refine yO ?_
   refine yC ?_
   refine FW.pu C2 ?_
   refine yT ?_;refine yM ?_;refine yP ?_;refine yP ?_;refine yP ?_;refine yU ?_;refine yM ?_;refine y3 ?_;refine aM ?_
   exact aD hL rfl rfl
  |true=>
   rw[h2]at C2
   refine y4 ?_;refine yM ?_
   refine yC ?_
   refine FW.pu C1 ?_
   refine yM ?_;refine yO ?_;refine yM ?_;refine yO ?_
   refine yC ?_
   refine FW.pu C2 ?_
   refine yT ?_;refine yM ?_;refine yO ?_;refine yV ?_;refine yO ?_;refine ah (dS (by exact rfl)) ?_;refine yO ?_
   refine ah (pM (b:=s0) (by exact rfl) (by exact rfl) hw.len rfl) ?_
   refine yT ?_;refine yM ?_;refine y3 ?_;refine aM ?_
   refine aD hL rfl ?_
   rw[show(decide (w≠s0))= !decide (w=s0)by simp];rfl
theorem NN(F:sH T){h:Heap}(hr:Rdy h){x:Od}(hx:IsS x.cI):Pu T 108 [odV x] h (.int .i64 x.id):=by
 refine .of F.p F.f274 hr rfl ?_
 have hc:cellsOf (odV x)=odL x:=by show(odL x).toArray.toList=_;simp
 have x0:Ext h (h.push (.cells (cellsOf (odV x)) true 1)):=(Ext.refl h).push _
 have g0:(h.push (.cells (cellsOf (odV x)) true 1)).get h.next=some (.cells (odL x) true 1):=by rw[hc];exact z3 _ _
 refine y4 ?_;refine yB ?_;refine yM ?_;refine y3 ?_
 generalize(h.push (.cells (cellsOf (odV x)) true 1))=H at*
 have hL:=x0.log.trans hr.log
 have k1:bD (odL x) (0+0)=some (.int .i64 x.id):=rfl
 refine y4 ?_;refine yF ?_;refine yL ?_;refine yM ?_;refine y3 ?_;refine aM ?_
 exact aD hL rfl rfl
theorem NO(F:sH T){h:Heap}(hr:Rdy h){x:Sp}(hx:IsS x.cI):Pu T 112 [spV x] h (.int .i64 x.id):=by
 refine .of F.p F.f278 hr rfl ?_
 have hc:cellsOf (spV x)=spL x:=by show(spL x).toArray.toList=_;simp
 have x0:Ext h (h.push (.cells (cellsOf (spV x)) true 1)):=(Ext.refl h).push _
 have g0:(h.push (.cells (cellsOf (spV x)) true 1)).get h.next=some (.cells (spL x) true 1):=by rw[hc];exact z3 _ _
 refine y4 ?_;refine yB ?_;refine yM ?_;refine y3 ?_
 generalize(h.push (.cells (cellsOf (spV x)) true 1))=H at*
 have hL:=x0.log.trans hr.log
 have k1:bD (spL x) (0+0)=some (.int .i64 x.id):=rfl
 refine y4 ?_;refine yF ?_;refine yL ?_;refine yM ?_;refine y3 ?_;refine aM ?_
 exact aD hL rfl rfl
theorem Ow(F:sH T){h:Heap}(hr:Rdy h){x:Sp}(hx:IsS x.cI):Pu T 110 [spV x] h (.bool (spB x)):=by
 refine .of F.p F.f276 hr rfl ?_
 have hc:cellsOf (spV x)=spL x:=by show(spL x).toArray.toList=_;simp
 have x0:Ext h (h.push (.cells (cellsOf (spV x)) true 1)):=(Ext.refl h).push _
 have g0:(h.push (.cells (cellsOf (spV x)) true 1)).get h.next=some (.cells (spL x) true 1):=by rw[hc];exact z3 _ _
 refine y4 ?_;refine yB ?_;refine yM ?_;refine y3 ?_
 generalize(h.push (.cells (cellsOf (spV x)) true 1))=H at*
 have W:=x0.wf hr.wf
 have hL:=x0.log.trans hr.log
 have k1:bD (spL x) (0+0)=some (.int .i64 x.id):=rfl
 have k2:bD (spL x) (0+1)=some (.int .i64 x.size):=rfl
 have k3:=nN hx
 have k4:=bU hx.len
 have C:=zI F (h:={H with log:=[]}) (.of W) x.id x.size hx
 refine y4 ?_;refine yF ?_;refine yL ?_;refine yF ?_;refine yL ?_;refine yF ?_
 refine yV ?_
 refine yC ?_
 refine FW.pu C ?_
 refine yM ?_;refine y3 ?_;refine aM ?_
 exact aD hL rfl rfl
set_option maxHeartbeats 2000000 in
theorem GR(F:sH T){h:Heap}(hr:Rdy h){x:Od}(hx:IsS x.cI):Pu T 107 [odV x] h (.bool (odB x)):=by
 refine .of F.p F.f273 hr rfl ?_
 have hc:cellsOf (odV x)=odL x:=by show(odL x).toArray.toList=_;simp
 have x0:Ext h (h.push (.cells (cellsOf (odV x)) true 1)):=(Ext.refl h).push _
 have g0:(h.push (.cells (cellsOf (odV x)) true 1)).get h.next=some (.cells (odL x) true 1):=by rw[hc];exact z3 _ _
 refine y4 ?_;refine yB ?_;refine yM ?_;refine y3 ?_
 generalize(h.push (.cells (cellsOf (odV x)) true 1))=H at*
 have W:=x0.wf hr.wf
 have hL:=x0.log.trans hr.log
 have k0:bD (odL x) (0+0)=some (.int .i64 x.id):=rfl
 have k1:bD (odL x) (0+1)=some (.int .i64 x.fr):=rfl
 have k2:bD (odL x) (0+2)=some (.int .i64 x.to):=rfl
 have k3:bD (odL x) (0+3)=some (.int .i64 x.size):=rfl
 have k4:bD (odL x) (0+4)=some (.int .i64 x.B4):=rfl
 have k5:=lI hx
 have k6:=bU hx.len
 have C:=zI F (h:={H with log:=[]}) (.of W) x.id x.size hx
 have C2:=BQ F (h:={H with log:=[]}) (.of W) x.B4 0 1000000
 unfold odB
 cases h1:thB x.id x.size x.cI with
 |false=>
  rw[h1]at C
  refine y4 ?_;refine yF ?_;refine yL ?_;refine yF ?_;refine yL ?_;refine yF ?_
  refine yV ?_
  refine yC ?_
  refine FW.pu C ?_
  refine yM ?_;refine yP ?_;refine yP ?_;refine yP ?_;refine yU ?_;refine yM ?_;refine yP ?_;refine yP ?_
  refine yP ?_;refine yP ?_;refine yP ?_;refine yU ?_;refine yM ?_;refine yP ?_;refine yP ?_;refine yP ?_
  refine yU ?_;refine yM ?_;refine yP ?_;refine yP ?_;refine yP ?_;refine yU ?_;refine yM ?_;refine y3 ?_;refine aM ?_
  exact aD hL rfl rfl
 |true=>
  rw[h1]at C
  by_cases a1:0≤x.fr
  case neg=>
   have m1:aA .geq (.int .i64 x.fr) (.int .i64 0)=some (.bool false):=An (by omega)
   rw[decide_eq_false a1]
   refine y4 ?_;refine yF ?_;refine yL ?_;refine yF ?_;refine yL ?_;refine yF ?_
   refine yV ?_
   refine yC ?_
   refine FW.pu C ?_
   refine yM ?_;refine yO ?_;refine yF ?_;refine yO ?_;refine yL ?_;refine yO ?_;refine yW ?_;refine yT ?_
   refine yM ?_;refine yP ?_;refine yP ?_;refine yP ?_;refine yP ?_;refine yP ?_;refine yU ?_;refine yM ?_
   refine yP ?_;refine yP ?_;refine yP ?_;refine yU ?_;refine yM ?_;refine yP ?_;refine yP ?_;refine yP ?_
   refine yU ?_;refine yM ?_;refine y3 ?_;refine aM ?_
   exact aD hL rfl rfl
  have m1:aA .geq (.int .i64 x.fr) (.int .i64 0)=some (.bool true):=Ao (by omega)
  rw[decide_eq_true a1]
  by_cases a2:x.fr≤x.to
  case neg=>
   have m2:aA .leq (.int .i64 x.fr) (.int .i64 x.to)=some (.bool false):=oZ (by omega)
   rw[decide_eq_false a2]
   refine y4 ?_;refine yF ?_;refine yL ?_;refine yF ?_;refine yL ?_;refine yF ?_
   refine yV ?_
   refine yC ?_
   refine FW.pu C ?_
   refine yM ?_;refine yO ?_;refine yF ?_;refine yO ?_;refine yL ?_;refine yO ?_;refine yW ?_;refine yT ?_
   refine yM ?_;refine yO ?_;refine yF ?_;refine yO ?_;refine yL ?_;refine yO ?_;refine yF ?_;refine yO ?_;refine yL ?_
   refine yO ?_;refine yW ?_;refine yT ?_;refine yM ?_;refine yP ?_;refine yP ?_;refine yP ?_
   refine yU ?_;refine yM ?_;refine yP ?_;refine yP ?_;refine yP ?_;refine yU ?_;refine yM ?_;refine y3 ?_;refine aM ?_
   exact aD hL rfl rfl
  have m2:aA .leq (.int .i64 x.fr) (.int .i64 x.to)=some (.bool true):=mh (by omega)
  rw[decide_eq_true a2]
  by_cases a3:x.to≤100000
  case neg=>
   have m3:aA .leq (.int .i64 x.to) (.int .i64 100000)=some (.bool false):=oZ (by omega)
   rw[decide_eq_false a3]
   refine y4 ?_;refine yF ?_;refine yL ?_;refine yF ?_;refine yL ?_;refine yF ?_
   refine yV ?_
   refine yC ?_
   refine FW.pu C ?_
   refine yM ?_;refine yO ?_;refine yF ?_;refine yO ?_;refine yL ?_;refine yO ?_;refine yW ?_;refine yT ?_
   refine yM ?_;refine yO ?_;refine yF ?_;refine yO ?_;refine yL ?_;refine yO ?_;refine yF ?_;refine yO ?_;refine yL ?_
   refine yO ?_;refine yW ?_;refine yT ?_;refine yM ?_;refine yO ?_;refine yF ?_;refine yO ?_;refine yL ?_
   refine yO ?_;refine yW ?_;refine yT ?_;refine yM ?_;refine yP ?_;refine yP ?_;refine yP ?_
   refine yU ?_;refine yM ?_;refine y3 ?_;refine aM ?_
   exact aD hL rfl rfl
  have m3:aA .leq (.int .i64 x.to) (.int .i64 100000)=some (.bool true):=mh (by omega)
  rw[decide_eq_true a3]
  refine y4 ?_;refine yF ?_;refine yL ?_;refine yF ?_;refine yL ?_;refine yF ?_
  refine yV ?_
  refine yC ?_
  refine FW.pu C ?_
  refine yM ?_;refine yO ?_;refine yF ?_;refine yO ?_;refine yL ?_;refine yO ?_;refine yW ?_;refine yT ?_
  refine yM ?_;refine yO ?_;refine yF ?_;refine yO ?_;refine yL ?_;refine yO ?_;refine yF ?_;refine yO ?_;refine yL ?_
  refine yO ?_;refine yW ?_;refine yT ?_;refine yM ?_;refine yO ?_;refine yF ?_;refine yO ?_;refine yL ?_
  refine yO ?_;refine yW ?_;refine yT ?_;refine yM ?_;refine yO ?_;refine yF ?_;refine yO ?_;refine yL ?_
  refine yO ?_
  refine yC ?_
  refine FW.pu C2 ?_
  refine yT ?_;refine yM ?_;refine y3 ?_;refine aM ?_
  exact aD hL rfl rfl
end Go.A.Pk
end
section
set_option maxRecDepth 100000
namespace Go.A.Pk
structure QY (t:List Nat) (l:List Pb) (f:List Nat):Prop where
 len:f.length=l.length
 at':∀(i:Nat) (p:Pb) (k:Nat),l[i]? =some p→f[i]? =some k→k=0∨k=OQ t p
section
variable {w:List Nat×List Nat} (hw:IsW w) {t:List Nat} (ht:IsS t) (h1:Sub w.1 t) (h2:Sub t w.2) {l:List Pb} (hl:∀p∈l,IsS p.cells)
include hw ht h1 h2 hl
end
end Go.A.Pk
end
section
set_option maxRecDepth 100000
namespace Go.A.Pk
def mnF(g:Nat→Int)(L:List Nat)(c:Int):Int:=L.foldl (fun n p=>min n (g p)) c
def NV(n:Nat)(f:List Nat):List Nat:=(List.range n).filter fun p=>decide (f.getD p 0=0)
section
variable (w:List Nat×List Nat) (l:List Pb) (ns:List (List (List Nat)))
def Kv(f:List Nat):Bool:=bsB w (l.zip f)&&ns.any fun r=>decide (Qx (l.zip f) (bsS w.1 (l.zip f)) r=3)
def KT(p:Nat):Int:=(l.getD p ⟨s0,0⟩).cost
def Mw:Nat→List Nat→Int
 |0,f=>if Kv w l ns f then 100000 else 0
 |k+1,f=>if Kv w l ns f then mnF (fun p=>KT l p+max (Mw k (f.set p 1)) (Mw k (f.set p 2))) (NV l.length f) 100000 else 0
def QS(f:List Nat):Int:=Mw w l ns l.length f
end
variable {w:List Nat×List Nat} {l:List Pb} {ns:List (List (List Nat))}
end Go.A.Pk
end
section
set_option maxRecDepth 100000
namespace Go.A.Pk
structure Fk where
 probe:Int
 yes:Int
 no:Int
section
variable (w:List Nat×List Nat) (l:List Pb) (ns:List (List (List Nat))) (s:List Fk)
end
section
variable {w:List Nat×List Nat} {l:List Pb} {ns:List (List (List Nat))} {s:List Fk} {cost:Int}
end
end Go.A.Pk
end
section
set_option maxRecDepth 100000
namespace Go.A.Pk
variable {T:Nat→Option af}
def QB(mm:List (List Nat×Int)):List (Value×Value):=mm.map fun x=>(fV x.1, .int .i64 x.2)
def MT(w:List Nat×List Nat)(l:List Pb)(ns:List (List (List Nat)))(mm:List (List Nat×Int)):Prop:=∀x∈mm,x.1.length=8∧x.2=QS w l ns x.1
structure QuH (h:Heap) (q m:Nat) (w:List Nat×List Nat) (pv nv ov:Value) (l:List Pb) (os:List (List Nat)) (ns:List (List (List Nat))):Prop where
 hw:IsW w
 gq:h.get q=some (.cells (quL w pv nv ov (.map (some m))) true 1)
 sp:PbS h pv l
 hl:l.length≤8
 so:SsQ h ov os
 hol:os.length<1000000
 sn:NdS h nv ns
 hns:ns.length=os.length
 hrn:∀r∈ns,r.length<1000000
 mem:∃mm,h.get m=some (.map (QB mm))∧MT w l ns mm
def QU(bq bs bn bc bv:Nat):Value:= .func (.func 95) #[] #[.pointer (some ⟨bq,0,none⟩), .pointer (some ⟨bs,0,none⟩), .pointer (some ⟨bn,0,none⟩), .pointer (some ⟨bc,0,none⟩), .pointer (some ⟨bv,0,none⟩)]
structure VsH (h0 h:Heap) (q:Nat) (sv:Value) (cost:Int) (n0:Int) (bq bs bn bc bv:Nat):Prop where
 wf:WF h
 nx:h0.next≤h.next
 old:∀z,z<h0.next→h.get z=h0.get z
 gq:h.get bq=some (.cells [.pointer (some ⟨q,0,none⟩)] true 1)
 gs:h.get bs=some (.cells [sv] true 1)
 gn:h.get bn=some (.cells [.int .i64 n0] true 1)
 gc:h.get bc=some (.cells [.int .i64 cost] true 1)
 gv:h.get bv=some (.cells [QU bq bs bn bc bv] true 1)
def cdF:af→aU
 | .code c _=>c
 |_=> .skip
def tlC:aU→aU
 | .seq _ b=>b
 |c=>c
end Go.A.Pk
end
section
set_option maxRecDepth 100000
namespace Go.A.Pk
variable {T:Nat→Option af}
section
open I
end
end Go.A.Pk
end
section
set_option maxRecDepth 100000
namespace Go.A.Pk
variable {T:Nat→Option af}
section
variable {w:List Nat×List Nat} {l:List Pb} {ns:List (List (List Nat))} {s:List Fk} {cost:Int}
end
def tr(ks:List Int):List (Value×Value):=ks.map fun c=>(.int .i64 c, .bool true)
theorem NT(a b:Int):lC false [.i .i64] (.int .i64 a) (.int .i64 b)=some (decide (a=b)):=by
 show bC [.i .i64] [.int .i64 a] [.int .i64 b]=_
 simp only[bC,ij,if_true]
 by_cases h:a=b
 ·subst h;simp
 ·have e:(a==b)=false:=by simpa using h
  rw[e,decide_eq_false h]
theorem Ah(a:Int):iL false [.i .i64] (.int .i64 a)=true:=by
 unfold iL
 have e:bC [.i .i64] (cellsOf (.int .i64 a)) (cellsOf (.int .i64 a))=some true:=by
  show bC [.i .i64] [.int .i64 a] [.int .i64 a]=_
  simp[bC,ij]
 rw[e];rfl
def jS(c:Int):Nat→List Int→Option Nat
 |_,[]=>none
 |i,x::ks=>if c=x then some i else jS c (i+1) ks
theorem EO{c:Int}:∀{ks:List Int} {i:Nat},ji false [.i .i64] (.int .i64 c) i (tr ks)=some ((jS c i ks).map fun p=>(p, .bool true))
 |[],_=>rfl
 |x::ks,i=>by
  show ji false [.i .i64] (.int .i64 c) i ((.int .i64 x, .bool true)::tr ks)=_
  unfold ji jS
  rw[NT]
  by_cases e:c=x
  ·rw[decide_eq_true e,if_pos e];rfl
  ·rw[decide_eq_false e,if_neg e]
   exact EO
theorem j9{c:Int}:∀{ks:List Int} {i j:Nat},jS c i ks=some j→i≤j∧ks[j-i]? =some c
 |x::ks,i,j,h=>by
  unfold jS at h
  split at h
  ·rename_i e
   cases h
   rw[Nat.sub_self]
   exact⟨Nat.le_refl _,by rw[e];rfl⟩
  ·obtain⟨h1,h2⟩:=j9 h
   refine⟨by omega,?_⟩
   rw[show j-i=(j-(i+1))+1 by omega]
   exact h2
theorem oU{c:Int}:∀{ks:List Int} {i:Nat},jS c i ks=none→c ∉ ks
 |[],_,_=>by simp
 |x::ks,i,h=>by
  unfold jS at h
  split at h
  ·cases h
  ·rename_i e
   intro hm
   rcases List.mem_cons.1 hm with q|q
   ·exact e q
   ·exact oU h q
theorem CF(c:Int)(ks:List Int):(match jS c 0 ks with|some _=>true|none=>false)=decide (c∈ks):=by
 cases h:jS c 0 ks with
 |none=>exact(decide_eq_false (oU h)).symm
 |some j=>exact(decide_eq_true (List.mem_of_getElem? (j9 h).2)).symm
def vW(ks:List Int)(c:Int):List Int:=if c∈ks then ks else ks++[c]
theorem E7{ks:List Int}{c x:Int}:x∈vW ks c↔x=c∨x∈ks:=by
 unfold vW
 split
 ·rename_i h
  exact⟨.inr,fun q=>q.elim (fun e=>e▸h) id⟩
 ·rw[List.mem_append,List.mem_singleton]
  exact⟨fun q=>q.symm,fun q=>q.symm⟩
theorem By{base:Nat}{h:Heap}{e:Env}{m k:Operand}{r:Nat}{ks:List Int}{c:Int}(hm:ev h e m=some (.map (some r)))(hk:ev h e k=some (.int .i64 c))(hr:h.get r=some (.map (tr ks))):aop h base e (.lookup false [.i .i64] (.bool false) false m k)=some (.val (.bool (decide (c∈ks))) h):=by
 rw[←CF]
 simp only[aop,hm,hk,hr,tq,Ah,cond_true,EO]
 cases jS c 0 ks<;>rfl
theorem zC{α:Type}:∀{l:List α} {i:Nat} {x:α},l[i]? =some x→l.set i x=l
 |[],i,x,h=>by simp at h
 |y::l,0,x,h=>by simp at h;rw[h];rfl
 |y::l,i+1,x,h=>by rw[List.set_cons_succ,zC (by simpa using h)]
theorem xL{base:Nat}{h:Heap}{e:Env}{m k v:Operand}{r:Nat}{ks:List Int}{c:Int}(hm:ev h e m=some (.map (some r)))(hk:ev h e k=some (.int .i64 c))(hv:ev h e v=some (.bool true))(hr:h.get r=some (.map (tr ks))):
 aop h base e (.iy false [.i .i64] m k v)=some (.val (.tuple #[]) (h.wr base r (.map (tr (vW ks c))))):=by
 simp only[aop,hm,hk,hv,hr,Ah,cond_true,EO]
 cases hf:jS c 0 ks with
 |none=>
  have e:vW ks c=ks++[c]:=if_neg (oU hf)
  rw[e]
  simp only[Option.map_none,dW]
  unfold tr;rw[List.map_append];rfl
 |some j=>
  have hj:=(j9 hf).2
  rw[Nat.sub_zero]at hj
  have e:vW ks c=ks:=if_pos (List.mem_of_getElem? hj)
  rw[e]
  simp only[z7,jV]
  rw[zC (by unfold tr;rw[List.getElem?_map,hj];rfl)]
structure QW (R ks:List Int):Prop where
 mem:∀c,c∈ks↔c∈R
 nd:(R.filter fun i=>decide (i≠ -1)).Nodup
def oy{α:Type}(ok:α→Bool)(id:α→Int):List Int→List α→Bool
 |_,[]=>true
 |ks,x::l=>if ok x=false∨id x∈ks then false else oy ok id (vW ks (id x)) l
theorem uR{α:Type}{ok:α→Bool}{id:α→Int}{ks:List Int}{x:α}{l:List α}:oy ok id ks (x::l)=if ok x=false∨id x∈ks then false else oy ok id (vW ks (id x)) l:=rfl
theorem mV{α:Type}{ok:α→Bool}{id:α→Int}:∀{l:List α} {ks:List Int},oy ok id ks l=true↔(∀x∈l,ok x=true)∧(l.map id).Nodup∧∀x∈l,id x ∉ ks
 |[],ks=>by simp[oy]
 |x::l,ks=>by
  unfold oy
  by_cases h:ok x=false∨id x∈ks
  ·rw[if_pos h]
   constructor
   ·intro q;cases q
   ·rintro⟨q1,_,q3⟩
    rcases h with h|h
    ·rw[q1 x List.mem_cons_self]at h;cases h
    ·exact absurd h (q3 x List.mem_cons_self)
  ·rw[if_neg h,mV]
   have h1:ok x=true:=by cases q:ok x with
    |true=>rfl
    |false=>exact absurd (.inl q) h
   have h2:id x ∉ ks:=fun q=>h (.inr q)
   simp only[List.map_cons,List.nodup_cons,List.mem_map,List.mem_cons,forall_eq_or_imp,E7]
   constructor
   ·rintro⟨a,b,c⟩
    exact⟨⟨h1,a⟩,⟨fun⟨y,hy,e⟩=>c y hy (.inl e),b⟩,h2,fun y hy q=>c y hy (.inr q)⟩
   ·rintro⟨⟨_,a⟩,⟨b1,b2⟩,_,c⟩
    exact⟨a,b2,fun y hy q=>q.elim (fun e=>b1 ⟨y,hy,e⟩) (c y hy)⟩
structure DU (T:Nat→Option af):Prop where
 rt:sH T
 f272:T 106=some f272
 f275:T 109=some f275
set_option maxHeartbeats 16000000 in
theorem Ia(F:DU T){h:Heap}(hr:Rdy h){v:Value}{l:List Od}(s:OdS h v l)(hl:l.length<4611686018427387904):
 Pu T 106 [v, .func (.func 107) #[] #[], .func (.func 108) #[] #[]] h (.bool (oy odB Od.id [] l)):=by
 refine .of F.rt.p F.f272 hr rfl ?_
 obtain⟨a,c,rfl⟩:=s.form
 have x0:Ext h (h.push (.map [])):=(Ext.refl h).push _
 have g0:(h.push (.map [])).get h.next=some (.map (tr [])):=z3 _ _
 have n0:(h.push (.map [])).next=h.next+1:=rfl
 refine y4 ?_;refine yM ?_;refine y3 ?_;refine y4 ?_
 refine ah pN ?_
 refine yM ?_;refine y3 ?_
 generalize(h.push (.map []))=H at*
 have s0:=s.ext x0
 refine an ?_;refine y4 ?_;refine yM ?_;refine yD ?_;refine yM ?_;refine y3 ?_;refine aO ?_
 refine dL (fun m e ds h'=>∃i:Nat,∃ks:List Int,i≤l.length∧l.length-i=m∧e=[(1, .func (.func 107) #[] #[]),(2, .func (.func 108) #[] #[]),(7, .map (some h.next)),(11, .slice a l.length c),(12, .int .i64 (l.length:Nat)),(13, .int .i64 (i:Nat))]∧ds=[]∧Ext h h'∧h.next<h'.next∧h'.get h.next=some (.map (tr ks))∧oy odB Od.id [] l=oy odB Od.id ks (l.drop i))
  ⟨0,[],Nat.zero_le _,rfl,rfl,rfl,x0,by omega,g0,rfl⟩ ?_
 rintro m e ds G ⟨i,ks,hi,rfl,rfl,rfl,x,hn,gm,hd⟩
 rw[hd]
 clear hd g0
 have W:=x.wf hr.wf
 have hL:=x.log.trans hr.log
 by_cases hlt:i<l.length
 ·obtain⟨y,hy⟩:∃r,l[i]? =some r:=⟨l[i],List.getElem?_eq_getElem hlt⟩
  have hyw:=s.ok y (List.mem_of_getElem? hy)
  obtain⟨b,o,cc,vs,own,tt,hv,gl,hbl,el⟩:=(s.ext x).elem hy
  cases hv
  have hdr:l.drop i=y::l.drop (i+1):=by
   obtain⟨h1,rfl⟩:=List.getElem?_eq_some_iff.1 hy
   exact List.drop_eq_getElem_cons h1
  rw[hdr]
  have mlt:aA .lss (.int .i64 (i:Nat)) (.int .i64 (l.length:Nat))=some (.bool true):=gP (by omega)
  have k1:=ny hyw
  have k2:=qe hyw
  have k3:=fS hyw
  have k4:=nA y
  refine y4 ?_;refine yW ?_;refine y3 ?_;refine an ?_;refine yY ?_;refine bA ?_;refine bH ?_;refine an ?_;refine aO ?_
  refine cH (E0:=[(1, .func (.func 107) #[] #[]),(2, .func (.func 108) #[] #[]),(7, .map (some h.next)),(9, .pointer (some ⟨G.next,0,none⟩)),(11, .slice (some ⟨b,o,none⟩) l.length c),(12, .int .i64 (l.length:Nat)),(13, .int .i64 (i:Nat))]) (P:=fun h'=>Ext G h'∧h'.next=G.next+1∧h'.get G.next=some (.cells (odL y) true 1)) ?_ ?_
  ·refine aq ?_;refine yI ?_;refine yV ?_;refine ah (cZ) ?_
   refine ah (bQ (by exact rfl) (by exact rfl) (by(simp(disch:=first|omega|(simp only[z1,z2];omega))only[z3,z4,z5,z6,z7,z1,z2,gm,gl];exact rfl)) (by assumption) (by exact rfl) (by exact cF _)) ?_;refine ct ?_
   refine y1 ?_
   exact⟨rfl,rfl,rfl,ff (by omega) _ _,rfl,fE _ _⟩
  rintro G1 ⟨x1,n1,g9⟩
  have W1:=x1.wf W
  have hL1:=x1.log.trans hL
  have xx:=x.trans x1
  have gm1:=(x1.old _ hn).trans gm
  have C1:=GR F.rt (h:={G1 with log:=[]}) (.of W1) hyw
  have C2:=NN F.rt (h:={G1 with log:=[]}) (.of W1) hyw
  rw[uR]
  cases h1:odB y with
  |false=>
   rw[h1]at C1
   rw[if_pos (.inl rfl)]
   refine an ?_;refine y4 ?_;refine yM ?_;refine yV ?_
   refine yC ?_
   refine FW.pu C1 ?_
   refine yA ?_;refine yM ?_;refine yP ?_;refine yP ?_;refine yP ?_;refine yP ?_;refine yP ?_;refine yT ?_;refine y3 ?_;refine yY ?_;refine y4 ?_;refine yM ?_;refine y3 ?_;refine aM ?_;refine dZ ?_
   refine jL ?_;refine dZ ?_;refine dZ ?_;refine jL ?_;refine dZ ?_
   exact aD hL1 rfl rfl
  |true=>
   rw[h1]at C1
   refine an ?_;refine y4 ?_;refine yM ?_;refine yV ?_
   refine yC ?_
   refine FW.pu C1 ?_
   clear C1
   refine yA ?_;refine yM ?_;refine yO ?_;refine yM ?_;refine yO ?_;refine yM ?_;refine yO ?_;refine yV ?_;refine yO ?_
   refine yC ?_
   refine FW.pu C2 ?_
   refine HD rfl ?_
   refine ah (By (ks:=ks) (by exact rfl) (by exact rfl) gm1) ?_
   by_cases h2:y.id∈ks
   ·rw[if_pos (.inr h2),decide_eq_true h2]
    refine yU ?_;refine y3 ?_;refine yY ?_;refine y4 ?_;refine yM ?_;refine y3 ?_;refine aM ?_;refine dZ ?_;refine jL ?_;refine dZ ?_;refine dZ ?_;refine jL ?_;refine dZ ?_
    exact aD hL1 rfl rfl
   ·rw[if_neg (fun q=>q.elim (fun q=>by cases q) h2),decide_eq_false h2]
    refine yU ?_;refine y3 ?_;refine yX ?_;refine bA ?_;refine bH ?_;refine aq ?_;refine yM ?_;refine yM ?_
    refine yV ?_
    refine yC ?_
    refine FW.pu C2 ?_
    clear C2
    skip
    refine ah (xL (ks:=ks) (by exact rfl) (by exact rfl) (by exact rfl) gm1) ?_
    refine ct ?_;refine y1 ?_;refine fF ?_;refine bH ?_;refine aq ?_;refine iI ?_;refine yM ?_;refine y3 ?_
    exact⟨l.length-(i+1),by omega,i+1,vW ks y.id,by omega,rfl,rfl,rfl,xx.wr (Nat.le_refl _) (Nat.le_refl _),by show h.next<G1.next;omega,by rw[z6,gm1];rfl,rfl⟩
 ·obtain rfl:i=l.length:=by omega
  have mlt:aA .lss (.int .i64 (l.length:Nat)) (.int .i64 (l.length:Nat))=some (.bool false):=iF (by omega)
  rw[List.drop_length]
  refine y4 ?_;refine yW ?_;refine y3 ?_;refine an ?_;refine yX ?_;refine dz ?_;refine ek ?_;refine ek ?_;refine iY ?_;refine bH ?_
  refine y4 ?_;refine yM ?_;refine y3 ?_;refine aM ?_
  exact aD hL rfl rfl
set_option maxHeartbeats 16000000 in
theorem Ib(F:DU T){h:Heap}(hr:Rdy h){v:Value}{l:List Sp}(s:SpS h v l)(hl:l.length<4611686018427387904):
 Pu T 109 [v, .func (.func 110) #[] #[], .func (.func 112) #[] #[]] h (.bool (oy spB Sp.id [] l)):=by
 refine .of F.rt.p F.f275 hr rfl ?_
 obtain⟨a,c,rfl⟩:=s.form
 have x0:Ext h (h.push (.map [])):=(Ext.refl h).push _
 have g0:(h.push (.map [])).get h.next=some (.map (tr [])):=z3 _ _
 have n0:(h.push (.map [])).next=h.next+1:=rfl
 refine y4 ?_;refine yM ?_;refine y3 ?_;refine y4 ?_
 refine ah pN ?_
 refine yM ?_;refine y3 ?_
 generalize(h.push (.map []))=H at*
 have s0:=s.ext x0
 refine an ?_;refine y4 ?_;refine yM ?_;refine yD ?_;refine yM ?_;refine y3 ?_;refine aO ?_
 refine dL (fun m e ds h'=>∃i:Nat,∃ks:List Int,i≤l.length∧l.length-i=m∧e=[(1, .func (.func 110) #[] #[]),(2, .func (.func 112) #[] #[]),(7, .map (some h.next)),(11, .slice a l.length c),(12, .int .i64 (l.length:Nat)),(13, .int .i64 (i:Nat))]∧ds=[]∧Ext h h'∧h.next<h'.next∧h'.get h.next=some (.map (tr ks))∧oy spB Sp.id [] l=oy spB Sp.id ks (l.drop i))
  ⟨0,[],Nat.zero_le _,rfl,rfl,rfl,x0,by omega,g0,rfl⟩ ?_
 rintro m e ds G ⟨i,ks,hi,rfl,rfl,rfl,x,hn,gm,hd⟩
 rw[hd]
 clear hd g0
 have W:=x.wf hr.wf
 have hL:=x.log.trans hr.log
 by_cases hlt:i<l.length
 ·obtain⟨y,hy⟩:∃r,l[i]? =some r:=⟨l[i],List.getElem?_eq_getElem hlt⟩
  have hyw:=s.ok y (List.mem_of_getElem? hy)
  obtain⟨b,o,cc,vs,own,tt,hv,gl,hbl,el⟩:=(s.ext x).elem hy
  cases hv
  have hdr:l.drop i=y::l.drop (i+1):=by
   obtain⟨h1,rfl⟩:=List.getElem?_eq_some_iff.1 hy
   exact List.drop_eq_getElem_cons h1
  rw[hdr]
  have mlt:aA .lss (.int .i64 (i:Nat)) (.int .i64 (l.length:Nat))=some (.bool true):=gP (by omega)
  have k1:=kE hyw
  have k2:=mE hyw
  have k3:=eM hyw
  have k4:=kF y
  refine y4 ?_;refine yW ?_;refine y3 ?_;refine an ?_;refine yY ?_;refine bA ?_;refine bH ?_;refine an ?_;refine aO ?_
  refine cH (E0:=[(1, .func (.func 110) #[] #[]),(2, .func (.func 112) #[] #[]),(7, .map (some h.next)),(9, .pointer (some ⟨G.next,0,none⟩)),(11, .slice (some ⟨b,o,none⟩) l.length c),(12, .int .i64 (l.length:Nat)),(13, .int .i64 (i:Nat))]) (P:=fun h'=>Ext G h'∧h'.next=G.next+1∧h'.get G.next=some (.cells (spL y) true 1)) ?_ ?_
  ·refine aq ?_;refine yI ?_;refine yV ?_;refine ah (cZ) ?_
   refine ah (bQ (by exact rfl) (by exact rfl) (by(simp(disch:=first|omega|(simp only[z1,z2];omega))only[z3,z4,z5,z6,z7,z1,z2,gm,gl];exact rfl)) (by assumption) (by exact rfl) (by exact cF _)) ?_;refine ct ?_
   refine y1 ?_
   exact⟨rfl,rfl,rfl,ff (by omega) _ _,rfl,fE _ _⟩
  rintro G1 ⟨x1,n1,g9⟩
  have W1:=x1.wf W
  have hL1:=x1.log.trans hL
  have xx:=x.trans x1
  have gm1:=(x1.old _ hn).trans gm
  have C1:=Ow F.rt (h:={G1 with log:=[]}) (.of W1) hyw
  have C2:=NO F.rt (h:={G1 with log:=[]}) (.of W1) hyw
  rw[uR]
  cases h1:spB y with
  |false=>
   rw[h1]at C1
   rw[if_pos (.inl rfl)]
   refine an ?_;refine y4 ?_;refine yM ?_;refine yV ?_
   refine yC ?_
   refine FW.pu C1 ?_
   refine yA ?_;refine yM ?_;refine yP ?_;refine yP ?_;refine yP ?_;refine yP ?_;refine yP ?_;refine yT ?_;refine y3 ?_;refine yY ?_;refine y4 ?_;refine yM ?_;refine y3 ?_;refine aM ?_;refine dZ ?_
   refine jL ?_;refine dZ ?_;refine dZ ?_;refine jL ?_;refine dZ ?_
   exact aD hL1 rfl rfl
  |true=>
   rw[h1]at C1
   refine an ?_;refine y4 ?_;refine yM ?_;refine yV ?_
   refine yC ?_
   refine FW.pu C1 ?_
   clear C1
   refine yA ?_;refine yM ?_;refine yO ?_;refine yM ?_;refine yO ?_;refine yM ?_;refine yO ?_;refine yV ?_;refine yO ?_
   refine yC ?_
   refine FW.pu C2 ?_
   refine HD rfl ?_
   refine ah (By (ks:=ks) (by exact rfl) (by exact rfl) gm1) ?_
   by_cases h2:y.id∈ks
   ·rw[if_pos (.inr h2),decide_eq_true h2]
    refine yU ?_;refine y3 ?_;refine yY ?_;refine y4 ?_;refine yM ?_;refine y3 ?_;refine aM ?_;refine dZ ?_;refine jL ?_;refine dZ ?_;refine dZ ?_;refine jL ?_;refine dZ ?_
    exact aD hL1 rfl rfl
   ·rw[if_neg (fun q=>q.elim (fun q=>by cases q) h2),decide_eq_false h2]
    refine yU ?_;refine y3 ?_;refine yX ?_;refine bA ?_;refine bH ?_;refine aq ?_;refine yM ?_;refine yM ?_
    refine yV ?_
    refine yC ?_
    refine FW.pu C2 ?_
    clear C2
    skip
    refine ah (xL (ks:=ks) (by exact rfl) (by exact rfl) (by exact rfl) gm1) ?_
    refine ct ?_;refine y1 ?_;refine fF ?_;refine bH ?_;refine aq ?_;refine iI ?_;refine yM ?_;refine y3 ?_
    exact⟨l.length-(i+1),by omega,i+1,vW ks y.id,by omega,rfl,rfl,rfl,xx.wr (Nat.le_refl _) (Nat.le_refl _),by show h.next<G1.next;omega,by rw[z6,gm1];rfl,rfl⟩
 ·obtain rfl:i=l.length:=by omega
  have mlt:aA .lss (.int .i64 (l.length:Nat)) (.int .i64 (l.length:Nat))=some (.bool false):=iF (by omega)
  rw[List.drop_length]
  refine y4 ?_;refine yW ?_;refine y3 ?_;refine an ?_;refine yX ?_;refine dz ?_;refine ek ?_;refine ek ?_;refine iY ?_;refine bH ?_
  refine y4 ?_;refine yM ?_;refine y3 ?_;refine aM ?_
  exact aD hL rfl rfl
end Go.A.Pk
end
