/- Walks of functions, plain laws, the table. -/
import Derived.Test.YtgffeapobcfigaaGreatDoorQF
import Derived.Test.YtgffeapobcfigaaGreatDoorQV
import Derived.Test.YtgffeapobcfigaaGreatDoorQD
set_option linter.all false
section
set_option maxRecDepth 100000
namespace Go.A.Pk
variable {T:Nat→Option AFunc}
structure Rd where
 id:Int
 known:Int
 kind:Nat
 cells:List Nat
 of:Int
 deriving DecidableEq
structure IsR (r:Rd):Prop where
 cells:IsS r.cells
 kind:r.kind<256
def rdL(r:Rd):List Value:= .int .i64 r.id:: .int .i64 r.known:: .int .u8 (r.kind:Nat)::(us r.cells++[.int .i64 r.of])
theorem rdL_length{r:Rd}(h:IsR r):(rdL r).length=12:=by
 simp[rdL,us_length,h.cells.len]
theorem rdL_of{r:Rd}(h:IsR r):lget (rdL r) (0+11)=some (.int .i64 r.of):=by
 rw[lget_eq]
 show((us r.cells++[Value.int .i64 r.of]))[8]? =_
 rw[List.getElem?_append_right (by rw[us_length,h.cells.len];omega),us_length,h.cells.len];rfl
theorem rdL_cells{r:Rd}(h:IsR r):ltake 8 (ldrop (0+3) (rdL r))=us r.cells:=by
 rw[ltake_eq,ldrop_eq]
 show(us r.cells++[Value.int .i64 r.of]).take 8=_
 rw[List.take_append_of_le_length (by rw[us_length,h.cells.len];omega),List.take_of_length_le (by rw[us_length,h.cells.len];omega)]
theorem ones_app:∀{a b:List Value},ones a=true→ones b=true→ones (a++b)=true
 |[],_,_,h=>h
 |v::a,b,h1,h2=>by
  rw[List.cons_append]
  cases v<;>first|(simp only[ones]at h1;cases h1;done)|(simp only[ones]at h1⊢;exact ones_app h1 h2)
end Go.A.Pk
end
section
set_option maxRecDepth 100000
namespace Go.A.Pk
variable {T:Nat→Option AFunc}
def rsL(l:List Rd):List Value:=l.flatMap rdL
theorem rsL_cons(r:Rd)(l:List Rd):rsL (r::l)=rdL r++rsL l:=by simp[rsL]
theorem rsL_length:∀{l:List Rd},(∀r∈l,IsR r)→(rsL l).length=l.length*12
 |[],_=>rfl
 |r::l,h=>by
  have ih:=rsL_length (l:=l) fun x hx=>h x (List.mem_cons_of_mem _ hx)
  simp only[rsL,List.flatMap_cons,List.length_append,rdL_length (h r List.mem_cons_self),List.length_cons]at ih⊢
  rw[ih];omega
theorem rsL_drop:∀{l:List Rd} {i:Nat},(∀r∈l,IsR r)→(rsL l).drop (i*12)=rsL (l.drop i)
 |l,0,_=>by simp
 |[],i+1,_=>by simp[rsL]
 |r::l,i+1,h=>by
  have ih:=rsL_drop (l:=l) (i:=i) fun x hx=>h x (List.mem_cons_of_mem _ hx)
  rw[rsL_cons,List.drop_succ_cons,←ih,show(i+1)*12=(rdL r).length+i*12 by rw[rdL_length (h r List.mem_cons_self)];omega,←List.drop_drop,List.drop_left]
theorem rsL_at{l:List Rd}{i:Nat}{r:Rd}(h:∀r∈l,IsR r)(hi:l[i]? =some r):((rsL l).drop (i*12)).take 12=rdL r:=by
 rw[rsL_drop h]
 obtain⟨hlt,rfl⟩:=List.getElem?_eq_some_iff.1 hi
 rw[List.drop_eq_getElem_cons hlt]
 rw[rsL_cons,List.take_append_of_le_length (by rw[rdL_length (h _ (List.getElem_mem hlt))];omega),List.take_of_length_le (by rw[rdL_length (h _ (List.getElem_mem hlt))];omega)]
structure RdAt (vs:List Value) (o:Nat) (r:Rd):Prop where
 all:ltake 12 (ldrop o vs)=rdL r
 id:lget vs (o+0)=some (.int .i64 r.id)
 known:lget vs (o+1)=some (.int .i64 r.known)
 kind:lget vs (o+2)=some (.int .u8 (r.kind:Nat))
 cells:ltake 8 (ldrop (o+3) vs)=us r.cells
 of:lget vs (o+11)=some (.int .i64 r.of)
theorem RdAt.mk'{vs:List Value}{o:Nat}{r:Rd}(hR:IsR r)(h:(vs.drop o).take 12=rdL r):RdAt vs o r:=by
 have g:∀i,i<12→lget vs (o+i)=(rdL r)[i]? :=fun i hi=>by
  rw[lget_eq,←h,List.getElem?_take_of_lt hi,List.getElem?_drop]
 refine⟨by rw[ltake_eq,ldrop_eq];exact h,(g 0 (by omega)).trans rfl,(g 1 (by omega)).trans rfl,(g 2 (by omega)).trans rfl,?_,?_⟩
 ·have:=rdL_cells hR
  rw[←this,ltake_eq,ldrop_eq,ltake_eq,ldrop_eq,←h,List.drop_take,List.drop_drop,List.take_take]
  rfl
 ·rw[g 11 (by omega)]
  have:=rdL_of hR
  rw[lget_eq]at this
  exact this
theorem rd_elem{h:Heap}{b o n:Nat}{l:List Rd}(s:SliceAt h b o n 12 (rsL l))(hl:∀r∈l,IsR r){i:Nat}{r:Rd}(hi:l[i]? =some r):∃vs own t,h.get b=some (.cells vs own t)∧RdAt vs (o+i*12) r∧o+i*12+12≤vs.length:=by
 obtain⟨vs,own,t,h1,h2⟩:=s.obj
 have hlen:=s.len
 rw[rsL_length hl]at hlen
 have hilt:i<l.length:=(List.getElem?_eq_some_iff.1 hi).1
 have hn:n=l.length:=by omega
 rw[ltake_eq,ldrop_eq]at h2
 have hr:=rsL_at hl hi
 rw[←h2,List.drop_take,List.drop_drop,List.take_take,Nat.min_eq_left (by omega)]at hr
 have hlv:(vs.drop o).length≥n*12:=by
  have:=congrArg List.length h2
  rw[rsL_length hl,List.length_take]at this
  omega
 rw[List.length_drop]at hlv
 exact⟨vs,own,t,h1, .mk' (hl r (List.mem_of_getElem? hi)) hr,by omega⟩
end Go.A.Pk
end
section
set_option maxRecDepth 100000
namespace Go.A.Pk
variable {T:Nat→Option AFunc}
structure RdS (h:Heap) (v:Value) (l:List Rd):Prop where
 sl:SliceOf h 12 v l.length (rsL l)
 ok:∀r∈l,IsR r
theorem RdS.elem{h:Heap}{a:Option Addr}{n c:Nat}{l:List Rd}(s:RdS h (.slice a n c) l){i:Nat}{r:Rd}(hi:l[i]? =some r):
 ∃b o vs own t,a=some ⟨b,o,none⟩∧h.get b=some (.cells vs own t)∧RdAt vs (o+i*12) r∧b<h.next∧o+i*12+12≤vs.length:=by
 have hlt:=(List.getElem?_eq_some_iff.1 hi).1
 rcases s.sl.inv with⟨_,_,h0,_⟩|⟨b,o,cap,hv,s1,hc⟩
 ·omega
 ·cases hv
  obtain⟨vs,own,t,g1,g2,g3⟩:=rd_elem s1 s.ok hi
  exact⟨b,o,vs,own,t,rfl,g1,g2,s1.lt,g3⟩
theorem RdS.len{h:Heap}{a:Option Addr}{n c:Nat}{l:List Rd}(s:RdS h (.slice a n c) l):n=l.length:=by
 rcases s.sl.inv with⟨_,hv,h0,_⟩|⟨b,o,cap,hv,s1,hc⟩
 ·cases hv;exact h0.symm
 ·cases hv;rfl
theorem RdS.ext{h h':Heap}{v:Value}{l:List Rd}(s:RdS h v l)(x:Ext h h'):RdS h' v l:=⟨s.sl.ext x,s.ok⟩
theorem RdS.log{h:Heap}{v:Value}{l:List Rd}(s:RdS h v l)(m:List Nat):RdS {h with log:=m} v l:=⟨s.sl.log m,s.ok⟩
end Go.A.Pk
end
section
set_option maxRecDepth 100000
namespace Go.A.Pk
variable {T:Nat→Option AFunc}
def CloR(lo:Nat)(l:List Rd)(v:Value)(h:Heap):Prop:=
 (v= .slice none 0 0∧l=[])∨∃b,lo≤b∧b<h.next∧h.get b=some (.cells (rsL l) true 12)∧((l=[]∧v= .slice (some ⟨b,0,none⟩) 0 0)∨(l≠[]∧v= .slice (some ⟨b,0,none⟩) l.length UNK))
theorem CloR.rd{lo:Nat}{l:List Rd}{v:Value}{h:Heap}(q:CloR lo l v h)(hl:∀r∈l,IsR r)(hn:l.length<1000000):RdS h v l:=by
 refine⟨?_,hl⟩
 rcases q with⟨rfl,rfl⟩|⟨b,h1,h2,h3,⟨rfl,rfl⟩|⟨h4,rfl⟩⟩
 ·exact .nil
 ·exact .mem ⟨h2,⟨_,_,_,h3,rfl⟩,rfl⟩ (Nat.le_refl _)
 ·refine .mem ⟨h2,⟨_,_,_,h3,?_⟩,rsL_length hl⟩ ?_
  ·rw[ltake_eq,ldrop_eq,List.drop_zero,List.take_of_length_le (by rw[rsL_length hl];omega)]
  ·unfold UNK;omega
theorem CloR.log{lo:Nat}{l:List Rd}{v:Value}{h:Heap}(m:List Nat)(q:CloR lo l v h):CloR lo l v {h with log:=m}:=q
theorem rsL_app(a b:List Rd):rsL (a++b)=rsL a++rsL b:=by simp[rsL]
theorem rsL_take{l:List Rd}{i:Nat}(h:∀r∈l,IsR r):(rsL l).take (i*12)=rsL (l.take i):=by
 by_cases hi:i≤l.length
 ·have e:l=l.take i++l.drop i:=(List.take_append_drop i l).symm
  have hlen:(rsL (l.take i)).length=i*12:=by rw[rsL_length fun r hr=>h r (List.mem_of_mem_take hr),List.length_take,Nat.min_eq_left hi]
  conv=>lhs;rw[e,rsL_app]
  rw[←hlen,List.take_left]
 ·rw[List.take_of_length_le (by rw[rsL_length h];omega),List.take_of_length_le (by omega)]
end Go.A.Pk
end
section
set_option maxRecDepth 100000
namespace Go.A.Pk
variable {T:Nat→Option AFunc}
theorem RdS.take{h:Heap}{a:Option Addr}{n c:Nat}{l:List Rd}(s:RdS h (.slice a n c) l){i:Nat}(hi:i≤l.length):RdS h (.slice a i i) (l.take i):=by
 obtain rfl:=s.len
 refine⟨?_,fun r hr=>s.ok r (List.mem_of_mem_take hr)⟩
 have e:=s.sl.take hi
 rw[rsL_take s.ok]at e
 rw[List.length_take,Nat.min_eq_left hi]
 exact e
theorem RdS.cap{h:Heap}{a:Option Addr}{n c:Nat}{l:List Rd}(s:RdS h (.slice a n c) l):n≤c:=by
 rcases s.sl.inv with⟨_,hv,h0,_⟩|⟨b,o,cap,hv,s1,hc⟩
 ·cases hv;omega
 ·cases hv;exact hc
end Go.A.Pk
end
section
set_option maxRecDepth 100000
namespace Go.A.Pk
variable {T:Nat→Option AFunc}
def AppR(e:Int)(l:List Rd)(v:Value)(h:Heap):Prop:=∃x,v= .tuple #[x, .int .i64 e]∧RdS h x (if e=0 then l else [])
theorem AppR.flat{e:Int}{l:List Rd}{v:Value}{h h':Heap}(hv:noRef v=true)(q:AppR e l v h):AppR e l v h':=by
 obtain⟨x,rfl,s⟩:=q
 refine⟨x,rfl,?_,s.ok⟩
 rcases s.sl.inv with⟨c',rfl,h0,e1⟩|⟨b,o,cap',rfl,s1,hc⟩
 ·rw[h0,e1];exact .nil
 ·simp[noRef,flatL,scalL]at hv
  cases hv.1
end Go.A.Pk
end
section
set_option maxRecDepth 100000
namespace Go.A.Pk
variable {T:Nat→Option AFunc}
open Classical in
noncomputable def pSd:List Value→Heap→Option (Value×Heap)
 |[],h=>if Tab h then some (.bool true,h)else none
 |_,_=>none
theorem puSd{h:Heap}(hf:T 21=some (.prim pSd))(hg:Tab h):Pu T 21 [] h (.bool true):=by
 refine⟨_,_,⟨1,fun n hn=> ?_⟩,rfl,rfl⟩
 obtain⟨k,rfl⟩:∃k,n=k+1:=⟨n-1,by omega⟩
 simp only[acall,hf,pSd,if_pos hg]
end Go.A.Pk
end
section
set_option maxRecDepth 100000
namespace Go.A.Pk
variable {T:Nat→Option AFunc}
def wL(w:List Nat×List Nat):List Value:=us w.1++us w.2
def wV(w:List Nat×List Nat):Value:= .agg (wL w).toArray
structure IsW (w:List Nat×List Nat):Prop where
 a:IsS w.1
 b:IsS w.2
theorem wL_length{w:List Nat×List Nat}(h:IsW w):(wL w).length=16:=by
 simp[wL,us_length,h.a.len,h.b.len]
theorem wL_a{w:List Nat×List Nat}(h:IsW w):ltake 8 (ldrop (0+0) (wL w))=us w.1:=by
 rw[ltake_eq,ldrop_eq,Nat.zero_add,List.drop_zero]
 show(us w.1++us w.2).take 8=_
 rw[List.take_append_of_le_length (by rw[us_length,h.a.len];omega),List.take_of_length_le (by rw[us_length,h.a.len];omega)]
theorem wL_b{w:List Nat×List Nat}(h:IsW w):ltake 8 (ldrop (0+8) (wL w))=us w.2:=by
 rw[ltake_eq,ldrop_eq,Nat.zero_add]
 show((us w.1++us w.2).drop 8).take 8=_
 rw[List.drop_append_of_le_length (by rw[us_length,h.a.len];omega),List.drop_of_length_le (by rw[us_length,h.a.len];omega),List.nil_append,List.take_of_length_le (by rw[us_length,h.b.len];omega)]
theorem wL_all{w:List Nat×List Nat}(h:IsW w):ltake 16 (ldrop 0 (wL w))=wL w:=by
 rw[ltake_eq,ldrop_eq,List.drop_zero,List.take_of_length_le (by rw[wL_length h];omega)]
theorem wL_llen{w:List Nat×List Nat}(h:IsW w):Nat.beq (llen (wL w)) 16=true:=by rw[llen_eq,wL_length h];rfl
theorem scal_usW:∀(pl:List Nat) (t:List Value),scalL t=true→scalL (us pl++t)=true
 |[],_,h=>h
 |x::pl,t,h=>scal_usW pl t h
theorem noRef_wV(w:List Nat×List Nat):noRef (wV w)=true:=by
 show flat (.agg (wL w).toArray)=true
 simp only[flat]
 exact scal_usW w.1 (us w.2) (us_scal _)
end Go.A.Pk
end
section
set_option maxRecDepth 100000
namespace Go.A.Pk
variable {T:Nat→Option AFunc}
def w0:List Nat×List Nat:=(s0,s0)
end Go.A.Pk
end
section
set_option maxRecDepth 100000
namespace Go.A.Pk
variable {T:Nat→Option AFunc}
theorem ext_pw{h:Heap}{base:Nat}(hb:base≤h.next)(o o':AObj):Ext h ((h.push o).wr base h.next o'):=⟨Nat.le_succ _,Heap.log_wr_new hb,fun b hb=>by
 rw[z5 (by omega),z4 hb],fun w=>(w.push _).as (AS.wr base _ _ _)⟩
theorem get_pw{h:Heap}{base:Nat}(vs ws:List Value):((h.push (.cells vs true 1)).wr base h.next (.cells ws true 1)).get h.next=some (.cells ws true 1):=by rw[z6,z3];rfl
end Go.A.Pk
end
