/- Walks of functions, plain laws, the table. -/
import Derived.Test.YtgffeapobcfigaaGreatDoorPF
import Derived.Test.YtgffeapobcfigaaGreatDoorPV
import Derived.Test.YtgffeapobcfigaaGreatDoorPD
set_option linter.all false
section
set_option maxRecDepth 100000
namespace Go.A.Pk
variable {T:Nat→Option AFunc}
structure Rd where
 id:Int
 known:Int
 kind:Nat
 cells:List Nat
 of:Int
 deriving DecidableEq
structure IsR (r:Rd):Prop where
 cells:IsS r.cells
 kind:r.kind<256
def rdL(r:Rd):List Value:= .int .i64 r.id:: .int .i64 r.known:: .int .u8 (r.kind:Nat)::(us r.cells++[.int .i64 r.of])
def rdV(r:Rd):Value:= .agg (rdL r).toArray
theorem rdL_length{r:Rd}(h:IsR r):(rdL r).length=12:=by
 simp[rdL,us_length,h.cells.len]
theorem rdL_of{r:Rd}(h:IsR r):lget (rdL r) (0+11)=some (.int .i64 r.of):=by
 rw[lget_eq]
 show((us r.cells++[Value.int .i64 r.of]))[8]? =_
 rw[List.getElem?_append_right (by rw[us_length,h.cells.len];omega),us_length,h.cells.len];rfl
theorem rdL_cells{r:Rd}(h:IsR r):ltake 8 (ldrop (0+3) (rdL r))=us r.cells:=by
 rw[ltake_eq,ldrop_eq]
 show(us r.cells++[Value.int .i64 r.of]).take 8=_
 rw[List.take_append_of_le_length (by rw[us_length,h.cells.len];omega),List.take_of_length_le (by rw[us_length,h.cells.len];omega)]
theorem rdL_all{r:Rd}(h:IsR r):ltake 12 (ldrop 0 (rdL r))=rdL r:=by
 rw[ltake_eq,ldrop_eq,List.drop_zero,List.take_of_length_le (by rw[rdL_length h];omega)]
theorem rdL_llen{r:Rd}(h:IsR r):Nat.beq (llen (rdL r)) 12=true:=by rw[llen_eq,rdL_length h];rfl
theorem ones_app:∀{a b:List Value},ones a=true→ones b=true→ones (a++b)=true
 |[],_,_,h=>h
 |v::a,b,h1,h2=>by
  rw[List.cons_append]
  cases v<;>first|(simp only[ones]at h1;cases h1;done)|(simp only[ones]at h1⊢;exact ones_app h1 h2)
theorem rdL_ones(r:Rd):ones (rdL r)=true:=by
 show ones (us r.cells++[.int .i64 r.of])=true
 exact ones_app (us_ones _) rfl
def ckOk(r:Rd):Bool:=(inR r.id 1 1000000&&inR r.known 0 100000)&&
 ((decide (r.kind=1)||decide (r.kind=2))&&(!decide (r.cells=s0)&&decide (r.of=0))||decide (r.kind=3)&&(decide (r.cells=s0)&&inR r.of 1 1000000))
def ckR(r:Rd):Int:=if ckOk r then 0 else 1
structure FnsRd (T:Nat→Option AFunc):Prop where
 p:primAS T
 f47:T 47=some f47
 f106:T 106=some f106
 f90:T 90=some f90
theorem m_eqI{k:IntKind}{a:Nat}{b:Int}{c:Nat}(hb:b=(c:Int)):numOp .eql (.int k (a:Nat)) (.int k b)=some (.bool (decide (a=c))):=by
 subst hb
 rw[m_eql]
 by_cases h:a=c
 ·subst h;simp
 ·rw[decide_eq_false h]
  have:((a:Int)==(c:Int))=false:=by simp;omega
  rw[this]
theorem m_eqO{a:Int}:numOp .eql (.int .i64 a) (.int .i64 0)=some (.bool (decide (a=0))):=by
 rw[m_eql]
 by_cases h:a=0
 ·subst h;simp
 ·rw[decide_eq_false h]
  have:(a==0)=false:=by simpa using h
  rw[this]
set_option maxHeartbeats 4000000 in
theorem check47(F:FnsRd T){h:Heap}(hr:Rdy h){r:Rd}(hR:IsR r):Pu T 47 [rdV r] h (.int .i64 (ckR r)):=by
 refine .of F.p F.f47 hr rfl ?_
 have k3:=rdL_cells hR
 have k8:=us_llen hR.cells.len
 have k11:=rdL_of hR
 have W:=hr.wf.push (.cells (cellsOf (rdV r)) true 1)
 have C:=fun n a b=>in106 F.p F.f106 (.of W) n a b
 have C2:=empty90 F.p F.f90 (.of W) hR.cells
 have m0:numOp .eql (.int .i64 r.of) (.int .i64 0)=_:=m_eqO
 have m1:numOp .eql (.int .u8 (r.kind:Nat)) (.int .u8 1)=_:=m_eqI (c:=1) rfl
 have m2:numOp .eql (.int .u8 (r.kind:Nat)) (.int .u8 2)=_:=m_eqI (c:=2) rfl
 have m3:numOp .eql (.int .u8 (r.kind:Nat)) (.int .u8 3)=_:=m_eqI (c:=3) rfl
 unfold ckR ckOk
 generalize hc1:decide (r.kind=1)=c1 at m1⊢
 generalize hc2:decide (r.kind=2)=c2 at m2⊢
 generalize hc3:decide (r.kind=3)=c3 at m3⊢
 generalize decide (r.of=0)=c0 at m0⊢
 generalize decide (r.cells=s0)=ce at C2⊢
 have D1:=C r.id 1 1000000
 have D2:=C r.known 0 100000
 have D3:=C r.of 1 1000000
 clear C
 generalize inR r.id 1 1000000=d1 at D1⊢
 generalize inR r.known 0 100000=d2 at D2⊢
 generalize inR r.of 1 1000000=d3 at D3⊢
 refine y4 ?_;refine yB ?_;refine yM ?_;refine y3 ?_
 refine wE_cutE (E:=[(1, .pointer (some ⟨h.next,0,none⟩)),(3, .bool (d1&&d2))]) (H:=h.push (.cells (cellsOf (rdV r)) true 1)) ?_ ?_
 ·refine wE_region ?_;refine yF ?_;refine yL ?_
  refine yC ?_
  refine FW.pu D1 ?_
  cases d1 with
  |false=>
   refine yM ?_;refine yP ?_;refine yP ?_;refine yP ?_;refine yU ?_;refine yM ?_;refine wO_nil ?_;refine y1 ?_
   exact⟨rfl,rfl,rfl,rfl⟩
  |true=>
   refine yM ?_;refine yO ?_;refine yF ?_;refine yO ?_
   refine yL ?_;refine yO ?_
   refine yC ?_
   refine FW.pu D2 ?_
   refine yT ?_;refine yM ?_;refine wO_nil ?_;refine y1 ?_
   exact⟨rfl,rfl,rfl,rfl⟩
 clear D1 D2
 generalize(d1&&d2)=ok
 refine wE_cutE (E:=[(3, .bool (ok&&((c1||c2)&&(!ce&&c0)||c3&&(ce&&d3))))]) (H:=h.push (.cells (cellsOf (rdV r)) true 1)) ?_ ?_
 ·cases hh1:c1 with
  |true=>
   subst hh1
   have:c3=false:=by rw[←hc3,of_decide_eq_true hc1];rfl
   subst this
   cases ok with
   |false=>
    refine y4 ?_;refine yF ?_;refine yL ?_;refine y3 ?_;refine wE_block ?_;refine wE_seq ?_;refine y4 ?_;refine wO_val (a_num (by exact rfl) (by exact rfl) (by with_reducible assumption)) ?_;refine yM ?_;refine y3 ?_;refine yY ?_;refine wE_skip ?_;refine kS_n ?_;refine yY ?_;refine wE_region ?_;refine yM ?_;refine yM ?_;refine yP ?_
    refine yP ?_;refine yP ?_;refine yP ?_;refine yU ?_;refine yM ?_;refine yP ?_;refine yP ?_;refine yP ?_
    refine yU ?_;refine yM ?_;refine wO_nil ?_;refine y1 ?_;refine kB_n ?_
    exact⟨rfl,rfl,rfl,rfl⟩
   |true=>
    refine y4 ?_;refine yF ?_;refine yL ?_;refine y3 ?_;refine wE_block ?_;refine wE_seq ?_;refine y4 ?_;refine wO_val (a_num (by exact rfl) (by exact rfl) (by with_reducible assumption)) ?_;refine yM ?_;refine y3 ?_;refine yY ?_;refine wE_skip ?_;refine kS_n ?_;refine yY ?_;refine wE_region ?_;refine yM ?_;refine yM ?_;refine yO ?_;refine yF ?_
    refine yO ?_;refine wO_val (a_loadN (by exact rfl) (by(simp(disch:=first|omega|(simp only[z1,z2];omega))only[z3,z4,z5,z6,z7,z1,z2];exact rfl)) (by assumption) (by assumption)) ?_;refine yO ?_
    refine yC ?_
    refine FW.pu C2 ?_
    cases ce with
    |true=>
     refine yO ?_;refine yA ?_;refine yT ?_;refine yM ?_;refine yP ?_;refine yP ?_;refine yP ?_;refine yU ?_
     refine yM ?_;refine wO_nil ?_;refine y1 ?_;refine kB_n ?_
     exact⟨rfl,by cases c2<;>rfl,rfl,rfl⟩
    |false=>
     refine yO ?_;refine yA ?_;refine yT ?_;refine yM ?_;refine yO ?_;refine yF ?_;refine yO ?_
     refine wO_val (a_load (by exact rfl) (by(simp(disch:=first|omega|(simp only[z1,z2];omega))only[z3,z4,z5,z6,z7,z1,z2];exact rfl)) (by assumption)) ?_;refine yO ?_;refine wO_val (a_num (by exact rfl) (by exact rfl) (by with_reducible assumption)) ?_
     refine yT ?_;refine yM ?_;refine wO_nil ?_;refine y1 ?_;refine kB_n ?_
     exact⟨rfl,by cases c2<;>cases c0<;>rfl,rfl,rfl⟩
  |false=>
   subst hh1
   cases hh2:c2 with
   |true=>
    subst hh2
    have:c3=false:=by rw[←hc3,of_decide_eq_true hc2];rfl
    subst this
    cases ok with
    |false=>
     refine y4 ?_;refine yF ?_;refine yL ?_;refine y3 ?_;refine wE_block ?_;refine wE_seq ?_;refine y4 ?_;refine wO_val (a_num (by exact rfl) (by exact rfl) (by with_reducible assumption)) ?_;refine yM ?_;refine y3 ?_;refine yX ?_;refine wE_region ?_;refine wO_val (a_num (by exact rfl) (by exact rfl) (by with_reducible assumption)) ?_;refine yM ?_;refine y3 ?_;refine yY ?_;refine wE_region ?_;refine yM ?_;refine yM ?_;refine yP ?_;refine yP ?_;refine yP ?_
     refine yP ?_;refine yU ?_;refine yM ?_;refine yP ?_;refine yP ?_;refine yP ?_;refine yU ?_;refine yM ?_
     refine wO_nil ?_;refine y1 ?_;refine kB_n ?_
     exact⟨rfl,rfl,rfl,rfl⟩
    |true=>
     refine y4 ?_;refine yF ?_;refine yL ?_;refine y3 ?_;refine wE_block ?_;refine wE_seq ?_;refine y4 ?_;refine wO_val (a_num (by exact rfl) (by exact rfl) (by with_reducible assumption)) ?_;refine yM ?_;refine y3 ?_;refine yX ?_;refine wE_region ?_;refine wO_val (a_num (by exact rfl) (by exact rfl) (by with_reducible assumption)) ?_;refine yM ?_;refine y3 ?_;refine yY ?_;refine wE_region ?_;refine yM ?_;refine yM ?_;refine yO ?_;refine yF ?_;refine yO ?_
     refine wO_val (a_loadN (by exact rfl) (by(simp(disch:=first|omega|(simp only[z1,z2];omega))only[z3,z4,z5,z6,z7,z1,z2];exact rfl)) (by assumption) (by assumption)) ?_;refine yO ?_
     refine yC ?_
     refine FW.pu C2 ?_
     cases ce with
     |true=>
      refine yO ?_;refine yA ?_;refine yT ?_;refine yM ?_;refine yP ?_;refine yP ?_;refine yP ?_;refine yU ?_
      refine yM ?_;refine wO_nil ?_;refine y1 ?_;refine kB_n ?_
      exact⟨rfl,rfl,rfl,rfl⟩
     |false=>
      refine yO ?_;refine yA ?_;refine yT ?_;refine yM ?_;refine yO ?_;refine yF ?_;refine yO ?_
      refine wO_val (a_load (by exact rfl) (by(simp(disch:=first|omega|(simp only[z1,z2];omega))only[z3,z4,z5,z6,z7,z1,z2];exact rfl)) (by assumption)) ?_;refine yO ?_;refine wO_val (a_num (by exact rfl) (by exact rfl) (by with_reducible assumption)) ?_
      refine yT ?_;refine yM ?_;refine wO_nil ?_;refine y1 ?_;refine kB_n ?_
      exact⟨rfl,by cases c0<;>rfl,rfl,rfl⟩
   |false=>
    subst hh2
    cases hh3:c3 with
    |true=>
     subst hh3
     cases ok with
     |false=>
      refine y4 ?_;refine yF ?_;refine yL ?_;refine y3 ?_;refine wE_block ?_;refine wE_seq ?_;refine y4 ?_;refine wO_val (a_num (by exact rfl) (by exact rfl) (by with_reducible assumption)) ?_;refine yM ?_;refine y3 ?_;refine yX ?_;refine wE_region ?_;refine wO_val (a_num (by exact rfl) (by exact rfl) (by with_reducible assumption)) ?_;refine yM ?_;refine y3 ?_;refine yX ?_;refine y4 ?_;refine wO_val (a_num (by exact rfl) (by exact rfl) (by with_reducible assumption)) ?_;refine yM ?_;refine y3 ?_;refine yY ?_;refine wE_region ?_;refine yM ?_;refine yM ?_;refine yP ?_;refine yP ?_;refine yP ?_
      refine yU ?_;refine yM ?_;refine yP ?_;refine yP ?_;refine yP ?_;refine yU ?_;refine yM ?_;refine wO_nil ?_
      refine y1 ?_;refine kB_n ?_
      exact⟨rfl,rfl,rfl,rfl⟩
     |true=>
      refine y4 ?_;refine yF ?_;refine yL ?_;refine y3 ?_;refine wE_block ?_;refine wE_seq ?_;refine y4 ?_;refine wO_val (a_num (by exact rfl) (by exact rfl) (by with_reducible assumption)) ?_;refine yM ?_;refine y3 ?_;refine yX ?_;refine wE_region ?_;refine wO_val (a_num (by exact rfl) (by exact rfl) (by with_reducible assumption)) ?_;refine yM ?_;refine y3 ?_;refine yX ?_;refine y4 ?_;refine wO_val (a_num (by exact rfl) (by exact rfl) (by with_reducible assumption)) ?_;refine yM ?_;refine y3 ?_;refine yY ?_;refine wE_region ?_;refine yM ?_;refine yM ?_;refine yO ?_;refine yF ?_;refine yO ?_
      refine wO_val (a_loadN (by exact rfl) (by(simp(disch:=first|omega|(simp only[z1,z2];omega))only[z3,z4,z5,z6,z7,z1,z2];exact rfl)) (by assumption) (by assumption)) ?_;refine yO ?_
      refine yC ?_
      refine FW.pu C2 ?_
      cases ce with
      |true=>
       refine yT ?_;refine yM ?_;refine yO ?_;refine yF ?_;refine yO ?_
       refine wO_val (a_load (by exact rfl) (by(simp(disch:=first|omega|(simp only[z1,z2];omega))only[z3,z4,z5,z6,z7,z1,z2];exact rfl)) (by assumption)) ?_;refine yO ?_
       refine yC ?_
       refine FW.pu D3 ?_
       refine yT ?_;refine yM ?_;refine wO_nil ?_;refine y1 ?_;refine kB_n ?_
       exact⟨rfl,by cases d3<;>rfl,rfl,rfl⟩
      |false=>
       refine yT ?_;refine yM ?_;refine yP ?_;refine yP ?_;refine yP ?_;refine yU ?_;refine yM ?_;refine wO_nil ?_
       refine y1 ?_;refine kB_n ?_
       exact⟨rfl,rfl,rfl,rfl⟩
    |false=>
     subst hh3
     refine y4 ?_;refine yF ?_;refine yL ?_;refine y3 ?_;refine wE_block ?_;refine wE_seq ?_;refine y4 ?_;refine wO_val (a_num (by exact rfl) (by exact rfl) (by with_reducible assumption)) ?_;refine yM ?_;refine y3 ?_;refine yX ?_;refine wE_region ?_;refine wO_val (a_num (by exact rfl) (by exact rfl) (by with_reducible assumption)) ?_;refine yM ?_;refine y3 ?_;refine yX ?_;refine y4 ?_;refine wO_val (a_num (by exact rfl) (by exact rfl) (by with_reducible assumption)) ?_;refine yM ?_;refine y3 ?_;refine yX ?_;refine wE_region ?_;refine yM ?_;refine wO_nil ?_;refine y1 ?_;refine kB_n ?_
     exact⟨rfl,by cases ok<;>rfl,rfl,rfl⟩
 clear C2 D3 m0 m1 m2 m3 hc1 hc2 hc3
 generalize(ok&&((c1||c2)&&(!ce&&c0)||c3&&(ce&&d3)))=b
 cases b with
 |true=>
  refine wE_seq ?_;refine y4 ?_;refine yM ?_;refine yA ?_;refine y3 ?_;refine yX ?_;refine wE_skip ?_;refine kS_n ?_;refine y4 ?_
  refine yM ?_;refine y3 ?_;refine wE_ret ?_
  exact endP_ret hr.log rfl rfl
 |false=>
  refine wE_seq ?_;refine y4 ?_;refine yM ?_;refine yA ?_;refine y3 ?_;refine yY ?_;refine y4 ?_;refine yM ?_
  refine y3 ?_;refine wE_ret ?_;refine kS_r ?_
  exact endP_ret hr.log rfl rfl
end Go.A.Pk
end
section
set_option maxRecDepth 100000
namespace Go.A.Pk
variable {T:Nat→Option AFunc}
structure FnsRr (T:Nat→Option AFunc):Prop where
 p:primAS T
 f48:T 48=some f48
 f113:T 113=some f113
def rsL(l:List Rd):List Value:=l.flatMap rdL
theorem rsL_cons(r:Rd)(l:List Rd):rsL (r::l)=rdL r++rsL l:=by simp[rsL]
theorem rsL_length:∀{l:List Rd},(∀r∈l,IsR r)→(rsL l).length=l.length*12
 |[],_=>rfl
 |r::l,h=>by
  have ih:=rsL_length (l:=l) fun x hx=>h x (List.mem_cons_of_mem _ hx)
  simp only[rsL,List.flatMap_cons,List.length_append,rdL_length (h r List.mem_cons_self),List.length_cons]at ih⊢
  rw[ih];omega
theorem rsL_drop:∀{l:List Rd} {i:Nat},(∀r∈l,IsR r)→(rsL l).drop (i*12)=rsL (l.drop i)
 |l,0,_=>by simp
 |[],i+1,_=>by simp[rsL]
 |r::l,i+1,h=>by
  have ih:=rsL_drop (l:=l) (i:=i) fun x hx=>h x (List.mem_cons_of_mem _ hx)
  rw[rsL_cons,List.drop_succ_cons,←ih,show(i+1)*12=(rdL r).length+i*12 by rw[rdL_length (h r List.mem_cons_self)];omega,←List.drop_drop,List.drop_left]
theorem rsL_at{l:List Rd}{i:Nat}{r:Rd}(h:∀r∈l,IsR r)(hi:l[i]? =some r):((rsL l).drop (i*12)).take 12=rdL r:=by
 rw[rsL_drop h]
 obtain⟨hlt,rfl⟩:=List.getElem?_eq_some_iff.1 hi
 rw[List.drop_eq_getElem_cons hlt]
 rw[rsL_cons,List.take_append_of_le_length (by rw[rdL_length (h _ (List.getElem_mem hlt))];omega),List.take_of_length_le (by rw[rdL_length (h _ (List.getElem_mem hlt))];omega)]
structure RdAt (vs:List Value) (o:Nat) (r:Rd):Prop where
 all:ltake 12 (ldrop o vs)=rdL r
 id:lget vs (o+0)=some (.int .i64 r.id)
 known:lget vs (o+1)=some (.int .i64 r.known)
 kind:lget vs (o+2)=some (.int .u8 (r.kind:Nat))
 cells:ltake 8 (ldrop (o+3) vs)=us r.cells
 of:lget vs (o+11)=some (.int .i64 r.of)
theorem RdAt.mk'{vs:List Value}{o:Nat}{r:Rd}(hR:IsR r)(h:(vs.drop o).take 12=rdL r):RdAt vs o r:=by
 have g:∀i,i<12→lget vs (o+i)=(rdL r)[i]? :=fun i hi=>by
  rw[lget_eq,←h,List.getElem?_take_of_lt hi,List.getElem?_drop]
 refine⟨by rw[ltake_eq,ldrop_eq];exact h,(g 0 (by omega)).trans rfl,(g 1 (by omega)).trans rfl,(g 2 (by omega)).trans rfl,?_,?_⟩
 ·have:=rdL_cells hR
  rw[←this,ltake_eq,ldrop_eq,ltake_eq,ldrop_eq,←h,List.drop_take,List.drop_drop,List.take_take]
  rfl
 ·rw[g 11 (by omega)]
  have:=rdL_of hR
  rw[lget_eq]at this
  exact this
theorem rd_elem{h:Heap}{b o n:Nat}{l:List Rd}(s:SliceAt h b o n 12 (rsL l))(hl:∀r∈l,IsR r){i:Nat}{r:Rd}(hi:l[i]? =some r):∃vs own t,h.get b=some (.cells vs own t)∧RdAt vs (o+i*12) r∧o+i*12+12≤vs.length:=by
 obtain⟨vs,own,t,h1,h2⟩:=s.obj
 have hlen:=s.len
 rw[rsL_length hl]at hlen
 have hilt:i<l.length:=(List.getElem?_eq_some_iff.1 hi).1
 have hn:n=l.length:=by omega
 rw[ltake_eq,ldrop_eq]at h2
 have hr:=rsL_at hl hi
 rw[←h2,List.drop_take,List.drop_drop,List.take_take,Nat.min_eq_left (by omega)]at hr
 have hlv:(vs.drop o).length≥n*12:=by
  have:=congrArg List.length h2
  rw[rsL_length hl,List.length_take]at this
  omega
 rw[List.length_drop]at hlv
 exact⟨vs,own,t,h1, .mk' (hl r (List.mem_of_getElem? hi)) hr,by omega⟩
end Go.A.Pk
end
section
set_option maxRecDepth 100000
namespace Go.A.Pk
variable {T:Nat→Option AFunc}
def idxR(P:Rd→Bool):List Rd→Nat→Int
 |[],_=> -1
 |r::l,i=>if P r then(i:Int)else idxR P l (i+1)
theorem idxR_drop(P:Rd→Bool){l:List Rd}{i:Nat}{r:Rd}(hi:l[i]? =some r):idxR P (l.drop i) i=if P r then(i:Int)else idxR P (l.drop (i+1)) (i+1):=by
 obtain⟨hlt,rfl⟩:=List.getElem?_eq_some_iff.1 hi
 rw[List.drop_eq_getElem_cons hlt,idxR]
theorem idxR_end(P:Rd→Bool)(l:List Rd):idxR P (l.drop l.length) l.length= -1:=by
 rw[List.drop_length];rfl
theorem idxR_any(P:Rd→Bool):∀(l:List Rd) (i:Nat),decide (0≤idxR P l i)=l.any P
 |[],_=>rfl
 |r::l,i=>by
  rw[idxR,List.any_cons]
  by_cases h:P r=true
  ·rw[if_pos h,h,Bool.true_or];exact decide_eq_true (by omega)
  ·rw[if_neg h,idxR_any P l (i+1)]
   have:P r=false:=by simpa using h
   rw[this,Bool.false_or]
structure RdS (h:Heap) (v:Value) (l:List Rd):Prop where
 sl:SliceOf h 12 v l.length (rsL l)
 ok:∀r∈l,IsR r
theorem RdS.elem{h:Heap}{a:Option Addr}{n c:Nat}{l:List Rd}(s:RdS h (.slice a n c) l){i:Nat}{r:Rd}(hi:l[i]? =some r):
 ∃b o vs own t,a=some ⟨b,o,none⟩∧h.get b=some (.cells vs own t)∧RdAt vs (o+i*12) r∧b<h.next∧o+i*12+12≤vs.length:=by
 have hlt:=(List.getElem?_eq_some_iff.1 hi).1
 rcases s.sl.inv with⟨_,_,h0,_⟩|⟨b,o,cap,hv,s1,hc⟩
 ·omega
 ·cases hv
  obtain⟨vs,own,t,g1,g2,g3⟩:=rd_elem s1 s.ok hi
  exact⟨b,o,vs,own,t,rfl,g1,g2,s1.lt,g3⟩
theorem RdS.len{h:Heap}{a:Option Addr}{n c:Nat}{l:List Rd}(s:RdS h (.slice a n c) l):n=l.length:=by
 rcases s.sl.inv with⟨_,hv,h0,_⟩|⟨b,o,cap,hv,s1,hc⟩
 ·cases hv;exact h0.symm
 ·cases hv;rfl
theorem RdS.ext{h h':Heap}{v:Value}{l:List Rd}(s:RdS h v l)(x:Ext h h'):RdS h' v l:=⟨s.sl.ext x,s.ok⟩
theorem RdS.log{h:Heap}{v:Value}{l:List Rd}(s:RdS h v l)(m:List Nat):RdS {h with log:=m} v l:=⟨s.sl.log m,s.ok⟩
set_option maxHeartbeats 1000000 in
theorem index219(hp:primAS T)(hf:T 219=some f219){h:Heap}(hr:Rdy h){a:Option Addr}{n c:Nat}{l:List Rd}(s:RdS h (.slice a n c) l)(hn:n<1000000){g:Nat}{cap:List Value}(P:Rd→Bool)
 (HP:∀r∈l,Pu T g (rdV r::cap) h (.bool (P r))):Pu T 219 [.slice a n c, .func (.func g) #[] cap.toArray] h (.int .i64 (idxR P l 0)):=by
 refine .of hp hf hr rfl ?_
 obtain rfl:=s.len
 refine y4 ?_;refine yM ?_;refine y3 ?_;refine wE_seq ?_;refine y4 ?_;refine yM ?_;refine yD ?_;refine yM ?_
 refine y3 ?_;refine wE_block ?_
 refine wE_loop (fun m e ds h'=>∃i:Nat,i≤l.length∧m=l.length-i∧e=[(0, .slice a l.length c),(1, .func (.func g) #[] cap.toArray),(7, .int .i64 (l.length:Nat)),(8, .int .i64 (i:Nat))]∧ds=[]∧h=h'∧idxR P l 0=idxR P (l.drop i) i)
  ⟨0,Nat.zero_le _,rfl,rfl,rfl,rfl,rfl⟩ ?_
 rintro m e ds _ ⟨i,hin,rfl,rfl,rfl,rfl,hi⟩
 by_cases hlt:i<l.length
 ·obtain⟨r,hri⟩:∃r,l[i]? =some r:=⟨l[i],List.getElem?_eq_getElem hlt⟩
  obtain⟨b,o,vs,own,t,rfl,g1,g2,hb,_⟩:=s.elem hri
  have k1:=g2.all
  have k2:=rdL_llen (s.ok r (List.mem_of_getElem? hri))
  have H:=HP r (List.mem_of_getElem? hri)
  rw[idxR_drop P hri]at hi
  refine y4 ?_;refine yt ?_;refine y3 ?_;refine wE_seq ?_;refine yY ?_;refine wE_skip ?_;refine kS_n ?_;refine wE_seq ?_;refine wE_block ?_;refine y4 ?_;refine yM ?_;refine yM ?_;refine y3 ?_;refine y4 ?_;refine yM ?_;refine yM ?_;refine yM ?_
  refine wO_val (a_iaddrS (by exact rfl) (by exact rfl) (by omega)) ?_;refine wO_val (a_loadN (by exact rfl) (by assumption) (by assumption) (by assumption)) ?_
  refine wO_call (a_call (all:=rdV r::cap) (by exact rfl) (by exact rfl) (by exact rfl) (by rw[lcat_eq,lcat_eq];simp[rdV])) ?_
  refine FW.pu (by rw[hr.self];exact H) ?_
  clear H HP
  cases hpr:P r with
  |true=>
   rw[hpr,if_pos rfl]at hi
   rw[hi]
   refine y3 ?_;refine yY ?_;refine y4 ?_;refine yM ?_;refine yM ?_;refine y3 ?_;refine wE_ret ?_;refine kB_r ?_;refine kS_r ?_;refine kS_r ?_;refine kB_r ?_;refine kS_r ?_
   exact endP_ret hr.log rfl rfl
  |false=>
   rw[hpr,if_neg (by simp)]at hi
   refine y3 ?_;refine yX ?_;refine wE_skip ?_;refine kB_n ?_;refine kS_n ?_;refine wE_region ?_;refine yinc ?_;refine yM ?_;refine y3 ?_
   exact⟨l.length-(i+1),by omega,i+1,by omega,rfl,rfl,rfl,rfl,hi⟩
 ·obtain rfl:i=l.length:=by omega
  rw[idxR_end]at hi
  rw[hi]
  refine y4 ?_;refine yf ?_;refine y3 ?_;refine wE_seq ?_;refine yX ?_;refine wE_exit ?_;refine kS_e ?_;refine kS_e ?_;refine kB_e ?_;refine kS_n ?_
  refine y4 ?_;refine yM ?_;refine y3 ?_;refine wE_ret ?_
  exact endP_ret hr.log rfl rfl
theorem contains218(hp:primAS T)(hf:T 218=some f218)(hf2:T 219=some f219){h:Heap}(hr:Rdy h){a:Option Addr}{n c:Nat}{l:List Rd}(s:RdS h (.slice a n c) l)(hn:n<1000000){g:Nat}{cap:List Value}(P:Rd→Bool)
 (HP:∀r∈l,Pu T g (rdV r::cap) h (.bool (P r))):Pu T 218 [.slice a n c, .func (.func g) #[] cap.toArray] h (.bool (l.any P)):=by
 refine .of hp hf hr rfl ?_
 have C:=index219 hp hf2 hr s hn P HP
 rw[←idxR_any P l 0]
 generalize idxR P l 0=z at C⊢
 refine y4 ?_;refine yM ?_;refine y3 ?_;refine y4 ?_;refine yM ?_;refine yM ?_
 refine yC ?_
 refine FW.pu (by rw[hr.self];exact C) ?_
 clear C
 have m1:numOp .geq (.int .i64 z) (.int .i64 0)=some (.bool (decide (0≤z))):=m_geq
 refine wO_val (a_num (by exact rfl) (by exact rfl) (by with_reducible assumption)) ?_;refine yM ?_;refine y3 ?_;refine wE_ret ?_
 exact endP_ret hr.log rfl rfl
abbrev Box(h:Heap)(b:Nat)(v:Value):Prop:=h.get b=some (.cells [v] true 1)
theorem m_eqlI{a b:Int}:numOp .eql (.int .i64 a) (.int .i64 b)=some (.bool (decide (a=b))):=by
 rw[m_eql]
 by_cases h:a=b
 ·subst h;simp
 ·rw[decide_eq_false h]
  have:(a==b)=false:=by simpa using h
  rw[this]
theorem has217(hp:primAS T)(hf:T 217=some f217){h:Heap}(hr:Rdy h){b:Nat}{z:Int}(hb:Box h b (.int .i64 z))(r:Rd):Pu T 217 [rdV r, .pointer (some ⟨b,0,none⟩)] h (.bool (decide (r.id=z))):=by
 refine .of hp hf hr rfl ?_
 have hlt:=WF.get_lt hr.wf hb
 have g1:h.get b=some (.cells [.int .i64 z] true 1):=hb
 have m1:=m_eqlI (a:=r.id) (b:=z)
 refine y4 ?_;refine yB ?_;refine yM ?_;refine y3 ?_;refine y4 ?_;refine yF ?_
 refine yL ?_
 refine yL ?_;refine wO_val (a_num (by exact rfl) (by exact rfl) (by with_reducible assumption)) ?_
 refine yM ?_;refine y3 ?_;refine wE_ret ?_
 exact endP_ret hr.log rfl rfl
theorem void220(hp:primAS T)(hf:T 220=some f220){h:Heap}(hr:Rdy h){b:Nat}{z:Int}(hb:Box h b (.int .i64 z)){r:Rd}(hR:IsR r):Pu T 220 [rdV r, .pointer (some ⟨b,0,none⟩)] h (.bool (decide (r.kind=3)&&decide (r.of=z))):=by
 refine .of hp hf hr rfl ?_
 have hlt:=WF.get_lt hr.wf hb
 have g1:h.get b=some (.cells [.int .i64 z] true 1):=hb
 have k11:=rdL_of hR
 have m1:=m_eqlI (a:=r.of) (b:=z)
 have m2:numOp .eql (.int .u8 (r.kind:Nat)) (.int .u8 3)=_:=m_eqI (c:=3) rfl
 generalize decide (r.kind=3)=c3 at m2⊢
 cases c3 with
 |true=>
  refine y4 ?_;refine yB ?_;refine yM ?_;refine y3 ?_;refine y4 ?_;refine yF ?_
  refine yL ?_;refine wO_val (a_num (by exact rfl) (by exact rfl) (by with_reducible assumption)) ?_
  refine yM ?_;refine yO ?_;refine yF ?_;refine yO ?_
  refine wO_val (a_load (by exact rfl) (by(simp(disch:=first|omega|(simp only[z1,z2];omega))only[z3,z4,z5,z6,z7,z1,z2,g1];exact rfl)) (by assumption)) ?_;refine yO ?_
  refine yL ?_;refine yO ?_
  refine wO_val (a_num (by exact rfl) (by exact rfl) (by with_reducible assumption)) ?_;refine yT ?_;refine yM ?_;refine y3 ?_;refine wE_ret ?_
  exact endP_ret hr.log rfl rfl
 |false=>
  refine y4 ?_;refine yB ?_;refine yM ?_;refine y3 ?_;refine y4 ?_;refine yF ?_
  refine yL ?_;refine wO_val (a_num (by exact rfl) (by exact rfl) (by with_reducible assumption)) ?_
  refine yM ?_;refine yP ?_;refine yP ?_;refine yP ?_;refine yP ?_;refine yU ?_;refine yM ?_;refine y3 ?_;refine wE_ret ?_
  exact endP_ret hr.log rfl rfl
theorem late133(hp:primAS T)(hf:T 133=some f133){h:Heap}(hr:Rdy h){b:Nat}{z:Int}(hb:Box h b (.int .i64 z))(r:Rd):Pu T 133 [rdV r, .pointer (some ⟨b,0,none⟩)] h (.bool (decide (z<r.known))):=by
 refine .of hp hf hr rfl ?_
 have hlt:=WF.get_lt hr.wf hb
 have g1:h.get b=some (.cells [.int .i64 z] true 1):=hb
 have m1:numOp .gtr (.int .i64 r.known) (.int .i64 z)=some (.bool (decide (z<r.known))):=m_gtr
 refine y4 ?_;refine yB ?_;refine yM ?_;refine y3 ?_;refine y4 ?_;refine yF ?_
 refine yL ?_
 refine yL ?_;refine wO_val (a_num (by exact rfl) (by exact rfl) (by with_reducible assumption)) ?_
 refine yM ?_;refine y3 ?_;refine wE_ret ?_
 exact endP_ret hr.log rfl rfl
structure FnsVo (T:Nat→Option AFunc):Prop where
 p:primAS T
 f135:T 135=some f135
 f218:T 218=some f218
 f219:T 219=some f219
 f220:T 220=some f220
def voidR(l:List Rd)(z:Int):Bool:=l.any fun r=>decide (r.kind=3)&&decide (r.of=z)
theorem voids135(F:FnsVo T){h:Heap}(hr:Rdy h){a:Option Addr}{n c:Nat}{l:List Rd}(s:RdS h (.slice a n c) l)(hn:n<1000000)(z:Int):Pu T 135 [.slice a n c, .int .i64 z] h (.bool (voidR l z)):=by
 refine .of F.p F.f135 hr rfl ?_
 have W:=hr.wf.push (.cells [Value.int .i64 z] true 1)
 have x:Ext h (h.push (.cells [Value.int .i64 z] true 1)):=(Ext.refl h).push _
 have C:=contains218 F.p F.f218 F.f219 (.of W) ((s.ext x).log []) hn (g:=220) (cap:=[.pointer (some ⟨h.next,0,none⟩)]) (fun r=>decide (r.kind=3)&&decide (r.of=z))
  (fun r hR=>void220 F.p F.f220 (.of W) (z3 h _) (s.ok r hR))
 refine y4 ?_;refine yB ?_;refine yM ?_;refine y3 ?_;refine y4 ?_;refine yM ?_
 refine wO_val (a_mkFunc (by exact rfl) (by exact rfl)) ?_
 refine yC ?_
 refine FW.pu C ?_
 clear C
 refine yM ?_;refine y3 ?_;refine wE_ret ?_
 exact endP_ret hr.log rfl rfl
theorem out134(F:FnsVo T)(hf:T 134=some f134){h:Heap}(hr:Rdy h){b:Nat}{a:Option Addr}{n c:Nat}{l:List Rd}(hb:Box h b (.slice a n c))(s:RdS h (.slice a n c) l)(hn:n<1000000)(r:Rd):
 Pu T 134 [rdV r, .pointer (some ⟨b,0,none⟩)] h (.bool (decide (r.kind=3)||voidR l r.id)):=by
 refine .of F.p hf hr rfl ?_
 have hlt:=WF.get_lt hr.wf hb
 have g1:h.get b=some (.cells [.slice a n c] true 1):=hb
 have W:=hr.wf.push (.cells (cellsOf (rdV r)) true 1)
 have x:Ext h (h.push (.cells (cellsOf (rdV r)) true 1)):=(Ext.refl h).push _
 have C:=voids135 F (.of W) ((s.ext x).log []) hn r.id
 have m2:numOp .eql (.int .u8 (r.kind:Nat)) (.int .u8 3)=_:=m_eqI (c:=3) rfl
 generalize decide (r.kind=3)=c3 at m2⊢
 generalize voidR l r.id=w at C⊢
 cases c3 with
 |true=>
  refine y4 ?_;refine yB ?_;refine yM ?_;refine y3 ?_;refine y4 ?_;refine yF ?_
  refine yL ?_;refine wO_val (a_num (by exact rfl) (by exact rfl) (by with_reducible assumption)) ?_
  refine yM ?_;refine yP ?_;refine yP ?_;refine yP ?_;refine yP ?_;refine yT ?_;refine yM ?_;refine y3 ?_;refine wE_ret ?_
  exact endP_ret hr.log rfl rfl
 |false=>
  refine y4 ?_;refine yB ?_;refine yM ?_;refine y3 ?_;refine y4 ?_;refine yF ?_
  refine yL ?_;refine wO_val (a_num (by exact rfl) (by exact rfl) (by with_reducible assumption)) ?_
  refine yM ?_;refine yO ?_;refine yL ?_;refine yO ?_
  refine yF ?_;refine yO ?_;refine yL ?_;refine yO ?_
  refine yC ?_
  refine FW.pu C ?_
  clear C
  refine yU ?_;refine yM ?_;refine y3 ?_;refine wE_ret ?_
  exact endP_ret hr.log rfl rfl
end Go.A.Pk
end
section
set_option maxRecDepth 100000
namespace Go.A.Pk
variable {T:Nat→Option AFunc}
def CloR(lo:Nat)(l:List Rd)(v:Value)(h:Heap):Prop:=
 (v= .slice none 0 0∧l=[])∨∃b,lo≤b∧b<h.next∧h.get b=some (.cells (rsL l) true 12)∧((l=[]∧v= .slice (some ⟨b,0,none⟩) 0 0)∨(l≠[]∧v= .slice (some ⟨b,0,none⟩) l.length UNK))
theorem CloR.rd{lo:Nat}{l:List Rd}{v:Value}{h:Heap}(q:CloR lo l v h)(hl:∀r∈l,IsR r)(hn:l.length<1000000):RdS h v l:=by
 refine⟨?_,hl⟩
 rcases q with⟨rfl,rfl⟩|⟨b,h1,h2,h3,⟨rfl,rfl⟩|⟨h4,rfl⟩⟩
 ·exact .nil
 ·exact .mem ⟨h2,⟨_,_,_,h3,rfl⟩,rfl⟩ (Nat.le_refl _)
 ·refine .mem ⟨h2,⟨_,_,_,h3,?_⟩,rsL_length hl⟩ ?_
  ·rw[ltake_eq,ldrop_eq,List.drop_zero,List.take_of_length_le (by rw[rsL_length hl];omega)]
  ·unfold UNK;omega
theorem CloR.log{lo:Nat}{l:List Rd}{v:Value}{h:Heap}(m:List Nat)(q:CloR lo l v h):CloR lo l v {h with log:=m}:=q
theorem clone131(hp:primAS T)(hf:T 131=some f131){h:Heap}(hr:Rdy h){a:Option Addr}{n c:Nat}{l:List Rd}(s:RdS h (.slice a n c) l)(hn:n<1000000):Al T 131 [.slice a n c] h (CloR h.next l):=by
 obtain rfl:=s.len
 refine .of hp hf hr ?_ ?_
 ·intro v h1 hv hq
  rcases hq with hq|⟨b,_,_,_,⟨_,rfl⟩|⟨_,rfl⟩⟩
  ·exact .inl hq
  ·cases hv
  ·cases hv
 rcases s.sl.inv with⟨c',hv,h0,_⟩|⟨b,o,cap,hv,s1,hc⟩
 ·have hl:l=[]:=List.length_eq_zero_iff.1 h0
  subst hl
  cases hv
  refine y4 ?_;refine yM ?_;refine y3 ?_;refine wE_seq ?_;refine y4 ?_;refine yM ?_;refine wO_val (a_nil (by exact rfl) (by exact rfl) (by exact rfl)) ?_;refine y3 ?_;refine yY ?_;refine y4 ?_;refine yM ?_;refine y3 ?_;refine wE_ret ?_;refine kS_r ?_
  exact endA_ret hr.log rfl (.inl ⟨rfl,rfl⟩)
 ·cases hv
  have hs:=src_of (s.sl.ext ((Ext.refl h).push (.cells [] true 12)))
  by_cases h0:l.length=0
  ·have hl:l=[]:=List.length_eq_zero_iff.1 h0
   subst hl
   refine y4 ?_;refine yM ?_;refine y3 ?_;refine wE_seq ?_;refine y4 ?_;refine yM ?_;refine wO_val (a_nil (by exact rfl) (by exact rfl) (by exact rfl)) ?_;refine y3 ?_;refine yX ?_;refine wE_skip ?_;refine kS_n ?_;refine y4 ?_;refine wO_val (a_bslice (by exact rfl) (by exact rfl)) ?_;refine yM ?_
   refine wO_val (a_app_zero (by exact rfl) (by exact rfl) hs (Nat.le_refl _)) ?_
   refine yM ?_;refine y3 ?_;refine wE_ret ?_
   refine endA_ret hr.log rfl (.inr ⟨h.next,Nat.le_refl _,Nat.lt_succ_self _,?_, .inl ⟨rfl,rfl⟩⟩)
   (simp(disch:=first|omega|(simp only[z1,z2];omega))only[z3,z4,z5,z6,z7,z1,z2];exact rfl)
  ·refine y4 ?_;refine yM ?_;refine y3 ?_;refine wE_seq ?_;refine y4 ?_;refine yM ?_;refine wO_val (a_nil (by exact rfl) (by exact rfl) (by exact rfl)) ?_;refine y3 ?_;refine yX ?_;refine wE_skip ?_;refine kS_n ?_;refine y4 ?_;refine wO_val (a_bslice (by exact rfl) (by exact rfl)) ?_;refine yM ?_
   refine wO_val (a_app_full (c:=0) (len:=0) (by exact rfl) (by exact rfl) hs h0 (by omega) (by decide) (z3 h _) (by exact Nat.le_refl _) (by omega) (by exact rfl)) ?_
   refine yM ?_;refine y3 ?_;refine wE_ret ?_
   refine endA_ret hr.log rfl (.inr ⟨h.next+1,Nat.le_succ _,Nat.lt_succ_self _,?_, .inr ⟨fun q=>h0 (by rw[q];rfl),?_⟩⟩)
   ·(simp(disch:=first|omega|(simp only[z1,z2];omega)|(simp only[z1,z2];done)|fail)only[z8,z4,z5,z9,z7,z1,z2];exact rfl)
   ·rw[Nat.zero_add];rfl
def DelR(l:List Rd)(v:Value)(h:Heap):Prop:=RdS h v l
theorem take_at{l:List Rd}{i:Nat}{r:Rd}(hi:l[i]? =some r)(Q:Rd→Bool):(l.take (i+1)).filter Q=(l.take i).filter Q++(if Q r then [r]else []):=by
 obtain⟨hlt,rfl⟩:=List.getElem?_eq_some_iff.1 hi
 rw[List.take_succ_eq_append_getElem hlt,List.filter_append]
 congr 1
 by_cases hq:Q l[i]=true
 ·simp[hq]
 ·simp[hq]
theorem idxR_pos(P:Rd→Bool):∀(l:List Rd) (i:Nat),0≤idxR P l i→∃k r,l[k]? =some r∧P r=true∧idxR P l i=((i+k:Nat):Int)∧∀x∈l.take k,P x=false
 |[],i,h=>by simp[idxR]at h
 |r::l,i,h=>by
  rw[idxR]at h⊢
  by_cases hp:P r=true
  ·exact⟨0,r,rfl,hp,by rw[if_pos hp];rfl,fun x hx=>by simp at hx⟩
  ·rw[if_neg hp]at h⊢
   obtain⟨k,q,h1,h2,h3,h4⟩:=idxR_pos P l (i+1) h
   refine⟨k+1,q,by simpa using h1,h2,by rw[h3];congr 1;omega,fun x hx=> ?_⟩
   rw[List.take_succ_cons]at hx
   rcases List.mem_cons.1 hx with rfl|hx
   ·simpa using hp
   ·exact h4 x hx
theorem idxR_neg(P:Rd→Bool):∀(l:List Rd) (i:Nat),¬0≤idxR P l i→idxR P l i= -1∧∀x∈l,P x=false
 |[],i,h=>⟨rfl,fun x hx=>by simp at hx⟩
 |r::l,i,h=>by
  rw[idxR]at h⊢
  by_cases hp:P r=true
  ·rw[if_pos hp]at h;omega
  ·rw[if_neg hp]at h⊢
   obtain⟨h1,h2⟩:=idxR_neg P l (i+1) h
   refine⟨h1,fun x hx=> ?_⟩
   rcases List.mem_cons.1 hx with rfl|hx
   ·simpa using hp
   ·exact h2 x hx
theorem rsL_app(a b:List Rd):rsL (a++b)=rsL a++rsL b:=by simp[rsL]
theorem rsL_take{l:List Rd}{i:Nat}(h:∀r∈l,IsR r):(rsL l).take (i*12)=rsL (l.take i):=by
 by_cases hi:i≤l.length
 ·have e:l=l.take i++l.drop i:=(List.take_append_drop i l).symm
  have hlen:(rsL (l.take i)).length=i*12:=by rw[rsL_length fun r hr=>h r (List.mem_of_mem_take hr),List.length_take,Nat.min_eq_left hi]
  conv=>lhs;rw[e,rsL_app]
  rw[←hlen,List.take_left]
 ·rw[List.take_of_length_le (by rw[rsL_length h];omega),List.take_of_length_le (by omega)]
theorem rsL_set{l:List Rd}{i:Nat}{r:Rd}(h:∀r∈l,IsR r)(hr:IsR r)(hi:i<l.length):lputs (rsL l) (0+i*12) (rdL r)=rsL (l.set i r):=by
 rw[Nat.zero_add,lputs_mid (by rw[rdL_length hr,rsL_length h];omega),rdL_length hr,rsL_take h,show i*12+12=(i+1)*12 by omega,rsL_drop h,List.set_eq_take_append_cons_drop,if_pos hi,rsL_app,rsL_cons,List.append_assoc]
theorem set_take{l:List Rd}{i:Nat}{r:Rd}(hi:i<l.length):(l.set i r).take (i+1)=l.take i++[r]:=by
 apply List.ext_getElem?
 intro k
 by_cases hk:k<i
 ·rw[List.getElem?_take_of_lt (by omega),List.getElem?_set_ne (by omega),List.getElem?_append_left (by rw[List.length_take];omega),List.getElem?_take_of_lt hk]
 ·by_cases hk2:k=i
  ·subst hk2
   rw[List.getElem?_take_of_lt (by omega),List.getElem?_set_self hi,List.getElem?_append_right (by rw[List.length_take];omega),List.length_take,Nat.min_eq_left (by omega),Nat.sub_self];rfl
  ·rw[List.getElem?_eq_none (by rw[List.length_take,List.length_set];omega),List.getElem?_eq_none (by rw[List.length_append,List.length_take,List.length_singleton];omega)]
theorem set_drop{l:List Rd}{i j:Nat}{r:Rd}(hi:i<j):(l.set i r).drop j=l.drop j:=by
 apply List.ext_getElem?
 intro k
 rw[List.getElem?_drop,List.getElem?_drop,List.getElem?_set_ne (by omega)]
def zR:List Value:=[.int .i64 0, .int .i64 0, .int .u8 0, .int .u64 0, .int .u64 0, .int .u64 0, .int .u64 0, .int .u64 0, .int .u64 0, .int .u64 0, .int .u64 0, .int .i64 0]
theorem zR_ones:∀n,ones (lrow n zR)=true
 |0=>rfl
 |n+1=>by
  show ones (lcat zR (lrow n zR))=true
  rw[lcat_eq]
  exact ones_app rfl (zR_ones n)
set_option maxHeartbeats 4000000 in
theorem delete132(hp:primAS T)(hf:T 132=some f132)(hf2:T 219=some f219){h:Heap}(hr:Rdy h){lo:Nat}{l:List Rd}{v:Value}(q:CloR lo l v h)(hl:∀r∈l,IsR r)(hn:l.length<1000000){g:Nat}{cap:List Value}(P:Rd→Bool)
 (HP:∀h':Heap,WF h'→h.next≤h'.next→(∀z,z<lo→h'.get z=h.get z)→∀r,IsR r→Pu T g (rdV r::cap) {h' with log:=[]} (.bool (P r))):
 Gs T 132 [v, .func (.func g) #[] cap.toArray] h (fun z=>lo≤z) (DelR (l.filter fun r=> !P r)):=by
 have sR:=q.rd hl hn
 obtain⟨a,c,rfl⟩:=sR.sl.form
 refine .of hp hf ?_ ?_
 ·intro v h1 h2 hv hn2 hag hq
  refine⟨?_,hq.2⟩
  rcases hq.sl.inv with⟨c',rfl,h0,e⟩|⟨b,o,cap',rfl,s1,hc⟩
  ·rw[h0,e];exact .nil
  ·cases hv
 have C:=index219 hp hf2 hr sR hn P (fun r hR=>by
  have:=HP h hr.wf (Nat.le_refl _) (fun _ _=>rfl) r (hl r hR)
  rwa [hr.self]at this)
 refine y4 ?_;refine yM ?_;refine y3 ?_;refine y4 ?_;refine yM ?_;refine yM ?_
 refine yC ?_
 refine FW.pu (by rw[hr.self];exact C) ?_
 clear C
 by_cases hi:0≤idxR P l 0
 ·obtain⟨k,rk,h1,h2,h3,h4⟩:=idxR_pos P l 0 hi
  rw[Nat.zero_add]at h3
  rw[h3]
  have hkl:k<l.length:=(List.getElem?_eq_some_iff.1 h1).1
  rcases q with⟨_,rfl⟩|⟨b,hb1,hb2,hb3,⟨rfl,_⟩|⟨hne,hv⟩⟩
  ·simp at hkl
  ·simp at hkl
  ·cases hv
   have m1:numOp .eql (.int .i64 (k:Nat)) (.int .i64 (-1))=some (.bool false):=m_eqlF (by omega)
   refine yM ?_;refine y3 ?_;refine wE_seq ?_;refine y4 ?_;refine yM ?_;refine wO_val (a_num (by exact rfl) (by exact rfl) (by with_reducible assumption)) ?_;refine y3 ?_;refine yX ?_;refine wE_skip ?_;refine kS_n ?_;refine wE_seq ?_;refine y4 ?_;refine yM ?_;refine yinc ?_
   refine yM ?_;refine y3 ?_;refine wE_block ?_
   refine wE_loop (fun mm e ds h'=>∃(j i:Nat) (m:List Rd),j≤l.length∧i<j∧mm=l.length-j∧e=[(0, .slice (some ⟨b,0,none⟩) l.length UNK),(1, .func (.func g) #[] cap.toArray),(5, .int .i64 (i:Nat)),(6, .int .i64 (j:Nat))]∧ds=[]∧
    WF h'∧h.next≤h'.next∧(∀z,z<lo→h'.get z=h.get z)∧(∀z∈h'.log,lo≤z)∧h'.get b=some (.cells (rsL m) true 12)∧m.length=l.length∧(∀r∈m,IsR r)∧m.take i=(l.take j).filter (fun r=> !P r)∧m.drop j=l.drop j)
    ⟨k+1,k,l,hkl,Nat.lt_succ_self _,rfl,rfl,rfl,hr.wf,Nat.le_refl _,fun _ _=>rfl,(by rw[hr.log];intro z hz;cases hz),hb3,rfl,hl,?_,rfl⟩ ?_
   ·rw[take_at h1,h2]
    simp only[Bool.not_true,Bool.false_eq_true,if_false,List.append_nil]
    exact(List.filter_eq_self.2 (fun x hx=>by rw[h4 x hx];rfl)).symm
   rintro mm e ds H ⟨j,i,m,hj,hij,rfl,rfl,rfl,hw,hnx,hold,hlg,gb,hm,hmR,htk,hdr⟩
   have hbn:b<H.next:=WF.get_lt hw gb
   by_cases hlt:j<l.length
   ·obtain⟨r,hr1⟩:∃r,l[j]? =some r:=⟨l[j],List.getElem?_eq_getElem hlt⟩
    have hmj:m[j]? =some r:=by
     have e1:(m.drop j)[0]? =(l.drop j)[0]? :=by rw[hdr]
     rw[List.getElem?_drop,List.getElem?_drop]at e1
     exact e1.trans hr1
    have hrR:=hmR r (List.mem_of_getElem? hmj)
    have ra:=(RdAt.mk' hrR (rsL_at hmR hmj)).all
    have ra0:ltake 12 (ldrop (0+j*12) (rsL m))=rdL r:=by rw[Nat.zero_add];exact ra
    have rl:=rdL_llen hrR
    have rl2:=rdL_length hrR
    have ro:=rdL_ones r
    have ral:=rdL_all hrR
    refine wE_seq ?_;refine y4 ?_;refine yM ?_;refine yM ?_;refine yD ?_;refine yt ?_;refine y3 ?_
    refine yY ?_;refine wE_skip ?_;refine kS_n ?_;refine wE_seq ?_;refine wE_block ?_;refine y4 ?_;refine yM ?_;refine yM ?_;refine wO_val (a_iaddrS (by exact rfl) (by exact rfl) (by omega)) ?_;refine wO_val (a_loadN (by exact rfl) (by assumption) (by assumption) (by assumption)) ?_
    refine wO_val (a_new) ?_;refine wO_val (a_storeAll (by exact rfl) (by exact rfl) (by(simp(disch:=first|omega|(simp only[z1,z2];omega))only[z3,z4,z5,z6,z7,z1,z2,hb3,gb];exact rfl)) (by assumption) (by exact rfl) (by assumption)) ?_;refine y3 ?_;refine y4 ?_;refine yM ?_
    refine wO_val (a_loadN (by exact rfl) (by(simp(disch:=first|omega|(simp only[z1,z2];omega))only[z3,z4,z5,z6,z7,z1,z2,hb3,gb];exact rfl)) (by assumption) (by assumption)) ?_
    have W2:WF (((H.push (.cells zR true 1)).wr h.next H.next (.cells (rdL r) true 1))):=(hw.push (.cells zR true 1)).as (AS.wr h.next _ _ _)
    have HPr:=HP _ W2 (show h.next≤H.next+1 by omega) (fun z hz=>by
     rw[z5 (by omega),z4 (by omega)];exact hold z hz) r hrR
    refine wO_call (a_call (all:=rdV r::cap) (by exact rfl) (by exact rfl) (by exact rfl) (by rw[lcat_eq,lcat_eq];simp[rdV])) ?_
    refine FW.pu HPr ?_
    clear HPr
    have hlg2:∀z∈(((H.push (.cells zR true 1)).wr h.next H.next (.cells (rdL r) true 1))).log,lo≤z:=by
     rw[Heap.log_wr_new hnx];exact hlg
    have gb2:(((H.push (.cells zR true 1)).wr h.next H.next (.cells (rdL r) true 1))).get b=some (.cells (rsL m) true 12):=by
     rw[z5 (by omega),z4 hbn];exact gb
    have gn2:(((H.push (.cells zR true 1)).wr h.next H.next (.cells (rdL r) true 1))).get H.next=some (.cells (rdL r) true 1):=by
     rw[z6,z3];rfl
    have hold2:∀z,z<lo→(((H.push (.cells zR true 1)).wr h.next H.next (.cells (rdL r) true 1))).get z=h.get z:=fun z hz=>by
     rw[z5 (by omega),z4 (by omega)];exact hold z hz
    have hnx2:(((H.push (.cells zR true 1)).wr h.next H.next (.cells (rdL r) true 1))).next=H.next+1:=rfl
    unfold zR at*
    generalize(((H.push (.cells _ true 1)).wr h.next H.next (.cells (rdL r) true 1)))=H2 at*
    cases hp:P r with
    |true=>
     refine yA ?_;refine y3 ?_;refine yX ?_;refine wE_skip ?_;refine kB_n ?_;refine kS_n ?_;refine wE_region ?_;refine yM ?_
     refine yinc ?_;refine yM ?_;refine y3 ?_
     refine⟨l.length-(j+1),by omega,j+1,i,m,by omega,by omega,rfl,rfl,rfl,W2,by omega,hold2,hlg2,gb2,hm,hmR,?_,?_⟩
     ·rw[take_at hr1,hp,htk];simp
     ·rw[←List.drop_drop,←List.drop_drop,hdr]
    |false=>
     have kc:(Nat.beq (llen (cellsOf (.agg (rdL r).toArray))) 12&&Nat.ble (0+i*12+12) (llen (rsL m))&&ones (cellsOf (.agg (rdL r).toArray)))=true:=by
      have e:cellsOf (.agg (rdL r).toArray)=rdL r:=by show(rdL r).toArray.toList=_;simp
      rw[e,rl,ro,llen_eq,rsL_length hmR,nble_of (by omega)];rfl
     have kw:lputs (rsL m) (0+i*12) (cellsOf (.agg (rdL r).toArray))=rsL (m.set i r):=by
      have e:cellsOf (.agg (rdL r).toArray)=rdL r:=by show(rdL r).toArray.toList=_;simp
      rw[e,rsL_set hmR hrR (by omega)]
     refine yA ?_;refine y3 ?_;refine yY ?_;refine y4 ?_;refine yM ?_;refine yM ?_
     refine wO_val (a_loadN (by exact rfl) (by assumption) (by assumption) (by assumption)) ?_;refine wO_val (a_iaddrS (by exact rfl) (by exact rfl) (by omega)) ?_
     refine wO_val (a_store (by exact rfl) (by exact rfl) gb2 kc kw) ?_
     refine y3 ?_;refine wE_region ?_;refine yM ?_;refine yinc ?_;refine yM ?_;refine wO_nil ?_
     refine y1 ?_;refine kB_n ?_;refine kS_n ?_;refine wE_region ?_;refine yM ?_;refine yinc ?_;refine yM ?_;refine y3 ?_
     refine⟨l.length-(j+1),by omega,j+1,i+1,m.set i r,by omega,by omega,rfl,rfl,rfl,W2.as (AS.wr h.next _ _ _),(by show h.next≤H2.next;omega),?_,wr_log hlg2 hb1,?_,by rw[List.length_set];exact hm,?_,?_,?_⟩
     ·intro z hz
      rw[z5 (by omega)];exact hold2 z hz
     ·rw[z6,gb2];rfl
     ·intro x hx
      rcases List.mem_or_eq_of_mem_set hx with hx|rfl
      ·exact hmR x hx
      ·exact hrR
     ·rw[set_take (by omega),take_at hr1,hp,htk];simp
     ·rw[set_drop (by omega),←List.drop_drop,←List.drop_drop,hdr]
   ·obtain rfl:j=l.length:=by omega
    rw[List.take_length]at htk
    have hz:(lrow (l.length-i) zR).length=(l.length-i)*12:=by rw[lrow_length];rfl
    have hle:i≤l.length:=by omega
    refine wE_seq ?_;refine y4 ?_;refine yM ?_;refine yM ?_;refine yD ?_;refine yf ?_;refine y3 ?_
    refine yX ?_;refine wE_exit ?_;refine kS_e ?_;refine kS_e ?_;refine kB_e ?_;refine kS_n ?_;refine y4 ?_;refine yM ?_;refine yM ?_;refine wO_val (a_slice_lo (by exact rfl) (by exact rfl) (by assumption) (by omega)) ?_
    refine wO_val (a_clear (by exact rfl) (by omega) gb (by unfold zR at hz;rw[hz,rsL_length hmR];omega) (by exact zR_ones _) rfl) ?_
    refine y3 ?_;refine y4 ?_;refine yM ?_;refine yM ?_
    refine wO_val (a_slice_hi (by exact rfl) (by exact rfl) (by(simp(disch:=first|omega|(simp only[z1,z2];omega))only[z3,z4,z5,z6,z7,z1,z2,hb3,gb];exact rfl)) (by omega) (by omega)) ?_;refine yM ?_;refine y3 ?_;refine wE_ret ?_
    refine endS_ret (wr_log hlg hb1) rfl ?_
    have hi2:(l.filter fun r=> !P r).length=i:=by
     rw[←htk,List.length_take];omega
    refine⟨?_,fun x hx=>hl x (List.mem_filter.1 hx).1⟩
    show SliceOf _ 12 (.slice (some ⟨b,0,none⟩) i UNK) (l.filter fun r=> !P r).length _
    rw[hi2]
    refine .mem ⟨hbn,⟨_,_,_,(by rw[z6,gb];rfl),?_⟩,?_⟩ (by unfold UNK;omega)
    ·have hmid:=lputs_mid (l:=rsL m) (m:=lrow (l.length-i) zR) (o:=0+i*12) (by rw[hz,rsL_length hmR];omega)
     unfold zR at hmid
     rw[hmid,ltake_eq,ldrop_eq,List.drop_zero,List.append_assoc,List.take_append_of_le_length (by rw[List.length_take,rsL_length hmR];omega),Nat.zero_add,List.take_take,Nat.min_self,rsL_take hmR,htk]
    ·rw[rsL_length fun x hx=>hl x (List.mem_filter.1 hx).1,hi2]
 ·obtain⟨h1,h2⟩:=idxR_neg P l 0 hi
  rw[h1]
  refine yM ?_;refine y3 ?_;refine wE_seq ?_;refine y4 ?_;refine yM ?_;refine yt ?_;refine y3 ?_;refine yY ?_;refine y4 ?_;refine yM ?_;refine yM ?_;refine y3 ?_;refine wE_ret ?_;refine kS_r ?_
  refine endS_ret (by rw[hr.log];intro z hz;cases hz) rfl ?_
  show RdS h (.slice a l.length c) _
  rw[List.filter_eq_self.2 (fun x hx=>by rw[h2 x hx];rfl)]
  exact sR
end Go.A.Pk
end
section
set_option maxRecDepth 100000
namespace Go.A.Pk
variable {T:Nat→Option AFunc}
theorem maker216(hp:primAS T)(hf:T 216=some f216){h:Heap}(hr:Rdy h)(z:Int):
 Al T 216 [.int .i64 z] h (fun v h'=>∃b,h.next≤b∧b<h'.next∧v= .func (.func 217) #[] #[.pointer (some ⟨b,0,none⟩)]∧Box h' b (.int .i64 z)):=by
 refine .of hp hf hr ?_ ?_
 ·rintro v h1 hv ⟨b,_,_,rfl,_⟩
  cases hv
 refine y4 ?_;refine yB ?_;refine yM ?_;refine y3 ?_;refine y4 ?_;refine wO_val (a_mkFunc (by exact rfl) (by exact rfl)) ?_
 refine yM ?_;refine y3 ?_;refine wE_ret ?_
 refine endA_ret hr.log rfl ⟨h.next,Nat.le_refl _,Nat.lt_succ_self _,rfl,?_⟩
 show(h.push _).get h.next=_
 rw[z3];rfl
def lateR(l:List Rd)(r:Rd):Bool:=match l.getLast? with
 |some q=>decide (r.known<q.known)
 |none=>false
def badR(l:List Rd)(r:Rd):Bool:=match l.find? (fun q=>decide (q.id=r.of))with
 |some q=>decide (q.kind=3)
 |none=>true
def folR(l:List Rd)(r:Rd):Int:=
 if 200≤l.length then 2 else if ckR r≠0 then 1 else if l.any (fun q=>decide (q.id=r.id))then 6 else if lateR l r then 7 else if r.kind≠3 then 0 else if badR l r then 5 else if voidR l r.of then 6 else 0
theorem find_pos{P:Rd→Bool}:∀{l:List Rd} {k:Nat} {q:Rd},l[k]? =some q→P q=true→(∀x∈l.take k,P x=false)→l.find? P=some q
 |[],k,q,h,_,_=>by simp at h
 |x::l,0,q,h,hp,_=>by
  simp at h;subst h
  rw[List.find?_cons_of_pos hp]
 |x::l,k+1,q,h,hp,ht=>by
  have hx:P x=false:=ht x (by simp)
  rw[List.find?_cons_of_neg (by rw[hx];simp)]
  exact find_pos (k:=k) (by simpa using h) hp fun y hy=>ht y (by simp[hy])
structure FnsFo (T:Nat→Option AFunc):Prop extends FnsRd T where
 f129:T 129=some f129
 f216:T 216=some f216
 f217:T 217=some f217
 vo:FnsVo T
theorem m_gtr0{n:Nat}:numOp .gtr (.int .i64 (n:Nat)) (.int .i64 0)=some (.bool (decide (0<n))):=by
 rw[m_gtr]
 congr 2
 exact decide_eq_decide.2 (by omega)
set_option maxHeartbeats 8000000 in
theorem follows129(F:FnsFo T){h:Heap}(hr:Rdy h){a:Option Addr}{n c:Nat}{l:List Rd}(s:RdS h (.slice a n c) l)(hn:n<1000000){r:Rd}(hR:IsR r):Pu T 129 [.slice a n c,rdV r] h (.int .i64 (folR l r)):=by
 refine .of F.p F.f129 hr rfl ?_
 obtain rfl:=s.len
 have k12:=rdL_all hR
 have l12:=rdL_llen hR
 have k11:=rdL_of hR
 have hrb:(h.push (.cells (cellsOf (rdV r)) true 1)).get h.next=some (.cells (rdL r) true 1):=z3 h _
 have W:WF (h.push (.cells (cellsOf (rdV r)) true 1)):=hr.wf.push _
 have x:Ext h (h.push (.cells (cellsOf (rdV r)) true 1)):=(Ext.refl h).push _
 have hnx:h.next<(h.push (.cells (cellsOf (rdV r)) true 1)).next:=Nat.lt_succ_self _
 have C1:=check47 F.toFnsRd (.of W) hR
 unfold folR
 refine y4 ?_;refine yB ?_;refine yM ?_;refine y3 ?_;refine y4 ?_;refine yM ?_;refine y3 ?_
 generalize(h.push (.cells (cellsOf (rdV r)) true 1))=H at*
 by_cases g1:200≤l.length
 ·rw[if_pos g1]
  refine wE_seq ?_;refine wE_block ?_;refine y4 ?_;refine yM ?_;refine yD ?_;refine yt ?_;refine yM ?_;refine y3 ?_;refine yY ?_;refine y4 ?_;refine yM ?_;refine y3 ?_;refine wE_ret ?_;refine kB_r ?_
  refine kS_r ?_
  exact endP_ret (x.log.trans hr.log) rfl rfl
 rw[if_neg g1]
 refine wE_seq ?_;refine wE_block ?_;refine y4 ?_;refine yM ?_;refine yD ?_;refine yf ?_;refine yM ?_;refine y3 ?_;refine yX ?_;refine y4 ?_;refine wO_val (a_loadN (by exact rfl) (by assumption) (by assumption) (by assumption)) ?_
 refine yC ?_
 refine FW.pu C1 ?_
 by_cases g2:ckR r=0
 ·rw[if_neg (fun q=>q g2),g2]
  clear C1
  refine yf ?_;refine yM ?_;refine y3 ?_;refine yX ?_;refine y4 ?_;refine yM ?_
  refine yM ?_;refine yF ?_;refine yL ?_
  refine yC ?_
  refine FW.al (maker216 F.p F.f216 (.of W) r.id) (fun v h' m q=>q) ?_
  rintro v H1 x1 ⟨b1,hb1,hb2,rfl,hb3⟩
  have W1:=x1.wf W
  have s1:=(s.ext (x.trans x1)).log []
  have hrb1:=(x1.old _ hnx).trans hrb
  have C2:=contains218 F.p F.vo.f218 F.vo.f219 (.of W1) s1 hn (g:=217) (cap:=[.pointer (some ⟨b1,0,none⟩)]) (fun q=>decide (q.id=r.id)) (fun q _=>has217 F.p F.f217 (.of W1) hb3 q)
  skip
  refine yC ?_
  refine FW.pu C2 ?_
  clear C2
  cases hany:l.any fun q=>decide (q.id=r.id)with
  |true=>
   rw[if_pos rfl]
   refine yM ?_;refine y3 ?_;refine yY ?_;refine y4 ?_;refine yM ?_;refine y3 ?_;refine wE_ret ?_;refine kB_r ?_;refine kS_r ?_
   exact endP_ret ((x1.log.trans x.log).trans hr.log) rfl rfl
  |false=>
   rw[if_neg (by simp)]
   have hL1:H1.log=[]:=(x1.log.trans x.log).trans hr.log
   have hn1:h.next<H1.next:=Nat.lt_of_lt_of_le hnx x1.next
   clear hany hb1 hb2 hb3 hrb hnx
   generalize hlt:lateR l r=lt
   refine yM ?_;refine y3 ?_;refine yX ?_
   refine wE_cutE (E:=[(0, .slice a l.length c),(3, .pointer (some ⟨h.next,0,none⟩)),(5, .func (.func 216) #[] #[]),(22, .bool lt)]) (H:=H1) ?_ ?_
   ·have m1:=m_gtr0 (n:=l.length)
    cases hlast:l.getLast? with
    |none=>
     have hl0:l=[]:=by simpa using hlast
     have hlt2:lt=false:=by rw[←hlt];unfold lateR;rw[hlast]
     subst hlt2
     rw[show decide (0<l.length)=false by rw[hl0];rfl]at m1
     refine wE_draw ?_;refine qM ?_;refine wD_quiet rfl rfl rfl (by exact rfl) (by exact rfl) (by exact rfl) (a_len1 (by exact rfl)) ?_;refine wD_quiet rfl rfl rfl (by exact rfl) (by exact rfl) (by exact rfl) (a_num (by exact rfl) (by exact rfl) (by with_reducible assumption)) ?_
     refine qM ?_;refine wD_off rfl rfl rfl (by exact rfl) ?_;refine wD_off rfl rfl rfl (by exact rfl) ?_;refine wD_off rfl rfl rfl (by exact rfl) ?_;refine wD_off rfl rfl rfl (by exact rfl) ?_;refine wD_off rfl rfl rfl (by exact rfl) ?_;refine wD_off rfl rfl rfl (by exact rfl) ?_
     refine wD_off rfl rfl rfl (by exact rfl) ?_;refine wD_off rfl rfl rfl (by exact rfl) ?_;refine wD_off rfl rfl rfl (by exact rfl) ?_;refine wD_off rfl rfl rfl (by exact rfl) ?_;refine wD_quiet rfl rfl rfl (by exact rfl) (by exact rfl) (by exact rfl) (a_pickF (by exact rfl) (by exact rfl)) ?_;refine qM ?_
     refine wD_nil ?_;refine y1 ?_
     exact⟨rfl,rfl,rfl,rfl⟩
    |some q=>
     have hlt2:lt=decide (r.known<q.known):=by rw[←hlt];unfold lateR;rw[hlast]
     have hne:l≠[]:=by intro e;rw[e]at hlast;simp at hlast
     have hpos:0<l.length:=List.length_pos_iff.2 hne
     have hq:l[l.length-1]? =some q:=by rw[←List.getLast?_eq_getElem?];exact hlast
     rw[decide_eq_true hpos]at m1
     obtain⟨b,o,vs,own,t,rfl,e1,e2,hb,_⟩:=(s.ext (x.trans x1)).elem hq
     have m2:numOp .sub (.int .i64 (l.length:Nat)) (.int .i64 1)=some (.int .i64 ((l.length-1:Nat):Int)):=m_sub (by rw[wrapA_i64]<;>omega)
     have e3:=e2.known
     have m3:numOp .lss (.int .i64 r.known) (.int .i64 q.known)=some (.bool lt):=by rw[hlt2];exact m_lss
     clear hlt hlt2
     refine wE_draw ?_;refine qM ?_;refine wD_quiet rfl rfl rfl (by exact rfl) (by exact rfl) (by exact rfl) (a_len1 (by exact rfl)) ?_;refine wD_quiet rfl rfl rfl (by exact rfl) (by exact rfl) (by exact rfl) (a_num (by exact rfl) (by exact rfl) (by with_reducible assumption)) ?_
     refine qM ?_;refine qF ?_;refine qL ?_
     refine qM ?_;refine qM ?_;refine wD_quiet rfl rfl rfl (by exact rfl) (by exact rfl) (by exact rfl) (a_len1 (by exact rfl)) ?_
     refine wD_quiet rfl rfl rfl (by exact rfl) (by exact rfl) (by exact rfl) (a_num (by exact rfl) (by exact rfl) (by with_reducible assumption)) ?_;refine wD_quiet rfl rfl rfl (by exact rfl) (by exact rfl) (by exact rfl) (a_iaddrS (by exact rfl) (by exact rfl) (by omega)) ?_;refine qF ?_
     refine wD_quiet rfl rfl rfl (by exact rfl) (by exact rfl) (by exact rfl) (a_load (by exact rfl) (by assumption) (by assumption)) ?_;refine wD_quiet rfl rfl rfl (by exact rfl) (by exact rfl) (by exact rfl) (a_num (by exact rfl) (by exact rfl) (by with_reducible assumption)) ?_;refine wD_quiet rfl rfl rfl (by exact rfl) (by exact rfl) (by exact rfl) (a_pickT (by exact rfl) (by exact rfl)) ?_
     refine qM ?_;refine wD_nil ?_;refine y1 ?_
     exact⟨rfl,rfl,rfl,rfl⟩
   cases lt with
   |true=>
    rw[if_pos rfl]
    refine yY ?_;refine y4 ?_;refine yM ?_;refine y3 ?_;refine wE_ret ?_;refine kB_r ?_;refine kS_r ?_
    exact endP_ret hL1 rfl rfl
   |false=>
    rw[if_neg (by simp)]
    have m3:numOp .neq (.int .u8 (r.kind:Nat)) (.int .u8 3)=some (.bool (decide (r.kind≠3))):=by
     rw[m_neq]
     by_cases hk:r.kind=3
     ·rw[hk];rfl
     ·rw[decide_eq_true hk]
      have:((r.kind:Int)==3)=false:=by simp;omega
      simp only[bne,this];rfl
    by_cases hk:r.kind=3
    ·rw[if_neg (fun q=>q hk)]
     rw[decide_eq_false (fun q=>q hk)]at m3
     refine yX ?_;refine y4 ?_;refine yF ?_;refine yL ?_;refine wO_val (a_num (by exact rfl) (by exact rfl) (by with_reducible assumption)) ?_;refine yM ?_;refine y3 ?_;refine yX ?_;refine wE_skip ?_;refine kB_n ?_;refine kS_n ?_;refine wE_seq ?_;refine y4 ?_;refine yM ?_;refine yM ?_;refine yF ?_
     refine wO_val (a_load (by exact rfl) (by assumption) (by assumption)) ?_
     refine yC ?_
     refine FW.al (maker216 F.p F.f216 (.of W1) r.of) (fun v h' m q=>q) ?_
     rintro v H2 x2 ⟨b2,hb1,hb2,rfl,hb3⟩
     have W2:=x2.wf W1
     have s2:=(s.ext (x.trans (x1.trans x2)))
     have C3:=index219 F.p F.vo.f219 (.of W2) (s2.log []) hn (g:=217) (cap:=[.pointer (some ⟨b2,0,none⟩)]) (fun q=>decide (q.id=r.of)) (fun q _=>has217 F.p F.f217 (.of W2) hb3 q)
     have hrb2:=(x2.old _ hn1).trans hrb1
     have hL2:H2.log=[]:=x2.log.trans hL1
     have C4:=voids135 F.vo (.of W2) (s2.log []) hn r.of
     have hn2:h.next<H2.next:=Nat.lt_of_lt_of_le hn1 x2.next
     clear hb1 hb2 hb3 hrb1
     skip
     refine yC ?_
     refine FW.pu C3 ?_
     clear C3
     by_cases hi:0≤idxR (fun q=>decide (q.id=r.of)) l 0
     ·obtain⟨k,q,q1,q2,q3,q4⟩:=idxR_pos _ l 0 hi
      rw[Nat.zero_add]at q3
      rw[q3]
      have hbad:badR l r=decide (q.kind=3):=by
       unfold badR;rw[find_pos q1 q2 q4]
      rw[hbad]
      obtain⟨b,o,vs,own,t,rfl,e1,e2,hb,_⟩:=s2.elem q1
      have hkl:k<l.length:=(List.getElem?_eq_some_iff.1 q1).1
      have e3:=e2.kind
      have m4:numOp .lss (.int .i64 (k:Nat)) (.int .i64 0)=some (.bool false):=m_lssF (by omega)
      have m5:numOp .eql (.int .u8 (q.kind:Nat)) (.int .u8 3)=_:=m_eqI (c:=3) rfl
      generalize decide (q.kind=3)=c3 at m5⊢
      cases c3 with
      |true=>
       rw[if_pos rfl]
       refine yM ?_;refine y3 ?_;refine y4 ?_;refine yM ?_;refine wO_val (a_num (by exact rfl) (by exact rfl) (by with_reducible assumption)) ?_;refine yM ?_
       refine yO ?_;refine yM ?_;refine yO ?_;refine yM ?_;refine yO ?_;refine wO_val (a_iaddrS (by exact rfl) (by exact rfl) (by omega)) ?_;refine yO ?_;refine yF ?_;refine yO ?_
       refine wO_val (a_load (by exact rfl) (by assumption) (by assumption)) ?_;refine yO ?_;refine wO_val (a_num (by exact rfl) (by exact rfl) (by with_reducible assumption)) ?_;refine yU ?_;refine y3 ?_
       refine yY ?_;refine y4 ?_;refine yM ?_;refine y3 ?_;refine wE_ret ?_;refine kS_r ?_
       exact endP_ret hL2 rfl rfl
      |false=>
       rw[if_neg (by simp)]
       refine yM ?_;refine y3 ?_;refine y4 ?_;refine yM ?_;refine wO_val (a_num (by exact rfl) (by exact rfl) (by with_reducible assumption)) ?_;refine yM ?_
       refine yO ?_;refine yM ?_;refine yO ?_;refine yM ?_;refine yO ?_;refine wO_val (a_iaddrS (by exact rfl) (by exact rfl) (by omega)) ?_;refine yO ?_;refine yF ?_;refine yO ?_
       refine wO_val (a_load (by exact rfl) (by assumption) (by assumption)) ?_;refine yO ?_;refine wO_val (a_num (by exact rfl) (by exact rfl) (by with_reducible assumption)) ?_;refine yU ?_;refine y3 ?_
       refine yX ?_;refine wE_skip ?_;refine kS_n ?_;refine wE_seq ?_;refine y4 ?_;refine yM ?_;refine yF ?_;refine wO_val (a_load (by exact rfl) (by assumption) (by assumption)) ?_
       refine yC ?_
       refine FW.pu C4 ?_
       clear C4
       cases voidR l r.of with
       |true=>
        rw[if_pos rfl]
        refine y3 ?_;refine yY ?_;refine y4 ?_;refine yM ?_;refine y3 ?_;refine wE_ret ?_
        refine kS_r ?_
        exact endP_ret hL2 rfl rfl
       |false=>
        rw[if_neg (by simp)]
        refine y3 ?_;refine yX ?_;refine wE_skip ?_;refine kS_n ?_;refine y4 ?_;refine yM ?_;refine y3 ?_;refine wE_ret ?_
        exact endP_ret hL2 rfl rfl
     ·obtain⟨q1,q2⟩:=idxR_neg _ l 0 hi
      rw[q1]
      have hbad:badR l r=true:=by
       unfold badR
       rw[List.find?_eq_none.2 (fun x hx=>by rw[q2 x hx];simp)]
      rw[hbad,if_pos rfl]
      have m4:numOp .lss (.int .i64 (-1)) (.int .i64 0)=some (.bool true):=m_lssT (by omega)
      refine yM ?_;refine y3 ?_;refine y4 ?_;refine yM ?_;refine wO_val (a_num (by exact rfl) (by exact rfl) (by with_reducible assumption)) ?_;refine yM ?_
      refine yP ?_;refine yP ?_;refine yP ?_;refine yP ?_;refine yP ?_;refine yP ?_;refine yT ?_;refine y3 ?_;refine yY ?_;refine y4 ?_;refine yM ?_;refine y3 ?_;refine wE_ret ?_;refine kS_r ?_
      exact endP_ret hL2 rfl rfl
    ·rw[if_pos hk]
     rw[decide_eq_true hk]at m3
     refine yX ?_;refine y4 ?_;refine yF ?_;refine yL ?_;refine wO_val (a_num (by exact rfl) (by exact rfl) (by with_reducible assumption)) ?_;refine yM ?_;refine y3 ?_;refine yY ?_;refine y4 ?_;refine yM ?_;refine y3 ?_;refine wE_ret ?_;refine kB_r ?_
     refine kS_r ?_
     exact endP_ret hL1 rfl rfl
 ·rw[if_pos g2]
  have hc:ckR r=1:=by
   unfold ckR at g2⊢
   split at g2
   ·exact(g2 rfl).elim
   ·rename_i q;rw[if_neg q]
  rw[hc]
  refine yt ?_;refine yM ?_;refine y3 ?_;refine yY ?_;refine y4 ?_;refine yM ?_;refine y3 ?_;refine wE_ret ?_;refine kB_r ?_;refine kS_r ?_
  exact endP_ret (x.log.trans hr.log) rfl rfl
end Go.A.Pk
end
section
set_option maxRecDepth 100000
namespace Go.A.Pk
variable {T:Nat→Option AFunc}
def namedR(l:List Rd)(z:Int):Bool:=l.any fun q=>decide (q.kind≠3)&&decide (q.id=z)
def refR(l:List Rd)(r:Rd):Int:=
 if 200≤l.length then 2 else if ckR r≠0 then 1 else if l.any (fun q=>decide (q.id=r.id))then 6 else if lateR l r then 7 else if r.kind≠3 then 0 else if !namedR l r.of then 5 else if voidR l r.of then 6 else 0
structure FnsRf (T:Nat→Option AFunc):Prop extends FnsRr T where
 f130:T 130=some f130
end Go.A.Pk
end
section
set_option maxRecDepth 100000
namespace Go.A.Pk
variable {T:Nat→Option AFunc}
def chkF(F:List Rd→Rd→Int)(l:List Rd):Nat→Nat→Int×Int
 |0,_=>(0,0)
 |m+1,i=>match l[i]? with
  |none=>(0,0)
  |some r=>if F (l.take i) r≠0 then((i:Nat),F (l.take i) r)else chkF F l m (i+1)
def chkR(F:List Rd→Rd→Int)(l:List Rd):Int×Int:=chkF F l l.length 0
def ckV(p:Int×Int):Value:= .tuple #[.int .i64 p.1, .int .i64 p.2]
theorem chkF_step{F:List Rd→Rd→Int}{l:List Rd}{i:Nat}{r:Rd}(hi:l[i]? =some r):chkF F l (l.length-i) i=if F (l.take i) r≠0 then(((i:Nat):Int),F (l.take i) r)else chkF F l (l.length-(i+1)) (i+1):=by
 have hlt:=(List.getElem?_eq_some_iff.1 hi).1
 rw[show l.length-i=(l.length-(i+1))+1 by omega,chkF,hi]
theorem RdS.take{h:Heap}{a:Option Addr}{n c:Nat}{l:List Rd}(s:RdS h (.slice a n c) l){i:Nat}(hi:i≤l.length):RdS h (.slice a i i) (l.take i):=by
 obtain rfl:=s.len
 refine⟨?_,fun r hr=>s.ok r (List.mem_of_mem_take hr)⟩
 have e:=s.sl.take hi
 rw[rsL_take s.ok]at e
 rw[List.length_take,Nat.min_eq_left hi]
 exact e
theorem RdS.cap{h:Heap}{a:Option Addr}{n c:Nat}{l:List Rd}(s:RdS h (.slice a n c) l):n≤c:=by
 rcases s.sl.inv with⟨_,hv,h0,_⟩|⟨b,o,cap,hv,s1,hc⟩
 ·cases hv;omega
 ·cases hv;exact hc
theorem RdS.slot{h:Heap}{a:Option Addr}{n c:Nat}{l:List Rd}(s:RdS h (.slice a n c) l):a=none∨∃b o,a=some ⟨b,o,none⟩:=by
 rcases s.sl.inv with⟨_,hv,h0,_⟩|⟨b,o,cap,hv,s1,hc⟩
 ·cases hv;exact .inl rfl
 ·cases hv;exact .inr ⟨_,_,rfl⟩
set_option maxHeartbeats 4000000 in
theorem check40(F:FnsFo T)(hf:T 40=some f40){h:Heap}(hr:Rdy h){a:Option Addr}{n c:Nat}{l:List Rd}(s:RdS h (.slice a n c) l)(hn:n<1000000):Pu T 40 [.slice a n c] h (ckV (chkR folR l)):=by
 refine .of F.p hf hr rfl ?_
 obtain rfl:=s.len
 have hcap:=s.cap
 refine y4 ?_;refine yM ?_;refine yM ?_;refine y3 ?_;refine wE_seq ?_;refine y4 ?_;refine yM ?_;refine yD ?_
 refine yM ?_;refine y3 ?_;refine wE_block ?_
 refine wE_loop (fun m e ds h'=>∃i:Nat,i≤l.length∧m=l.length-i∧e=[(0, .slice a l.length c),(7, .slice a l.length c),(8, .int .i64 (l.length:Nat)),(9, .int .i64 (i:Nat))]∧ds=[]∧Ext h h'∧chkR folR l=chkF folR l (l.length-i) i)
  ⟨0,Nat.zero_le _,rfl,rfl,rfl, .refl h,rfl⟩ ?_
 rintro m e ds H ⟨i,hin,rfl,rfl,rfl,x,hi⟩
 have W:=x.wf hr.wf
 have hL:=x.log.trans hr.log
 have hnx:=x.next
 by_cases hlt:i<l.length
 ·obtain⟨r,hri⟩:∃r,l[i]? =some r:=⟨l[i],List.getElem?_eq_getElem hlt⟩
  have hR:=s.ok r (List.mem_of_getElem? hri)
  have x2:Ext h ((H.push (.cells zR true 1)).wr h.next H.next (.cells (rdL r) true 1)):=⟨by show h.next≤H.next+1;omega,(Heap.log_wr_new hnx).trans x.log,fun b hb=>by
   rw[z5 (by omega),z4 (by omega)];exact x.old b hb,fun w=>((x.wf w).push _).as (AS.wr h.next _ _ _)⟩
  have C:=follows129 F (.of (x2.wf hr.wf)) (((s.take hin).ext x2).log []) (show i<1000000 by omega) hR
  have gn2:(((H.push (.cells zR true 1)).wr h.next H.next (.cells (rdL r) true 1))).get H.next=some (.cells (rdL r) true 1):=by
   rw[z6,z3];rfl
  have hsl:=s.slot
  obtain⟨b,o,vs,own,t,rfl,e1,e2,hb,_⟩:=(s.ext x).elem hri
  have k1:=e2.all
  have k2:=rdL_llen hR
  have rl2:=rdL_length hR
  have ro:=rdL_ones r
  have ral:=rdL_all hR
  rw[chkF_step hri]at hi
  refine y4 ?_;refine yt ?_;refine y3 ?_;refine wE_seq ?_;refine yY ?_;refine wE_skip ?_;refine kS_n ?_;refine wE_seq ?_;refine wE_block ?_;refine y4 ?_;refine yM ?_;refine wO_val (a_iaddrS (by exact rfl) (by exact rfl) (by omega)) ?_;refine wO_val (a_loadN (by exact rfl) (by assumption) (by assumption) (by assumption)) ?_;refine wO_val (a_new) ?_;refine yM ?_
  refine wO_val (a_storeAll (by exact rfl) (by exact rfl) (by(simp(disch:=first|omega|(simp only[z1,z2];omega))only[z3,z4,z5,z6,z7,z1,z2,gn2,e1];exact rfl)) (by assumption) (by exact rfl) (by assumption)) ?_;refine y3 ?_
  unfold zR at*
  generalize(((H.push (.cells _ true 1)).wr h.next H.next (.cells (rdL r) true 1)))=H2 at*
  have hL2:=x2.log.trans hr.log
  refine wE_seq ?_;refine wE_draw ?_;refine qM ?_;refine qM ?_;refine qM ?_
  refine wD_quiet rfl rfl rfl (by exact rfl) (by exact rfl) (by exact rfl) (a_slice3 (by exact rfl) (by exact rfl) (by exact rfl) (by omega) (by omega) (by omega) (by assumption)) ?_;refine wD_quiet rfl rfl rfl (by exact rfl) (by exact rfl) (by exact rfl) (a_loadN (by exact rfl) (by assumption) (by assumption) (by assumption)) ?_
  refine qC ?_
  refine FW.puD C (by apply ra_dropC rfl;apply ra_dropC rfl;apply ra_dropC rfl;apply ra_dropC rfl;apply ra_dropC rfl;exact ra_nil) ?_
  clear C
  by_cases hz:folR (l.take i) r=0
  ·rw[if_neg (fun q=>q hz)]at hi
   rw[hz]
   refine qM ?_;refine wD_nil ?_;refine y1 ?_;refine kS_n ?_;refine y4 ?_;refine yM ?_;refine yf ?_
   refine y3 ?_;refine yX ?_;refine wE_skip ?_;refine kB_n ?_;refine kS_n ?_;refine wE_region ?_;refine yinc ?_;refine yM ?_;refine y3 ?_
   exact⟨l.length-(i+1),by omega,i+1,by omega,rfl,rfl,rfl,x2,hi⟩
  ·rw[if_pos hz]at hi
   rw[hi]
   generalize folR (l.take i) r=z at hz
   have m1:numOp .neq (.int .i64 z) (.int .i64 0)=some (.bool true):=m_neqT hz
   refine qM ?_;refine wD_nil ?_;refine y1 ?_;refine kS_n ?_;refine y4 ?_;refine yM ?_;refine wO_val (a_num (by exact rfl) (by exact rfl) (by with_reducible assumption)) ?_
   refine y3 ?_;refine yY ?_;refine y4 ?_;refine yM ?_;refine yM ?_;refine yM ?_;refine yM ?_;refine y3 ?_;refine wE_ret ?_;refine kB_r ?_;refine kS_r ?_;refine kS_r ?_;refine kB_r ?_;refine kS_r ?_
   exact endP_ret hL2 rfl rfl
 ·obtain rfl:i=l.length:=by omega
  rw[hi,Nat.sub_self]
  refine y4 ?_;refine yf ?_;refine y3 ?_;refine wE_seq ?_;refine yX ?_;refine wE_exit ?_;refine kS_e ?_;refine kS_e ?_;refine kB_e ?_;refine kS_n ?_
  refine y4 ?_;refine yM ?_;refine yM ?_;refine y3 ?_;refine wE_ret ?_
  exact endP_ret hL rfl rfl
end Go.A.Pk
end
section
set_option maxRecDepth 100000
namespace Go.A.Pk
variable {T:Nat→Option AFunc}
def DisR(l:List Rd):Prop:=l.Pairwise fun a b=>a.id≠b.id
theorem badR_eq{r:Rd}:∀{l:List Rd},DisR l→badR l r= !namedR l r.of
 |[],_=>rfl
 |q::t,h=>by
  have h2:DisR t:=(List.pairwise_cons.1 h).2
  have h1:=(List.pairwise_cons.1 h).1
  have ih:=badR_eq (r:=r) h2
  unfold badR namedR at ih⊢
  rw[List.any_cons]
  by_cases hq:q.id=r.of
  ·rw[List.find?_cons_of_pos (by simpa using hq)]
   by_cases hk:q.kind=3
   ·have:(t.any fun q=>decide (q.kind≠3)&&decide (q.id=r.of))=false:=by
     rw[List.any_eq_false]
     intro x hx
     have:=h1 x hx
     rw[hq]at this
     simp;intro _ e;exact this e.symm
    rw[this];simp[hk]
   ·simp[hk,hq]
  ·rw[List.find?_cons_of_neg (by simpa using hq),ih]
   simp[hq]
theorem folR_eq{l:List Rd}(h:DisR l)(r:Rd):folR l r=refR l r:=by
 unfold folR refR;rw[badR_eq h]
theorem DisR.snoc{l:List Rd}{i:Nat}{r:Rd}(h:DisR (l.take i))(hi:l[i]? =some r)(hz:refR (l.take i) r=0):DisR (l.take (i+1)):=by
 obtain⟨hlt,rfl⟩:=List.getElem?_eq_some_iff.1 hi
 rw[List.take_succ_eq_append_getElem hlt]
 refine List.pairwise_append.2 ⟨h,List.pairwise_singleton _ _,?_⟩
 intro a ha b hb e
 rw[List.mem_singleton]at hb
 subst hb
 have:((l.take i).any fun q=>decide (q.id=l[i].id))=true:=List.any_eq_true.2 ⟨a,ha,by simpa using e⟩
 unfold refR at hz
 rw[this]at hz
 split at hz
 ·omega
 ·split at hz
  ·omega
  ·simp at hz
theorem chkF_law{l:List Rd}:∀m i,m=l.length-i→DisR (l.take i)→chkF folR l m i=chkF refR l m i∧((chkF refR l m i).2=0→DisR l)
 |0,i,hm,hd=>⟨rfl,fun _=>by rwa [List.take_of_length_le (by omega)]at hd⟩
 |m+1,i,hm,hd=>by
  have hlt:i<l.length:=by omega
  have hi:l[i]? =some l[i]:=List.getElem?_eq_getElem hlt
  have e:=folR_eq hd l[i]
  simp only[chkF,hi]
  rw[e]
  by_cases hz:refR (l.take i) l[i]=0
  ·rw[if_neg (fun q=>q hz),if_neg (fun q=>q hz)]
   exact chkF_law m (i+1) (by omega) (hd.snoc hi hz)
  ·rw[if_pos hz,if_pos hz]
   exact⟨rfl,fun q=>(hz q).elim⟩
theorem chkR_law(l:List Rd):chkR folR l=chkR refR l:=(chkF_law l.length 0 rfl List.Pairwise.nil).1
theorem chkR_dis{l:List Rd}(h:(chkR refR l).2=0):DisR l:=(chkF_law l.length 0 rfl List.Pairwise.nil).2 h
def appE(F:List Rd→Rd→Int)(l:List Rd)(r:Rd):Int:=if(chkR F l).2≠0 then(chkR F l).2 else F l r
theorem appE_law(l:List Rd)(r:Rd):appE folR l r=appE refR l r:=by
 unfold appE
 rw[chkR_law]
 by_cases h:(chkR refR l).2=0
 ·rw[if_neg (fun q=>q h),if_neg (fun q=>q h),folR_eq (chkR_dis h)]
 ·rw[if_pos h,if_pos h]
theorem rsL_snoc(l:List Rd)(r:Rd):rsL l++rdL r=rsL (l++[r]):=by simp[rsL]
theorem rsL_ones:∀l:List Rd,ones (rsL l)=true
 |[]=>rfl
 |r::l=>by
  rw[rsL_cons]
  exact ones_app (rdL_ones r) (rsL_ones l)
theorem fill_rd{h:Heap}{e:Env}{z:List Value}{x:Operand}{r:Rd}(hr:IsR r)(hz:z.length=12)(hx:ev h e x=some (.agg (rdL r).toArray)):fillA h e z [(0,12,x)]=some (rdL r):=by
 have h12:=rdL_length hr
 have e1:cellsOf (.agg (rdL r).toArray)=rdL r:=by show(rdL r).toArray.toList=_;simp
 have e2:lputs z 0 (rdL r)=rdL r:=by rw[lputs_mid (by omega),h12,List.take_zero,List.drop_eq_nil_of_le (by omega)];simp
 simp only[fillA,hx,e1,e2,llen_eq,h12,hz];rfl
theorem sl_us:∀pl:List Nat,∀t:List Value,sameL t t=true→sameL (us pl++t) (us pl++t)=true
 |[],t,h=>h
 |a::pl,t,h=>sl_cons (s1_int _ _) (sl_us pl t h)
theorem sv_rd(r:Rd):sameV (.agg (rdL r).toArray) (.agg (rdL r).toArray)=true:=by
 refine sv_agg ?_
 rw[List.toList_toArray]
 exact sl_cons (s1_int _ _) (sl_cons (s1_int _ _) (sl_cons (s1_int _ _) (sl_us _ _ (sl_cons (s1_int _ _) sl_nil))))
theorem wD_appCl{base:Nat}{e:Env}{h:Heap}{lo:Nat}{l:List Rd}{r:Rd}{ops:List AOper}{bf:List Nat}{rs:List Rec}{Q:Env→Heap→Prop}{i mask:Nat}{is:List Nat}{dst:Option Nat}{g:Option (Nat×Bool)}{er:Env}{x y:Operand}{v u:Value}
 (s:CloR lo l v h)(hl:∀r∈l,IsR r)(hr:IsR r)(hn:l.length<1000000)(hlo:lo≤h.next)(hbase:base≤lo)
 (ho:lget ops i=some ⟨dst, .append 12 96 x y,g⟩)(hm:lget bf i=some mask)(he:keepE e (slotsA ⟨dst, .append 12 96 x y,g⟩)=er)(hwt:wantedA er g=some true)
 (hx:ev {h with log:=[]} er x=some v)(hy:ev {h with log:=[]} er y=some u)(hs:srcCells {h with log:=[]} 12 u=some (rdL r,1))
 (hK:∀v' h' lg,Own lo h' 12 v' (l.length+1) (rsL (l++[r]))→Lx lo h h'→∃rs',recsAfter h' base lg mask rs=some rs'∧WD T base ops bf Q is rs' (dstE e dst v') h'):WD T base ops bf Q (i::is) rs e h:=by
 have h12:=rdL_length hr
 rcases s with⟨rfl,rfl⟩|⟨b,h1,h2,h3,⟨rfl,rfl⟩|⟨h4,rfl⟩⟩
 ·refine wD_app1 (lo:=lo) (n:=0) (.nil) (by omega) (by omega) (by omega) hlo hbase ho hm he hwt hx hy hs h12 (rdL_ones r) rfl ?_
  intro v' h' lg o x
  refine hK v' h' lg ?_ x
  rw[←rsL_snoc];exact o
 ·have hF:Own lo (h.push (.cells (rdL r) true 12)) 12 (.slice (some ⟨h.next,0,none⟩) 1 UNK) 1 (rdL r):= .full hlo (Nat.lt_succ_self _) (z3 _ _) (by omega) (by omega)
  obtain⟨rs',q1,q2⟩:=hK _ _ [] (by rw[←rsL_snoc];exact hF) ((Lx.refl lo h).push hlo _)
  exact wD_actH ho hm he hwt rfl (a_app_full (h:={h with log:=[]}) (len:=0) (c:=0) (n:=1) (ws:=rdL r) hx hy hs (by omega) (by omega) (by decide) h3 (by exact Nat.le_refl _) (by omega) rfl) (eq_push _) (lg_push _) q1 q2
 ·refine wD_app1 (lo:=lo) (n:=l.length) (.full h1 h2 h3 (rsL_length hl) (fun q=>h4 (List.length_eq_zero_iff.1 q))) hn (by omega) (by omega) hlo hbase ho hm he hwt hx hy hs h12 (rdL_ones r) (rsL_ones l) ?_
  intro v' h' lg o x
  refine hK v' h' lg ?_ x
  rw[←rsL_snoc];exact o
def AppR(e:Int)(l:List Rd)(v:Value)(h:Heap):Prop:=∃x,v= .tuple #[x, .int .i64 e]∧RdS h x (if e=0 then l else [])
theorem AppR.flat{e:Int}{l:List Rd}{v:Value}{h h':Heap}(hv:noRef v=true)(q:AppR e l v h):AppR e l v h':=by
 obtain⟨x,rfl,s⟩:=q
 refine⟨x,rfl,?_,s.ok⟩
 rcases s.sl.inv with⟨c',rfl,h0,e1⟩|⟨b,o,cap',rfl,s1,hc⟩
 ·rw[h0,e1];exact .nil
 ·simp[noRef,flatL,scalL]at hv
  cases hv.1
set_option maxHeartbeats 4000000 in
theorem append42(F:FnsFo T)(h40:T 40=some f40)(h131:T 131=some f131)(hf:T 42=some f42){h:Heap}(hr:Rdy h){a:Option Addr}{n c:Nat}{l:List Rd}(s:RdS h (.slice a n c) l)(hn:n<1000000){r:Rd}(hR:IsR r):
 Al T 42 [.slice a n c,rdV r] h (AppR (appE folR l r) (l++[r])):=by
 refine .of F.p hf hr (fun v h1 hv q=>AppR.flat hv q) ?_
 obtain rfl:=s.len
 have k12:=rdL_all hR
 have l12:=rdL_llen hR
 have hrb:(h.push (.cells (cellsOf (rdV r)) true 1)).get h.next=some (.cells (rdL r) true 1):=z3 h _
 have W:WF (h.push (.cells (cellsOf (rdV r)) true 1)):=hr.wf.push _
 have x:Ext h (h.push (.cells (cellsOf (rdV r)) true 1)):=(Ext.refl h).push _
 have hnx:h.next<(h.push (.cells (cellsOf (rdV r)) true 1)).next:=Nat.lt_succ_self _
 have C1:=check40 F h40 (.of W) ((s.ext x).log []) hn
 have C2:=follows129 F (.of W) ((s.ext x).log []) hn hR
 unfold appE
 refine y4 ?_;refine yB ?_;refine yM ?_;refine yM ?_;refine y3 ?_;refine wE_seq ?_
 generalize(h.push (.cells (cellsOf (rdV r)) true 1))=H at*
 have hL:H.log=[]:=x.log.trans hr.log
 have nilA:∀e:Int,e≠0→AppR e (l++[r]) (.tuple #[.slice none 0 0, .int .i64 e]) H:=fun e he=>⟨_,rfl,by rw[if_neg he];exact⟨.nil,fun r hr=>by cases hr⟩⟩
 refine y4 ?_;refine yM ?_
 refine yC ?_
 refine FW.pu C1 ?_
 clear C1
 rcases chkR folR l with⟨p1,p2⟩
 unfold ckV
 by_cases hp:p2=0
 ·subst hp
  rw[if_neg (fun q=>q rfl)]
  refine yM ?_;refine yE ?_;refine yE ?_;refine yM ?_;refine yM ?_;refine y3 ?_;refine y4 ?_;refine yM ?_;refine yf ?_;refine y3 ?_;refine yX ?_;refine wE_skip ?_;refine kS_n ?_;refine wE_seq ?_;refine y4 ?_;refine yM ?_;refine wO_val (a_loadN (by exact rfl) (by assumption) (by assumption) (by assumption)) ?_
  refine yC ?_
  refine FW.pu C2 ?_
  clear C2
  by_cases hq:folR l r=0
  ·rw[hq]
   refine yM ?_;refine y3 ?_;refine y4 ?_;refine yM ?_;refine yf ?_;refine y3 ?_;refine yX ?_;refine wE_skip ?_;refine kS_n ?_;refine wE_seq ?_;refine wE_draw ?_;refine qM ?_
   refine wD_quiet rfl rfl rfl (by exact rfl) (by exact rfl) (by exact rfl) (a_loadN (by exact rfl) (by assumption) (by assumption) (by assumption)) ?_
   refine wD_new rfl rfl rfl (by exact rfl) (by exact rfl) (by exact rfl) (a_bslice (fill_rd (by assumption) rfl (by exact rfl)) rfl) (by refine rs_cons (rq_quiet rfl (a_loadN (by exact rfl) (by(simp(disch:=first|omega|(simp only[z1,z2];omega))only[z3,z4,z5,z6,z7,z1,z2,hrb];exact rfl)) (by assumption) (by assumption)) (by exact sv_rd _)) ?_;refine rs_cons (rq_quiet rfl (a_mov (by exact rfl)) (by exact sv_slice _ _ _)) ?_;exact rs_nil) ?_
   have x1:Ext h (H.push (.cells (rdL r) true 12)):=x.trans ((Ext.refl H).push _)
   refine qC ?_
   refine FW.alD (clone131 F.p h131 (.of (x1.wf hr.wf)) ((s.ext x1).log []) hn) (fun v h' m q=>q.log m) ?_
   rintro v H2 x2 q
   have g1:=(x2.old _ (show h.next<H.next+1 by omega)).trans ((z4 hnx).trans hrb)
   have g2:H2.get H.next=some (.cells (rdL r) true 12):=(x2.old _ (Nat.lt_succ_self _)).trans (z3 H _)
   have n2:H.next+1≤H2.next:=x2.next
   refine⟨_,by apply ra_keepC rfl (rq_made rfl) (by rfl);apply ra_keepC rfl (rq_quiet rfl (a_loadN (by exact rfl) (by assumption) (by assumption) (by assumption)) (by exact sv_rd _)) rfl;apply ra_dropC rfl;exact ra_nil,?_⟩
   skip
   have hL2:H2.log=[]:=x2.log.trans hL
   refine wD_appCl (lo:=H.next+1) (r:=r) q s.ok hR hn (by omega) (by omega) rfl rfl rfl (by exact rfl) (by exact rfl) (by exact rfl) (src_log (src_slice (cs:=rdL r) g2 k12 (rdL_length hR))) ?_
   intro v' h3 lg o3 x3
   have g3:=(x3.old _ (show h.next<H.next+1 by omega)).trans g1
   have g4:=(x3.old _ (Nat.lt_succ_self _)).trans g2
   have n3:=x3.next
   refine⟨_,by apply ra_dropC rfl;apply ra_dropC rfl;exact ra_nil,?_⟩
   refine qM ?_;refine qM ?_;refine wD_nil ?_;refine y1 ?_;refine kS_n ?_;refine wE_ret ?_
   refine endA_ret (x3.log.trans hL2) rfl ⟨v',rfl,?_⟩
   rw[if_pos rfl]
   refine⟨?_,fun z hz=> ?_⟩
   ·rw[show(l++[r]).length=l.length+1 by simp]
    exact o3.slice (by omega)
   ·rcases List.mem_append.1 hz with q|q
    ·exact s.ok z q
    ·rw[List.mem_singleton.1 q];exact hR
  ·generalize folR l r=z at hq
   have m1:numOp .neq (.int .i64 z) (.int .i64 0)=some (.bool true):=m_neqT hq
   refine yM ?_;refine y3 ?_;refine y4 ?_;refine yM ?_;refine wO_val (a_num (by exact rfl) (by exact rfl) (by with_reducible assumption)) ?_;refine y3 ?_;refine yY ?_;refine y4 ?_;refine yM ?_;refine yM ?_;refine yM ?_;refine y3 ?_;refine wE_ret ?_;refine kS_r ?_
   exact endA_ret hL rfl (nilA z hq)
 ·rw[if_pos hp]
  have m1:numOp .neq (.int .i64 p2) (.int .i64 0)=some (.bool true):=m_neqT hp
  refine yM ?_;refine yE ?_;refine yE ?_;refine yM ?_;refine yM ?_;refine y3 ?_;refine y4 ?_;refine yM ?_;refine wO_val (a_num (by exact rfl) (by exact rfl) (by with_reducible assumption)) ?_;refine y3 ?_;refine yY ?_;refine y4 ?_;refine yM ?_
  refine yM ?_;refine yM ?_;refine y3 ?_;refine wE_ret ?_;refine kS_r ?_
  exact endA_ret hL rfl (nilA p2 hp)
end Go.A.Pk
end
section
set_option maxRecDepth 100000
namespace Go.A.Pk
variable {T:Nat→Option AFunc}
def earlyR(day:Int)(l:List Rd):List Rd:=l.filter fun r=> !decide (day<r.known)
def cntP(day:Int)(l:List Rd):List Rd:=(earlyR day l).filter fun r=> !(decide (r.kind=3)||voidR (earlyR day l) r.id)
def gone(day:Int)(l:List Rd)(z:Int):Bool:=l.any fun r=>(decide (r.kind=3)&&decide (r.known≤day))&&decide (r.of=z)
def cntQ(day:Int)(l:List Rd)(r:Rd):Bool:=(decide (r.kind≠3)&&decide (r.known≤day))&& !gone day l r.id
def cntR(day:Int)(l:List Rd):List Rd:=l.filter (cntQ day l)
theorem dec_le(day z:Int):(!decide (day<z))=decide (z≤day):=by
 by_cases h:day<z
 ·rw[decide_eq_true h,decide_eq_false (by omega)];rfl
 ·rw[decide_eq_false h,decide_eq_true (by omega)];rfl
theorem gone_eq(day:Int)(l:List Rd)(z:Int):voidR (earlyR day l) z=gone day l z:=by
 unfold voidR earlyR gone
 rw[List.any_filter]
 congr 1
 funext r
 rw[dec_le]
 cases decide (r.known≤day)<;>cases decide (r.kind=3)<;>simp
theorem cnt_law(day:Int)(l:List Rd):cntP day l=cntR day l:=by
 unfold cntP cntR
 simp only[gone_eq]
 unfold earlyR
 rw[List.filter_filter]
 congr 1
 funext r
 unfold cntQ
 rw[dec_le]
 generalize gone day l r.id=g
 by_cases hk:r.kind=3
 ·simp[hk]
 ·simp only[hk,ne_eq,not_false_eq_true,decide_true,decide_false,Bool.false_or,Bool.true_and]
  rw[Bool.and_comm]
theorem RdS.agree{h h':Heap}{v:Value}{l:List Rd}(s:RdS h v l)(hn:h.next≤h'.next)(ha:∀b,b<h.next→h'.get b=h.get b):RdS h' v l:=⟨s.sl.agree hn fun b _ _ _ hb _=>ha b hb,s.ok⟩
set_option maxHeartbeats 4000000 in
theorem counting44(F:FnsFo T)(h40:T 40=some f40)(h131:T 131=some f131)(h132:T 132=some f132)(h133:T 133=some f133)(h134:T 134=some f134)(hf:T 44=some f44){h:Heap}(hr:Rdy h){a:Option Addr}{n c:Nat}{l:List Rd}(s:RdS h (.slice a n c) l)(hn:n<1000000)(day:Int):
 Al T 44 [.slice a n c, .int .i64 day] h (AppR (chkR folR l).2 (cntP day l)):=by
 refine .of F.p hf hr (fun v h1 hv q=>AppR.flat hv q) ?_
 obtain rfl:=s.len
 have hrb:Box (h.push (.cells (cellsOf (Value.int .i64 day)) true 1)) h.next (.int .i64 day):=z3 h _
 have W:WF (h.push (.cells (cellsOf (Value.int .i64 day)) true 1)):=hr.wf.push _
 have x:Ext h (h.push (.cells (cellsOf (Value.int .i64 day)) true 1)):=(Ext.refl h).push _
 have hnx:h.next<(h.push (.cells (cellsOf (Value.int .i64 day)) true 1)).next:=Nat.lt_succ_self _
 have C1:=check40 F h40 (.of W) ((s.ext x).log []) hn
 refine y4 ?_;refine yB ?_;refine yM ?_;refine yM ?_;refine y3 ?_;refine wE_seq ?_
 generalize(h.push (.cells (cellsOf (Value.int .i64 day)) true 1))=H at*
 have hL:H.log=[]:=x.log.trans hr.log
 have nilA:∀e:Int,e≠0→AppR e (cntP day l) (.tuple #[.slice none 0 0, .int .i64 e]) H:=fun e he=>⟨_,rfl,by rw[if_neg he];exact⟨.nil,fun r hr=>by cases hr⟩⟩
 refine y4 ?_;refine yM ?_
 refine yC ?_
 refine FW.pu C1 ?_
 clear C1
 rcases chkR folR l with⟨p1,p2⟩
 unfold ckV
 by_cases hp:p2=0
 ·subst hp
  refine yM ?_;refine yE ?_;refine yE ?_;refine yM ?_;refine yM ?_;refine y3 ?_;refine y4 ?_;refine yM ?_;refine yf ?_;refine y3 ?_;refine yX ?_;refine wE_skip ?_;refine kS_n ?_;refine y4 ?_
  refine yM ?_
  refine yC ?_
  refine FW.al (clone131 F.p h131 (.of W) ((s.ext x).log []) hn) (fun v h' m q=>q.log m) ?_
  rintro v H1 x1 q1
  have W1:=x1.wf W
  have hL1:=x1.log.trans hL
  have hrb1:Box H1 h.next (.int .i64 day):=(x1.old _ hnx).trans hrb
  refine wO_val (a_mkFunc (by exact rfl) (by exact rfl)) ?_
  refine yC ?_
  refine FW.gs0 (delete132 F.p h132 F.vo.f219 (lo:=H.next) (.of W1) (q1.log []) s.ok hn (g:=133) (cap:=[.pointer (some ⟨h.next,0,none⟩)]) (fun r=>decide (day<r.known)) (fun h' w hnn hold r hR=>late133 F.p h133 (.of w) (b:=h.next) ((hold _ hnx).trans hrb1) r)) (fun v h' m q=>q.log m) (fun z hz=>by omega) ?_
  rintro v2 H2 n2 l2 o2 w2 (q2:RdS H2 v2 (earlyR day l))
  have W2:=w2 W1
  have hL2:=l2.trans hL1
  have hx1:=x1.next
  have n2':H1.next≤H2.next:=n2
  obtain⟨a2,c2,rfl⟩:=q2.sl.form
  have hn2:(earlyR day l).length<1000000:=Nat.lt_of_le_of_lt (List.length_filter_le ..) hn
  have hb8:((H2.push (.cells [.slice none 0 0] true 1)).wr h.next H2.next (.cells (lputs [Value.slice none 0 0] 0 (cellsOf (Value.slice a2 (earlyR day l).length c2))) true 1)).get H2.next=some (.cells [.slice a2 (earlyR day l).length c2] true 1):=by rw[z6,z3];rfl
  have x3:Ext H2 ((H2.push (.cells [.slice none 0 0] true 1)).wr h.next H2.next (.cells (lputs [Value.slice none 0 0] 0 (cellsOf (Value.slice a2 (earlyR day l).length c2))) true 1)):=⟨Nat.le_succ _,Heap.log_wr_new (by omega),fun b hb=>by
   rw[z5 (by omega),z4 (by omega)],fun w=>(w.push _).as (AS.wr h.next _ _ _)⟩
  have n3:H2.next<((H2.push (.cells [.slice none 0 0] true 1)).wr h.next H2.next (.cells (lputs [Value.slice none 0 0] 0 (cellsOf (Value.slice a2 (earlyR day l).length c2))) true 1)).next:=Nat.lt_succ_self _
  refine wO_val (a_new) ?_;refine yS ?_;refine y3 ?_
  generalize((H2.push (.cells [.slice none 0 0] true 1)).wr h.next H2.next (.cells (lputs [Value.slice none 0 0] 0 (cellsOf (Value.slice a2 (earlyR day l).length c2))) true 1))=H3 at*
  have W3:=x3.wf W2
  have hL3:=x3.log.trans hL2
  have q3:=q2.ext x3
  refine y4 ?_;refine yL ?_
  refine yC ?_
  refine FW.al (clone131 F.p h131 (.of W3) (q3.log []) hn2) (fun v h' m q=>q.log m) ?_
  rintro v4 H4 x4 q4
  have W4:=x4.wf W3
  have hL4:=x4.log.trans hL3
  have hb84:Box H4 H2.next (.slice a2 (earlyR day l).length c2):=(x4.old _ n3).trans hb8
  have q5:=q3.ext x4
  refine wO_val (a_mkFunc (by exact rfl) (by exact rfl)) ?_
  refine yC ?_
  refine FW.gs0 (delete132 F.p h132 F.vo.f219 (lo:=H3.next) (.of W4) (q4.log []) q2.ok hn2 (g:=134) (cap:=[.pointer (some ⟨H2.next,0,none⟩)]) (fun r=>decide (r.kind=3)||voidR (earlyR day l) r.id)
   (fun h' w hnn hold r hR=>out134 F.vo h134 (.of w) (b:=H2.next) ((hold _ n3).trans hb84) (((q3.agree (Nat.le_trans x4.next hnn) fun b hb=>(hold b hb).trans (x4.old b hb))).log []) hn2 r)) (fun v h' m q=>q.log m) (fun z hz=>by have:=x3.next;omega) ?_
  rintro v6 H6 n6 l6 o6 w6 (q6:RdS H6 v6 (cntP day l))
  refine yM ?_;refine yM ?_;refine y3 ?_;refine wE_ret ?_
  refine endA_ret (l6.trans hL4) rfl ⟨v6,rfl,?_⟩
  rw[if_pos rfl];exact q6
 ·have m1:numOp .neq (.int .i64 p2) (.int .i64 0)=some (.bool true):=m_neqT hp
  refine yM ?_;refine yE ?_;refine yE ?_;refine yM ?_;refine yM ?_;refine y3 ?_;refine y4 ?_;refine yM ?_;refine wO_val (a_num (by exact rfl) (by exact rfl) (by with_reducible assumption)) ?_;refine y3 ?_;refine yY ?_;refine y4 ?_;refine yM ?_
  refine yM ?_;refine yM ?_;refine y3 ?_;refine wE_ret ?_;refine kS_r ?_
  exact endA_ret hL rfl (nilA p2 hp)
end Go.A.Pk
end
section
set_option maxRecDepth 100000
namespace Go.A.Pk
variable {T:Nat→Option AFunc}
theorem lv_int{k:IntKind}{a b:Int}{ls:List Leaf}{xs ys:List Value}{c:Bool}(h:leavesEq ls xs ys=some c):leavesEq (.i k::ls) (.int k a::xs) (.int k b::ys)=some (decide (a=b)&&c):=by
 have h0:leafEq (.i k) (.int k a) (.int k b)=some (a==b):=by simp[leafEq]
 by_cases hab:a=b
 ·subst hab
  simp only[leavesEq,h0,beq_self_eq_true,h];simp
 ·have:(a==b)=false:=by simpa using hab
  simp only[leavesEq,h0,this,h,decide_eq_false hab,Bool.false_and]
end Go.A.Pk
end
section
set_option maxRecDepth 100000
namespace Go.A.Pk
variable {T:Nat→Option AFunc}
open Classical in
noncomputable def pSd:List Value→Heap→Option (Value×Heap)
 |[],h=>if Tab h then some (.bool true,h)else none
 |_,_=>none
theorem puSd{h:Heap}(hf:T 21=some (.prim pSd))(hg:Tab h):Pu T 21 [] h (.bool true):=by
 refine⟨_,_,⟨1,fun n hn=> ?_⟩,rfl,rfl⟩
 obtain⟨k,rfl⟩:∃k,n=k+1:=⟨n-1,by omega⟩
 simp only[acall,hf,pSd,if_pos hg]
end Go.A.Pk
end
section
set_option maxRecDepth 100000
namespace Go.A.Pk
variable {T:Nat→Option AFunc}
def wL(w:List Nat×List Nat):List Value:=us w.1++us w.2
def wV(w:List Nat×List Nat):Value:= .agg (wL w).toArray
structure IsW (w:List Nat×List Nat):Prop where
 a:IsS w.1
 b:IsS w.2
theorem wL_length{w:List Nat×List Nat}(h:IsW w):(wL w).length=16:=by
 simp[wL,us_length,h.a.len,h.b.len]
theorem wL_a{w:List Nat×List Nat}(h:IsW w):ltake 8 (ldrop (0+0) (wL w))=us w.1:=by
 rw[ltake_eq,ldrop_eq,Nat.zero_add,List.drop_zero]
 show(us w.1++us w.2).take 8=_
 rw[List.take_append_of_le_length (by rw[us_length,h.a.len];omega),List.take_of_length_le (by rw[us_length,h.a.len];omega)]
theorem wL_b{w:List Nat×List Nat}(h:IsW w):ltake 8 (ldrop (0+8) (wL w))=us w.2:=by
 rw[ltake_eq,ldrop_eq,Nat.zero_add]
 show((us w.1++us w.2).drop 8).take 8=_
 rw[List.drop_append_of_le_length (by rw[us_length,h.a.len];omega),List.drop_of_length_le (by rw[us_length,h.a.len];omega),List.nil_append,List.take_of_length_le (by rw[us_length,h.b.len];omega)]
theorem wL_all{w:List Nat×List Nat}(h:IsW w):ltake 16 (ldrop 0 (wL w))=wL w:=by
 rw[ltake_eq,ldrop_eq,List.drop_zero,List.take_of_length_le (by rw[wL_length h];omega)]
theorem wL_llen{w:List Nat×List Nat}(h:IsW w):Nat.beq (llen (wL w)) 16=true:=by rw[llen_eq,wL_length h];rfl
theorem wL_ones(w:List Nat×List Nat):ones (wL w)=true:=ones_app (us_ones _) (us_ones _)
theorem wL_putA{w:List Nat×List Nat}{s:List Nat}(h:IsW w)(hs:IsS s):lputs (wL w) 0 (us s)=wL (s,w.2):=by
 rw[lputs_mid (by rw[wL_length h,us_length,hs.len];omega),us_length,hs.len,List.take_zero]
 show []++us s++(us w.1++us w.2).drop 8=us s++us w.2
 rw[List.drop_append_of_le_length (by rw[us_length,h.a.len];omega),List.drop_of_length_le (by rw[us_length,h.a.len];omega)];simp
theorem wL_putB{w:List Nat×List Nat}{s:List Nat}(h:IsW w)(hs:IsS s):lputs (wL w) 8 (us s)=wL (w.1,s):=by
 rw[lputs_mid (by rw[wL_length h,us_length,hs.len];omega),us_length,hs.len]
 show(us w.1++us w.2).take 8++us s++(us w.1++us w.2).drop 16=us w.1++us s
 rw[List.take_append_of_le_length (by rw[us_length,h.a.len];omega),List.take_of_length_le (by rw[us_length,h.a.len];omega),List.drop_of_length_le (by simp[us_length,h.a.len,h.b.len])];simp
def seeR(w:List Nat×List Nat)(r:Rd):List Nat×List Nat:=if r.kind=1 then(sJoin w.1 r.cells,w.2)else(w.1,sLess w.2 r.cells)
def seenW(bl:List Nat)(l:List Rd):List Nat×List Nat:=l.foldl seeR (s0,bl)
theorem seenW_step{bl:List Nat}{l:List Rd}{i:Nat}{r:Rd}(hi:l[i]? =some r):seenW bl (l.take (i+1))=seeR (seenW bl (l.take i)) r:=by
 obtain⟨hlt,rfl⟩:=List.getElem?_eq_some_iff.1 hi
 unfold seenW
 rw[List.take_succ_eq_append_getElem hlt,List.foldl_append];rfl
theorem IsW.see{w:List Nat×List Nat}(h:IsW w){r:Rd}(hr:IsR r):IsW (seeR w r):=by
 unfold seeR
 split
 ·exact⟨h.a.join hr.cells,h.b⟩
 ·exact⟨h.a,h.b.less hr.cells⟩
theorem seenW_ok{bl:List Nat}(hb:IsS bl):∀{l:List Rd},(∀r∈l,IsR r)→IsW (seenW bl l):=by
 intro l hl
 unfold seenW
 have:∀(l:List Rd) (w:List Nat×List Nat),IsW w→(∀r∈l,IsR r)→IsW (l.foldl seeR w):=by
  intro l
  induction l with
  |nil=>intro w hw _;exact hw
  |cons r l ih=>intro w hw hl;exact ih _ (hw.see (hl r List.mem_cons_self)) fun x hx=>hl x (List.mem_cons_of_mem _ hx)
 exact this l _ ⟨s0_ok,hb⟩ hl
theorem scal_usW:∀(pl:List Nat) (t:List Value),scalL t=true→scalL (us pl++t)=true
 |[],_,h=>h
 |x::pl,t,h=>scal_usW pl t h
theorem noRef_wV(w:List Nat×List Nat):noRef (wV w)=true:=by
 show flat (.agg (wL w).toArray)=true
 simp only[flat]
 exact scal_usW w.1 (us w.2) (us_scal _)
theorem fill_wb{h:Heap}{e:Env}{x:Operand}{s:List Nat}(hs:IsS s)(hx:ev h e x=some (sv s)):fillA h e (lrep 16 (.int .u64 0)) [(8,8,x)]=some (wL (s0,s)):=by
 have h0:wL (s0,s0)=lrep 16 (.int .u64 0):=rfl
 have e1:cellsOf (sv s)=us s:=by show(us s).toArray.toList=_;simp
 have e2:=wL_putB (w:=(s0,s0)) ⟨s0_ok,s0_ok⟩ hs
 rw[h0]at e2
 have e3:llen (us s)=8:=by rw[llen_eq,us_length,hs.len]
 simp only[fillA,hx,e1,e2,e3];rfl
structure FnsSn (T:Nat→Option AFunc):Prop where
 p:primAS T
 f122:T 122=some f122
 f124:T 124=some f124
 f174:T 174=some f174
set_option maxHeartbeats 4000000 in
theorem seen122(F:FnsSn T){h:Heap}(hr:Rdy h){bl:List Nat}(hb:IsS bl){a:Option Addr}{n c:Nat}{l:List Rd}(s:RdS h (.slice a n c) l)(hn:n<1000000):Pu T 122 [sv bl, .slice a n c] h (wV (seenW bl l)):=by
 refine .of F.p F.f122 hr (noRef_wV _) ?_
 obtain rfl:=s.len
 have k8:=us_llen hb.len
 have k9:ltake 8 (ldrop 0 (us bl))=us bl:=by rw[ltake_eq,ldrop_eq,List.drop_zero,List.take_of_length_le (by rw[us_length,hb.len];omega)]
 have g0:((h.push (.cells (cellsOf (sv bl)) true 1)).push (.cells (lrep 16 (.int .u64 0)) true 1)).get h.next=some (.cells (us bl) true 1):=(z4 (Nat.lt_succ_self _)).trans (z3 h _)
 have n0:h.next+2=((h.push (.cells (cellsOf (sv bl)) true 1)).push (.cells (lrep 16 (.int .u64 0)) true 1)).next:=rfl
 have ga0:((h.push (.cells (cellsOf (sv bl)) true 1)).push (.cells (lrep 16 (.int .u64 0)) true 1)).get (h.next+1)=some (.cells (lrep 16 (.int .u64 0)) true 1):=z3 _ _
 have x0:Ext h ((h.push (.cells (cellsOf (sv bl)) true 1)).push (.cells (lrep 16 (.int .u64 0)) true 1)):=((Ext.refl h).push _).push _
 refine y4 ?_;refine yB ?_;refine wO_val (a_new) ?_;refine y3 ?_
 generalize((h.push (.cells (cellsOf (sv bl)) true 1)).push (.cells (lrep 16 (.int .u64 0)) true 1))=H at*
 have hL:H.log=[]:=x0.log.trans hr.log
 have W:=x0.wf hr.wf
 have hw0:IsW (s0,bl):=⟨s0_ok,hb⟩
 have wl:=wL_length hw0
 have wo:=wL_ones (s0,bl)
 refine y4 ?_;refine wO_val (a_loadN (by exact rfl) (by assumption) (by assumption) (by assumption)) ?_
 refine wO_val (a_build (fill_wb hb (by exact rfl))) ?_
 refine wO_val (a_new) ?_;refine wO_val (a_storeAll (by exact rfl) (by exact rfl) (by(simp(disch:=first|omega|(simp only[z1,z2];omega))only[z3,z4,z5,z6,z7,z1,z2,g0,ga0];exact rfl)) (by assumption) (by exact rfl) (by exact us_ones _)) ?_;refine y3 ?_;refine wE_seq ?_;refine y4 ?_;refine yM ?_;refine yD ?_;refine yM ?_;refine y3 ?_;refine wE_block ?_
 refine wE_loop (fun m e ds h'=>∃i:Nat,i≤l.length∧m=l.length-i∧e=[(4, .pointer (some ⟨h.next+1,0,none⟩)),(5, .pointer (some ⟨h.next+2,0,none⟩)),(10, .slice a l.length c),(11, .int .i64 (l.length:Nat)),(12, .int .i64 (i:Nat))]∧ds=[]∧Ext h h'∧h.next+3≤h'.next∧(∃vs,h'.get (h.next+1)=some (.cells vs true 1)∧vs.length=16)∧h'.get (h.next+2)=some (.cells (wL (seenW bl (l.take i))) true 1))
  ⟨0,Nat.zero_le _,rfl,by rw[n0];rfl,rfl,?_,?_,?_,?_⟩ ?_
 ·exact⟨by show h.next≤H.next+1;omega,(Heap.log_wr_new (by omega)).trans x0.log,fun b hb=>by
   rw[z5 (by omega),z4 (by omega)];exact x0.old b hb,fun w=>((x0.wf w).push _).as (AS.wr h.next _ _ _)⟩
 ·show h.next+3≤H.next+1;omega
 ·exact⟨_,(z5 (by omega)).trans ((z4 (by omega)).trans ga0),rfl⟩
 ·rw[n0,z6,z3];rfl
 rintro m e ds H2 ⟨i,hin,rfl,rfl,rfl,x,hnx,⟨ws,ga,hws⟩,gw⟩
 have W2:=x.wf hr.wf
 have hL2:=x.log.trans hr.log
 have hnx2:=x.next
 by_cases hlt:i<l.length
 ·obtain⟨r,hri⟩:∃r,l[i]? =some r:=⟨l[i],List.getElem?_eq_getElem hlt⟩
  have hR:=s.ok r (List.mem_of_getElem? hri)
  obtain⟨b,o,vs,own,t,rfl,e1,e2,hbb,_⟩:=(s.ext x).elem hri
  have k1:=e2.all
  have k2:=rdL_llen hR
  have rl2:=rdL_length hR
  have ro:=rdL_ones r
  have ral:=rdL_all hR
  have rc:=rdL_cells hR
  have rk8:=us_llen hR.cells.len
  have hw:=seenW_ok hb (l:=l.take i) fun z hz=>s.ok z (List.mem_of_mem_take hz)
  have hwn:=seenW_step (bl:=bl) hri
  generalize seenW bl (l.take i)=w at*
  have wa:=wL_a hw
  have wb:=wL_b hw
  have wka:=us_llen hw.a.len
  have wkb:=us_llen hw.b.len
  have m1:numOp .eql (.int .u8 (r.kind:Nat)) (.int .u8 1)=_:=m_eqI (c:=1) rfl
  have x3:Ext h ((H2.push (.cells zR true 1)).wr h.next H2.next (.cells (rdL r) true 1)):=⟨by show h.next≤H2.next+1;omega,(Heap.log_wr_new (by omega)).trans x.log,fun b hb=>by
   rw[z5 (by omega),z4 (by omega)];exact x.old b hb,fun w=>((x.wf w).push _).as (AS.wr h.next _ _ _)⟩
  have gr3:((H2.push (.cells zR true 1)).wr h.next H2.next (.cells (rdL r) true 1)).get H2.next=some (.cells (rdL r) true 1):=by
   rw[z6,z3];rfl
  have ga3:((H2.push (.cells zR true 1)).wr h.next H2.next (.cells (rdL r) true 1)).get (h.next+1)=some (.cells ws true 1):=(z5 (by omega)).trans ((z4 (by omega)).trans ga)
  have gw3:((H2.push (.cells zR true 1)).wr h.next H2.next (.cells (rdL r) true 1)).get (h.next+2)=some (.cells (wL w) true 1):=(z5 (by omega)).trans ((z4 (by omega)).trans gw)
  have n3:((H2.push (.cells zR true 1)).wr h.next H2.next (.cells (rdL r) true 1)).next=H2.next+1:=rfl
  clear ga gw
  refine y4 ?_;refine yt ?_;refine y3 ?_;refine wE_seq ?_;refine yY ?_;refine wE_skip ?_;refine kS_n ?_;refine wE_seq ?_;refine wE_block ?_;refine y4 ?_;refine wO_val (a_iaddrS (by exact rfl) (by exact rfl) (by omega)) ?_;refine wO_val (a_loadN (by exact rfl) (by assumption) (by assumption) (by assumption)) ?_;refine wO_val (a_new) ?_
  refine wO_val (a_storeAll (by exact rfl) (by exact rfl) (by(simp(disch:=first|omega|(simp only[z1,z2];omega))only[z3,z4,z5,z6,z7,z1,z2,g0,ga0,e1,gr3,ga3,gw3];exact rfl)) (by assumption) (by exact rfl) (by assumption)) ?_;refine y3 ?_
  unfold zR at*
  generalize(((H2.push (.cells _ true 1)).wr h.next H2.next (.cells (rdL r) true 1)))=H3 at*
  have W3:=x3.wf hr.wf
  have hL3:=x3.log.trans hr.log
  have C1:=join174 F.p F.f174 (.of W3) hw.a hR.cells
  have C2:=less124 F.p F.f124 (.of W3) hw.b hR.cells
  unfold seeR at hwn
  cases hk:decide (r.kind=1)with
  |true=>
   rw[hk]at m1
   rw[if_pos (of_decide_eq_true hk)]at hwn
   have hs:=hw.a.join hR.cells
   have kc:(Nat.beq (llen (cellsOf (sv (sJoin w.1 r.cells)))) 8&&Nat.ble (0+8) (llen (wL w))&&ones (cellsOf (sv (sJoin w.1 r.cells))))=true:=by
    have e:cellsOf (sv (sJoin w.1 r.cells))=us (sJoin w.1 r.cells):=by show(us _).toArray.toList=_;simp
    rw[e,us_llen hs.len,us_ones,llen_eq,wL_length hw];rfl
   have kw:lputs (wL w) (0+0) (cellsOf (sv (sJoin w.1 r.cells)))=wL (sJoin w.1 r.cells,w.2):=by
    have e:cellsOf (sv (sJoin w.1 r.cells))=us (sJoin w.1 r.cells):=by show(us _).toArray.toList=_;simp
    rw[e];exact wL_putA hw hs
   refine y4 ?_;refine yF ?_;refine yL ?_;refine wO_val (a_num (by exact rfl) (by exact rfl) (by with_reducible assumption)) ?_;refine y3 ?_
   refine yY ?_;refine wE_region ?_;refine yF ?_;refine wO_val (a_loadN (by exact rfl) (by assumption) (by assumption) (by assumption)) ?_;refine yF ?_;refine wO_val (a_loadN (by exact rfl) (by assumption) (by assumption) (by assumption)) ?_
   refine yC ?_
   refine FW.pu C1 ?_
   refine yF ?_
   refine wO_val (a_store (by exact rfl) (by exact rfl) gw3 kc kw) ?_
   refine wO_nil ?_;refine y1 ?_;refine kB_n ?_;refine kS_n ?_;refine wE_region ?_;refine yinc ?_;refine yM ?_;refine y3 ?_
   refine⟨l.length-(i+1),by omega,i+1,by omega,rfl,rfl,rfl,⟨x3.next,(Heap.log_wr_new (by omega)).trans x3.log,fun b hb=>(z5 (by omega)).trans (x3.old b hb),fun w=>(x3.wf w).as (AS.wr h.next _ _ _)⟩,?_,⟨ws,(z5 (by omega)).trans ga3,hws⟩,?_⟩
   ·show h.next+3≤H3.next;omega
   ·rw[z6,gw3,hwn];rfl
  |false=>
   rw[hk]at m1
   rw[if_neg (of_decide_eq_false hk)]at hwn
   have hs:=hw.b.less hR.cells
   have kc:(Nat.beq (llen (cellsOf (sv (sLess w.2 r.cells)))) 8&&Nat.ble (0+8+8) (llen (wL w))&&ones (cellsOf (sv (sLess w.2 r.cells))))=true:=by
    have e:cellsOf (sv (sLess w.2 r.cells))=us (sLess w.2 r.cells):=by show(us _).toArray.toList=_;simp
    rw[e,us_llen hs.len,us_ones,llen_eq,wL_length hw];rfl
   have kw:lputs (wL w) (0+8) (cellsOf (sv (sLess w.2 r.cells)))=wL (w.1,sLess w.2 r.cells):=by
    have e:cellsOf (sv (sLess w.2 r.cells))=us (sLess w.2 r.cells):=by show(us _).toArray.toList=_;simp
    rw[e,Nat.zero_add];exact wL_putB hw hs
   refine y4 ?_;refine yF ?_;refine yL ?_;refine wO_val (a_num (by exact rfl) (by exact rfl) (by with_reducible assumption)) ?_;refine y3 ?_
   refine yX ?_;refine wE_region ?_;refine yF ?_;refine wO_val (a_loadN (by exact rfl) (by assumption) (by assumption) (by assumption)) ?_;refine yF ?_;refine wO_val (a_loadN (by exact rfl) (by assumption) (by assumption) (by assumption)) ?_
   refine yC ?_
   refine FW.pu C2 ?_
   refine yF ?_
   refine wO_val (a_store (by exact rfl) (by exact rfl) gw3 kc kw) ?_
   refine wO_nil ?_;refine y1 ?_;refine kB_n ?_;refine kS_n ?_;refine wE_region ?_;refine yinc ?_;refine yM ?_;refine y3 ?_
   refine⟨l.length-(i+1),by omega,i+1,by omega,rfl,rfl,rfl,⟨x3.next,(Heap.log_wr_new (by omega)).trans x3.log,fun b hb=>(z5 (by omega)).trans (x3.old b hb),fun w=>(x3.wf w).as (AS.wr h.next _ _ _)⟩,?_,⟨ws,(z5 (by omega)).trans ga3,hws⟩,?_⟩
   ·show h.next+3≤H3.next;omega
   ·rw[z6,gw3,hwn];rfl
 ·obtain rfl:i=l.length:=by omega
  rw[List.take_length]at gw
  have hw:=seenW_ok hb s.ok
  generalize seenW bl l=w at*
  have wk:=wL_all hw
  have wk2:=wL_llen hw
  have wl1:=wL_length hw
  have wo1:=wL_ones w
  refine y4 ?_;refine yf ?_;refine y3 ?_;refine wE_seq ?_;refine yX ?_;refine wE_exit ?_;refine kS_e ?_;refine kS_e ?_;refine kB_e ?_;refine kS_n ?_
  refine y4 ?_;refine wO_val (a_loadN (by exact rfl) (by assumption) (by assumption) (by assumption)) ?_;refine wO_val (a_storeAll (by exact rfl) (by exact rfl) (by assumption) (by assumption) (by assumption) (by assumption)) ?_;refine y3 ?_
  refine wE_ret ?_
  refine endP_ret ?_ (res_cells (own:=true) (s:=1) rfl ?_ wk wk2 rfl) rfl
  ·rw[Heap.log_wr_new (by omega)];exact hL2
  ·(simp(disch:=first|omega|(simp only[z1,z2];omega))only[z3,z4,z5,z6,z7,z1,z2,g0,ga0,ga,gw];done)
structure FnsKn (T:Nat→Option AFunc):Prop where
 p:primAS T
 f136:T 136=some f136
 f118:T 118=some f118
 f140:T 140=some f140
 f169:T 169=some f169
end Go.A.Pk
end
section
set_option maxRecDepth 100000
namespace Go.A.Pk
variable {T:Nat→Option AFunc}
def w0:List Nat×List Nat:=(s0,s0)
theorem w0_ok:IsW w0:=⟨s0_ok,s0_ok⟩
def knoR(bl:List Nat)(l:List Rd)(day:Int):(List Nat×List Nat)×Int:=
 if(chkR refR l).2≠0 then(w0,(chkR refR l).2)else if sIn (seenW bl (cntR day l)).1 (seenW bl (cntR day l)).2 then(seenW bl (cntR day l),0)else(w0,80)
def knoV(p:(List Nat×List Nat)×Int):Value:= .tuple #[wV p.1, .int .i64 p.2]
theorem noRef_knoV(p:(List Nat×List Nat)×Int):noRef (knoV p)=true:=by
 have h1:flat (wV p.1)=true:=noRef_wV p.1
 show flatL [wV p.1, .int .i64 p.2]=true
 simp only[flatL,h1,cond_true];rfl
structure FnsK7 (T:Nat→Option AFunc):Prop where
 fo:FnsFo T
 rf:FnsRf T
 sn:FnsSn T
 kn:FnsKn T
 f35:T 35=some f35
 f37:T 37=some f37
 f40:T 40=some f40
 f41:T 41=some f41
 f44:T 44=some f44
 f52:T 52=some f52
 f73:T 73=some f73
 f121:T 121=some f121
 f131:T 131=some f131
 f132:T 132=some f132
 f133:T 133=some f133
 f134:T 134=some f134
set_option maxHeartbeats 4000000 in
theorem known37(F:FnsK7 T){h:Heap}(hr:Rdy h){bl:List Nat}(hb:IsS bl){a:Option Addr}{n c:Nat}{l:List Rd}(s:RdS h (.slice a n c) l)(hn:n<1000000)(day:Int):Pu T 37 [sv bl, .slice a n c, .int .i64 day] h (knoV (knoR bl l day)):=by
 refine .of F.sn.p F.f37 hr (noRef_knoV _) ?_
 obtain rfl:=s.len
 have k8:=us_llen hb.len
 have k9:ltake 8 (ldrop 0 (us bl))=us bl:=by rw[ltake_eq,ldrop_eq,List.drop_zero,List.take_of_length_le (by rw[us_length,hb.len];omega)]
 have g0:((h.push (.cells (cellsOf (sv bl)) true 1)).push (.cells (lrep 16 (.int .u64 0)) true 1)).get h.next=some (.cells (us bl) true 1):=(z4 (Nat.lt_succ_self _)).trans (z3 h _)
 have n0:h.next+2=((h.push (.cells (cellsOf (sv bl)) true 1)).push (.cells (lrep 16 (.int .u64 0)) true 1)).next:=rfl
 have ga0:((h.push (.cells (cellsOf (sv bl)) true 1)).push (.cells (lrep 16 (.int .u64 0)) true 1)).get (h.next+1)=some (.cells (lrep 16 (.int .u64 0)) true 1):=z3 _ _
 have x0:Ext h ((h.push (.cells (cellsOf (sv bl)) true 1)).push (.cells (lrep 16 (.int .u64 0)) true 1)):=((Ext.refl h).push _).push _
 refine y4 ?_;refine yB ?_;refine wO_val (a_new) ?_;refine yM ?_;refine y3 ?_;refine y4 ?_;refine yM ?_
 refine yM ?_
 generalize((h.push (.cells (cellsOf (sv bl)) true 1)).push (.cells (lrep 16 (.int .u64 0)) true 1))=H at*
 have hL:H.log=[]:=x0.log.trans hr.log
 have W:=x0.wf hr.wf
 have K:=counting44 F.fo F.f40 F.f131 F.f132 F.f133 F.f134 F.f44 (.of W) ((s.ext x0).log []) hn day
 rw[chkR_law,cnt_law]at K
 have hlen:(cntR day l).length<1000000:=Nat.lt_of_le_of_lt (List.length_filter_le ..) hn
 have hwf:=wL_length w0_ok
 have hwo:=wL_ones w0
 have hwk:=wL_all w0_ok
 have hwl:=wL_llen w0_ok
 unfold knoR
 generalize(chkR refR l).2=e0 at*
 skip
 refine yC ?_
 refine FW.al K (fun v h' m q=>by obtain⟨x,q1,q2⟩:=q;exact⟨x,q1,q2.log m⟩) ?_
 rintro _ H1 x1 ⟨v1,rfl,s1⟩
 clear K
 have W1:=x1.wf W
 have hL1:=x1.log.trans hL
 have ga1:=(x1.old _ (by omega)).trans ga0
 have g1:=(x1.old _ (by omega)).trans g0
 have n1:=x1.next
 clear g0 ga0
 by_cases he:e0=0
 ·subst he
  rw[if_pos rfl]at s1
  rw[if_neg (fun q=>q rfl)]
  obtain⟨a1,c1,rfl⟩:=s1.sl.form
  have C1:=seen122 F.sn (.of W1) hb (s1.log []) hlen
  have hw:=seenW_ok hb s1.ok
  generalize cntR day l=l1 at*
  generalize seenW bl l1=w at*
  have wl:=wL_length hw
  have wo:=wL_ones w
  have wa:=wL_a hw
  have wb:=wL_b hw
  have wk:=wL_all hw
  have wkl:=wL_llen hw
  have wka:=us_llen hw.a.len
  have wkb:=us_llen hw.b.len
  refine yM ?_;refine yE ?_;refine yE ?_;refine yM ?_;refine yM ?_;refine y3 ?_;refine wE_seq ?_
  refine y4 ?_;refine yM ?_;refine yf ?_;refine y3 ?_;refine yX ?_;refine wE_skip ?_;refine kS_n ?_;refine y4 ?_;refine wO_val (a_loadN (by exact rfl) (by assumption) (by assumption) (by assumption)) ?_;refine yM ?_
  refine yC ?_
  refine FW.pu C1 ?_
  clear C1
  have x3:Ext h ((H1.push (.cells (lrep 16 (.int .u64 0)) true 1)).wr h.next H1.next (.cells (wL w) true 1)):=(x0.trans x1).trans ⟨Nat.le_succ _,Heap.log_wr_new (by omega),fun b hb=>by
   rw[z5 (by omega),z4 (by omega)],fun w=>(w.push _).as (AS.wr h.next _ _ _)⟩
  have gq:((H1.push (.cells (lrep 16 (.int .u64 0)) true 1)).wr h.next H1.next (.cells (wL w) true 1)).get H1.next=some (.cells (wL w) true 1):=by rw[z6,z3];rfl
  have ga2:((H1.push (.cells (lrep 16 (.int .u64 0)) true 1)).wr h.next H1.next (.cells (wL w) true 1)).get (h.next+1)=some (.cells (lrep 16 (.int .u64 0)) true 1):=(z5 (by omega)).trans ((z4 (by omega)).trans ga1)
  have nq:H1.next<((H1.push (.cells (lrep 16 (.int .u64 0)) true 1)).wr h.next H1.next (.cells (wL w) true 1)).next:=Nat.lt_succ_self _
  refine wO_val (a_new) ?_;refine wO_val (a_storeAll (by exact rfl) (by exact rfl) (by(simp(disch:=first|omega|(simp only[z1,z2];omega))only[z3,z4,z5,z6,z7,z1,z2,ga1,g1,gq,ga2];exact rfl)) (by assumption) (by assumption) (by assumption)) ?_;refine y3 ?_
  generalize((H1.push (.cells (lrep 16 (.int .u64 0)) true 1)).wr h.next H1.next (.cells (wL w) true 1))=H2 at*
  have W2:=x3.wf hr.wf
  have hL2:=x3.log.trans hr.log
  have C2:=in35 F.sn.p F.f35 F.f121 (.of W2) hw.a hw.b
  refine wE_seq ?_;refine y4 ?_;refine yF ?_;refine wO_val (a_loadN (by exact rfl) (by assumption) (by assumption) (by assumption)) ?_;refine yF ?_;refine wO_val (a_loadN (by exact rfl) (by assumption) (by assumption) (by assumption)) ?_
  refine yC ?_
  refine FW.pu C2 ?_
  cases sIn w.1 w.2 with
  |true=>
   rw[if_pos rfl]
   refine yA ?_;refine y3 ?_;refine yX ?_;refine wE_skip ?_;refine kS_n ?_;refine y4 ?_;refine wO_val (a_loadN (by exact rfl) (by assumption) (by assumption) (by assumption)) ?_
   refine wO_val (a_storeAll (by exact rfl) (by exact rfl) (by assumption) (by assumption) (by assumption) (by assumption)) ?_;refine yM ?_;refine y3 ?_;refine wE_ret ?_
   refine endP_ret ?_ (res_cells (own:=true) (s:=1) rfl ?_ wk wkl rfl) rfl
   ·rw[Heap.log_wr_new (by first|omega|exact Nat.le_succ _)];exact hL2
   ·(simp(disch:=first|omega|(simp only[z1,z2];omega))only[z3,z4,z5,z6,z7,z1,z2,ga1,g1,gq,ga2];done)
  |false=>
   rw[if_neg (by simp)]
   refine yA ?_;refine y3 ?_;refine yY ?_;refine y4 ?_;refine wO_val (a_build (by exact rfl)) ?_;refine yS ?_
   refine yM ?_;refine y3 ?_;refine wE_ret ?_;refine kS_r ?_
   refine endP_ret ?_ (res_cells (own:=true) (s:=1) rfl ?_ hwk hwl rfl) rfl
   ·rw[Heap.log_wr_new (by first|omega|exact Nat.le_succ _)];exact hL2
   ·(simp(disch:=first|omega|(simp only[z1,z2];omega))only[z3,z4,z5,z6,z7,z1,z2,ga1,g1,gq,ga2];exact rfl)
 ·rw[if_pos he]
  have m1:numOp .neq (.int .i64 e0) (.int .i64 0)=some (.bool true):=m_neqT he
  refine yM ?_;refine yE ?_;refine yE ?_;refine yM ?_;refine yM ?_;refine y3 ?_;refine wE_seq ?_
  refine y4 ?_;refine yM ?_;refine wO_val (a_num (by exact rfl) (by exact rfl) (by with_reducible assumption)) ?_;refine y3 ?_;refine yY ?_;refine y4 ?_
  refine wO_val (a_build (by exact rfl)) ?_;refine yM ?_;refine yS ?_;refine yM ?_;refine y3 ?_;refine wE_ret ?_;refine kS_r ?_
  refine endP_ret ?_ (res_cells (own:=true) (s:=1) rfl ?_ hwk hwl rfl) rfl
  ·rw[Heap.log_wr_new (by first|omega|exact Nat.le_succ _)];exact hL1
  ·(simp(disch:=first|omega|(simp only[z1,z2];omega))only[z3,z4,z5,z6,z7,z1,z2,ga1,g1];exact rfl)
end Go.A.Pk
end
section
set_option maxRecDepth 100000
namespace Go.A.Pk
variable {T:Nat→Option AFunc}
theorem chkF_snoc{F:List Rd→Rd→Int}{l:List Rd}{x:Rd}(hx:F l x=0):∀m i,i+m=l.length→(chkF F l m i).2=0→(chkF F (l++[x]) (m+1) i).2=0
 |0,i,hi,_=>by
  have e1:(l++[x])[i]? =some x:=by rw[List.getElem?_append_right (by omega)];simp[show i-l.length=0 by omega]
  have e2:(l++[x]).take i=l:=by rw[List.take_append_of_le_length (by omega),List.take_of_length_le (by omega)]
  simp only[chkF,e1,e2,hx]
  rw[if_neg (by simp)]
 |m+1,i,hi,h=>by
  have hlt:i<l.length:=by omega
  have e1:(l++[x])[i]? =some l[i]:=by rw[List.getElem?_append_left hlt,List.getElem?_eq_getElem hlt]
  have e2:(l++[x]).take i=l.take i:=List.take_append_of_le_length (by omega)
  have e3:l[i]? =some l[i]:=List.getElem?_eq_getElem hlt
  rw[chkF]at h⊢
  rw[e3]at h
  rw[e1,e2]
  dsimp only at h⊢
  by_cases hz:F (l.take i) l[i]=0
  ·rw[if_neg (fun q=>q hz)]at h⊢
   exact chkF_snoc hx m (i+1) (by omega) h
  ·rw[if_pos hz]at h
   exact(hz h).elim
theorem appE_zero{l:List Rd}{x:Rd}(h:appE refR l x=0):(chkR refR l).2=0∧(chkR refR (l++[x])).2=0:=by
 unfold appE at h
 by_cases hc:(chkR refR l).2=0
 ·rw[if_neg (fun q=>q hc)]at h
  refine⟨hc,?_⟩
  have:=chkF_snoc h l.length 0 (by omega) hc
  unfold chkR
  rw[List.length_append,List.length_singleton]
  exact this
 ·rw[if_pos hc]at h
  exact(hc h).elim
theorem ext_pw{h:Heap}{base:Nat}(hb:base≤h.next)(o o':AObj):Ext h ((h.push o).wr base h.next o'):=⟨Nat.le_succ _,Heap.log_wr_new hb,fun b hb=>by
 rw[z5 (by omega),z4 hb],fun w=>(w.push _).as (AS.wr base _ _ _)⟩
theorem get_pw{h:Heap}{base:Nat}(vs ws:List Value):((h.push (.cells vs true 1)).wr base h.next (.cells ws true 1)).get h.next=some (.cells ws true 1):=by rw[z6,z3];rfl
end Go.A.Pk
end
