/- The runs of the machine are sound. -/
import Derived.Test.YtalmahakphchfaaGreatDoorNB
import Derived.RangeFuncLeaves
import Derived.RangeFuncCalls
import Derived.RecoverIn
import Derived.LoopNIn
import Derived.Scope
import Derived.OrdersIn
import Derived.Maps.RangeRun
set_option linter.all false
section
namespace Go.A
variable {P:Program} {μ:Mu} {h:Heap} {w:World} {e:Env} {a:Act} {base:Nat}
def kindOk(ao:AOp):cN->Prop
 | .val _ _=>True
 | .call _ _ _=>∃f as,ao= .call f as
 | .jv _ _=>∃f as,ao= .jv f as
 | .panic _ _=>∃x,ao= .sg x
 | .recover=>ao= .recover
theorem jO{ao:AOp}{x:Option (Value×Heap)}{out:cN}(h1:gV x=some out):kindOk ao out:=by
 cases x with
 |none=>cases h1
 |some p=>cases h1;trivial
theorem kH{ao:AOp}{out:cN}(h1:aop h base e ao=some out):kindOk ao out:=by
 cases ao;case call f as=>
  cases out<;>first|trivial|exact⟨_,_,rfl⟩|skip
  all_goals
   simp only[aop]at h1;split at h1
   ·unfold nO at h1;repeat' split at h1
    all_goals cases h1
   ·cases h1
 case jv f as=>
  cases out<;>first|trivial|exact⟨_,_,rfl⟩|skip
  all_goals
   simp only[aop]at h1;repeat' split at h1
   all_goals cases h1
 case sg x=>
  cases out<;>first|trivial|exact⟨_,rfl⟩|skip
  all_goals
   obtain⟨v,_,h2⟩:=an h1;split at h2<;>cases h2
 case recover=>cases h1;rfl
 case mov=>obtain⟨v,_,h2⟩:=an h1;cases h2;trivial
 case box=>obtain⟨v,_,h2⟩:=an h1;cases h2;trivial
 case ia=>obtain⟨v,_,h2⟩:=an h1;cases h2;trivial
 case un=>obtain⟨v,_,h2⟩:=an h1;obtain⟨v,_,h2⟩:=an h2;cases h2;trivial
 case load=>obtain⟨v,_,h2⟩:=an h1;obtain⟨v,_,h2⟩:=an h2;cases h2;trivial
 case conv=>obtain⟨v,_,h2⟩:=an h1;exact jO h2
 case store=>
  obtain⟨v,_,h2⟩:=an h1;obtain⟨v,_,h2⟩:=an h2;split at h2<;>cases h2;trivial
 case bC=>
  obtain⟨v,_,h2⟩:=an h1;split at h2<;>cases h2;trivial
 case bin op x y=>
  cases op;case num=>
   obtain⟨v,_,h2⟩:=an h1;obtain⟨v,_,h2⟩:=an h2;obtain⟨v,_,h2⟩:=an h2;cases h2;trivial
  case beq=>simp only[aop]at h1;split at h1<;>cases h1;trivial
  case nil=>
   obtain⟨v,_,h2⟩:=an h1;obtain⟨v,_,h2⟩:=an h2;split at h2<;>cases h2;trivial
  case agg=>
   obtain⟨v,_,h2⟩:=an h1;obtain⟨v,_,h2⟩:=an h2;split at h2
   ·split at h2<;>cases h2;trivial
   ·cases h2
 case pick=>
  simp only[aop]at h1;split at h1
  ·obtain⟨v,_,h2⟩:=an h1;cases h2;trivial
  ·obtain⟨v,_,h2⟩:=an h1;cases h2;trivial
  ·cases h1
 case slice k x lo hi mx=>
  cases k<;>cases mx<;>simp only[aop]at h1
  ·repeat' split at h1
   all_goals first|(cases h1;done)|skip
   simp only[cond_eq_ite,Option.ite_none_right_eq_some]at h1;obtain⟨_,h1⟩:=h1;cases h1;trivial
  ·cases h1
  all_goals
   split at h1
   ·exact jO h1
   ·cases h1
 case len k x=>
  match k with
  |0=>simp only[aop]at h1;split at h1<;>cases h1;trivial
  |1=>simp only[aop]at h1;split at h1<;>cases h1;trivial
  |k+2=>
   simp only[aop]at h1;split at h1
   ·cases h1;trivial
   ·split at h1<;>cases h1;trivial
   ·cases h1
 case append=>
  simp only[aop]at h1;split at h1
  ·split at h1
   ·exact jO h1
   ·cases h1
  ·cases h1
 case jG=>
  simp only[aop]at h1;split at h1
  ·split at h1
   ·simp only[cond_eq_ite,Option.ite_none_right_eq_some]at h1;exact jO h1.2
   ·cases h1
  ·cases h1
 case next x s=>
  cases s
  ·cases h1
  ·simp only[aop]at h1;repeat' split at h1
   all_goals first|(cases h1;done)|skip
   simp only[cond_eq_ite]at h1;split at h1<;>cases h1<;>trivial
 case bI=>simp only[aop]at h1;repeat' split at h1
          all_goals first|(cases h1;done)|(simp only[cond_eq_ite,Option.ite_none_right_eq_some]at h1;obtain⟨_,h1⟩:=h1;cases h1;trivial)
 case aH=>simp only[aop]at h1;repeat' split at h1
          all_goals first|(cases h1;done)|(simp only[cond_eq_ite,Option.ite_none_right_eq_some]at h1;obtain⟨_,h1⟩:=h1;cases h1;trivial)
 case jA=>cases h1;trivial
 case new=>cases h1;trivial
 case mkMap=>cases h1;trivial
 all_goals
  revert h1;simp only[aop,cond_eq_ite];intro h1;repeat' split at h1
  all_goals first
   |(cases h1;done)
   |(cases h1;trivial)
   |(obtain⟨v,_,h2⟩:=an h1;cases h2;trivial)
   |(exact jO h1)
theorem Oj(hR:R P μ h w)(hE:cm μ e a.tmps){o:Oper}{ao:AOp}{c:Call}(hop:o.op= .call c)(hc:fT P o.op=some ao){v:Value}{h':Heap}(h1:aop h base e ao=some (.val v h')):
 Ran P μ h w base ((execOp a.eval o).run P w) v h':=by
 unfold fT at hc;split at hc
 ·rename_i hall;rw[hop]at hc hall;dsimp only at hc;cases hcal:c.callee with
  |value f=>
   rw[hcal]at hc;cases hc;simp only[aop]at h1;split at h1
   ·unfold nO at h1;repeat' split at h1
    all_goals cases h1
   ·cases h1
  |invoke r nm=>rw[hcal]at hc;cases hc
  |builtin b=>
   rw[hcal]at hc;dsimp only at hc;have hargs:c.args.toList.all (aC P)=true:=by
    simp only[Op.operands,Call.operands,hcal,Array.toList_append,List.all_append,Bool.and_eq_true]at hall;exact hall.2
   have ex:∃cs,(execOp a.eval o).run P w=(builtin b c.argTypes o.type cs (c.args.map a.eval)).run P w:=⟨_,by
    simp[execOp,hop,resolve,hcal,invoke];rfl⟩
   obtain⟨cs,ex⟩:=ex;rw[ex];have a1:∀{x:Operand},c.args.toList=[x]->(c.args.map a.eval)[0]? =some (a.eval x)/\aC P x=true:=λ{x} hx=>by
    rw[hx]at hargs;refine⟨?_,by simpa using hargs⟩;rw[←Array.getElem?_toList,Array.toList_map,hx];rfl
   have a2:∀{x y:Operand},c.args.toList=[x,y]->(c.args.map a.eval)[0]? =some (a.eval x)/\(c.args.map a.eval)[1]? =some (a.eval y)/\aC P x=true/\aC P y=true:=λ{x y} hx=>by
    rw[hx]at hargs;refine⟨?_,?_,by simpa using hargs⟩
    ·rw[←Array.getElem?_toList,Array.toList_map,hx];rfl
    ·rw[←Array.getElem?_toList,Array.toList_map,hx];rfl
   have t1:∀{x:TypeId},c.argTypes.toList=[x]->c.argTypes[0]? =some x:=λ{x} hx=>by rw[←Array.getElem?_toList,hx];rfl
   have t2:∀{x y:TypeId},c.argTypes.toList=[x,y]->c.argTypes[0]? =some x/\c.argTypes[1]? =some y:=λ{x y} hx=>by
    rw[←Array.getElem?_toList,←Array.getElem?_toList,hx];exact⟨rfl,rfl⟩
   split at hc
   ·rename_i t x ht hx;have:=t1 ht;have:=a1 hx;split at hc
    ·cases hc;exact cO (BY (ts:=c.argTypes) (ty:=o.type) (xs:=c.args.map a.eval) hR hE (t1 ht) (a1 hx).1 (.inl ⟨rfl,by assumption⟩) (a1 hx).2 h1) (by simp[builtin])
    ·cases hc;exact cO (BY (ts:=c.argTypes) (ty:=o.type) (xs:=c.args.map a.eval) hR hE (t1 ht) (a1 hx).1 (.inr (.inl ⟨rfl,_,by assumption⟩)) (a1 hx).2 h1) (by simp[builtin])
    ·cases hc;exact cO (BY (ts:=c.argTypes) (ty:=o.type) (xs:=c.args.map a.eval) hR hE (t1 ht) (a1 hx).1 (.inr (.inr ⟨rfl,_,_,by assumption⟩)) (a1 hx).2 h1) (by simp[builtin])
    ·cases hc;exact cO (wv (ts:=c.argTypes) (ty:=o.type) (xs:=c.args.map a.eval) hR (t1 ht) (a1 hx).1 (.inl ⟨_,by assumption⟩) h1) (by simp[builtin])
    ·split at hc
     ·cases hc;exact cO (wv (ts:=c.argTypes) (ty:=o.type) (xs:=c.args.map a.eval) hR (t1 ht) (a1 hx).1 (.inr ⟨_,_,by assumption,by assumption⟩) h1) (by simp[builtin])
     ·cases hc
    ·cases hc
   ·rename_i t x ht hx;split at hc
    ·cases hc;exact cO (Og (ts:=c.argTypes) (ty:=o.type) (xs:=c.args.map a.eval) hR hE (t1 ht) (a1 hx).1 (by assumption) (a1 hx).2 h1) (by simp[builtin])
    ·cases hc
   ·rename_i st xt s x ht hx;split at hc
    ·split at hc
     ·rename_i z b n hz hb hn;split at hc
      ·rename_i hcc;cases hc;exact cO (BV (ts:=c.argTypes) (ty:=o.type) (xs:=c.args.map a.eval) hR hE (t2 ht).1 (t2 ht).2 (a2 hx).1 (a2 hx).2.1 (by assumption) (by assumption) hn hb hz hcc.2.2.2 hcc.1 hcc.2.1 hcc.2.2.1 (a2 hx).2.2.1 (a2 hx).2.2.2 h1) (by simp[builtin])
      ·cases hc
     ·cases hc
    ·rename_i el xd hni hst hxt;split at hc
     ·rename_i n b z hn hb hz;split at hc
      ·rename_i hcc;cases hc;exact cO (ED (ts:=c.argTypes) (ty:=o.type) (xs:=c.args.map a.eval) hR hE (t2 ht).1 (t2 ht).2 (a2 hx).1 (a2 hx).2.1 (by assumption) (by assumption) (λk hk=>hni k hk) hn hb hz hcc.1 hcc.2.1 hcc.2.2.1 (a2 hx).2.2.1 (a2 hx).2.2.2 h1) (by simp[builtin])
      ·cases hc
     ·cases hc
    ·cases hc
   ·rename_i dt xt d s ht hx;split at hc
    ·obtain⟨n,hn,rfl⟩:=ec hc;exact cO (KZ (ts:=c.argTypes) (ty:=o.type) (xs:=c.args.map a.eval) hR hE (t2 ht).1 (a2 hx).1 (a2 hx).2.1 (by assumption) hn (a2 hx).2.2.1 (a2 hx).2.2.2 h1) (by simp[builtin])
    ·cases hc
   ·split at hc
    ·rename_i h2;cases hc;exact cO (wz (ts:=c.argTypes) (ty:=o.type) (mx:=true) hR hE hargs h2 h1) (by simp[builtin])
    ·cases hc
   ·split at hc
    ·rename_i h2;cases hc;exact cO (wz (ts:=c.argTypes) (ty:=o.type) (mx:=false) hR hE hargs h2 h1) (by simp[builtin])
    ·cases hc
   ·rename_i mt xt m k ht hx;split at hc
    ·split at hc
     ·rename_i hl;cases hc;exact cO (EF (ts:=c.argTypes) (ty:=o.type) (xs:=c.args.map a.eval) hR hE (t2 ht).1 (a2 hx).1 (a2 hx).2.1 (by assumption) hl (a2 hx).2.2.1 (a2 hx).2.2.2 h1) (by simp[builtin])
     ·cases hc
    ·cases hc
   ·rename_i t x ht hx;split at hc
    ·split at hc
     ·rename_i z hz;split at hc
      ·rename_i hs;cases hc;exact cO (Io (ts:=c.argTypes) (ty:=o.type) (xs:=c.args.map a.eval) hR hE (t1 ht) (a1 hx).1 (by assumption) hz hs (a1 hx).2 h1) (by simp[builtin])
      ·cases hc
     ·cases hc
    ·cases hc
   ·cases hc;cases h1
   ·cases hc
 ·cases hc
theorem Du(hR:R P μ h w)(hE:cm μ e a.tmps){o:Oper}{ao:AOp}(hc:fT P o.op=some ao){v:Value}{h':Heap}(h1:aop h base e ao=some (.val v h')):
 Ran P μ h w base ((execOp a.eval o).run P w) v h':=by
 by_cases hq:∃c,o.op= .call c
 ·obtain⟨c,hq⟩:=hq;exact Oj hR hE hq hc h1
 ·exact Oi hR hE hc h1 λc hc'=>hq ⟨c,hc'⟩
theorem iY{op:Op}{ao:AOp}(hc:fT P op=some ao):
 (∀f as,ao= .call f as->∃c,op= .call c/\c.callee= .value f/\c.args.toList=as/\aC P f=true/\as.all (aC P)=true)∧
 (∀f as,ao= .jv f as->∃c,op= .defer c/\c.callee= .value f/\c.args.toList=as/\aC P f=true/\as.all (aC P)=true)∧
 (∀x,ao= .sg x->op= .panic x/\aC P x=true)/\(ao= .recover->∃c,op= .call c/\c.callee= .builtin .recover):=by
 unfold fT at hc;split at hc
 ·rename_i hall;have cl:∀(c:Call) (f:Operand),c.callee= .value f->c.operands.toList.all (aC P)=true->aC P f=true/\c.args.toList.all (aC P)=true:=λc f hf hh=>by
   simp only[Call.operands,hf,Array.toList_append,List.all_append,Bool.and_eq_true]at hh;exact⟨by simpa using hh.1,hh.2⟩
  cases op<;>(try dsimp only at hc)
  case call c=>
   split at hc
   ·rename_i f hf;cases hc;obtain⟨q1,q2⟩:=cl c f hf hall;refine⟨λf' as h=> ?_,λf' as h=>(by cases h),λx h=>(by cases h),λh=>(by cases h)⟩;cases h;exact⟨c,rfl,hf,rfl,q1,q2⟩
   ·cases hc
   ·rename_i b hb;repeat' split at hc
    all_goals first
     |(cases hc;done)
     |(cases hc;exact⟨λ_ _ h=>(by cases h),λ_ _ h=>(by cases h),λ_ h=>(by cases h),λ_=>⟨c,rfl,hb⟩⟩)
     |(cases hc;exact⟨λ_ _ h=>(by cases h),λ_ _ h=>(by cases h),λ_ h=>(by cases h),λh=>(by cases h)⟩)
     |(obtain⟨_,_,rfl⟩:=ec hc;exact⟨λ_ _ h=>(by cases h),λ_ _ h=>(by cases h),λ_ h=>(by cases h),λh=>(by cases h)⟩)
  case defer c=>
   split at hc
   ·rename_i f hf;cases hc;obtain⟨q1,q2⟩:=cl c f hf hall;refine⟨λf' as h=>(by cases h),λf' as h=> ?_,λx h=>(by cases h),λh=>(by cases h)⟩;cases h;exact⟨c,rfl,hf,rfl,q1,q2⟩
   ·cases hc
  case panic x=>
   cases hc;refine⟨λf' as h=>(by cases h),λf' as h=>(by cases h),λx h=> ?_,λh=>(by cases h)⟩;cases h;exact⟨rfl,by simpa[Op.operands]using hall⟩
  all_goals
   repeat' split at hc
   all_goals first
    |contradiction
    |(cases hc;done)
    |(cases hc;exact⟨λ_ _ h=>(by cases h),λ_ _ h=>(by cases h),λ_ h=>(by cases h),λh=>(by cases h)⟩)
    |(obtain⟨_,_,rfl⟩:=ec hc;exact⟨λ_ _ h=>(by cases h),λ_ _ h=>(by cases h),λ_ h=>(by cases h),λh=>(by cases h)⟩)
 ·cases hc
theorem yz(hR:R P μ h w)(hE:cm μ e a.tmps){o:Oper}{ao:AOp}(hc:fT P o.op=some ao){fn:Fn}{args:List Value}{h':Heap}(h1:aop h base e ao=some (.call fn args h')):
 h'=h/\(∀c,o.op≠ .defer c)/\∃args',LR μ args args'∧((∃g,fn= .func g/\(execOp a.eval o).run P w=(callFunc g args'.toArray).run P w)∨
  (∃l k,fn= .yield l/\μ l=some k/\(execOp a.eval o).run P w=(Instr.yield k.r args'.toArray).run P w)):=by
 obtain⟨f,as,rfl⟩:=kH h1;obtain⟨c,hop,hcal,rfl,hf,has⟩:=(iY hc).1 f as rfl;simp only[aop]at h1;split at h1
 ·rename_i fv av hfv hav;have gf:=bQ hR hE hf hfv;have ga:=rS hR hE has hav;have hargs:(c.args.map a.eval).toList=c.args.toList.map a.eval:=by simp
  generalize hev:a.eval f=fv' at gf;unfold nO at h1;split at h1
  ·rename_i g first cap
   cases h1;obtain⟨f',a',c',rfl,hfn,l1,l2⟩:=gf.nP;cases hfn;refine⟨rfl,(λc' hc'=>by rw[hop]at hc';cases hc'),(a'.toList++(c.args.toList.map a.eval++c'.toList)),?_, .inl ⟨g,rfl,?_⟩⟩
   ·rw[dQ,dQ];exact l1.append (ga.append l2)
   ·have:(a'.toList++(c.args.toList.map a.eval++c'.toList)).toArray=a'++c.args.map a.eval++c':=by apply dO;simp
    rw[this];simp[execOp,hop,resolve,hcal,hev,Deferred.ofValue,invoke]
  ·rename_i l first cap
   split at h1
   ·rename_i hcap;cases h1;obtain⟨f',a',c',rfl,hfn,l1,l2⟩:=gf.nP;cases hfn with
    |yield hk=>
     rename_i k;refine⟨rfl,(λc' hc'=>by rw[hop]at hc';cases hc'),(a'.toList++c.args.toList.map a.eval),?_, .inr ⟨l,k,rfl,hk,?_⟩⟩
     ·rw[dQ];exact l1.append ga
     ·have:(a'.toList++c.args.toList.map a.eval).toArray=a'++c.args.map a.eval:=by apply dO;simp
      rw[this];simp[execOp,hop,resolve,hcal,hev,Deferred.ofValue,invoke]
   ·cases h1
  ·cases h1
 ·cases h1
theorem K0(hR:R P μ h w)(hE:cm μ e a.tmps){o:Oper}{ao:AOp}(hc:fT P o.op=some ao){f:Value}{args:List Value}(h1:aop h base e ao=some (.jv f args)):
 ∃g first cap first' cap' args',f= .func (.func g) first cap/\LR μ first.toList first'.toList/\LR μ cap.toList cap'.toList/\LR μ args args'∧
  (execOp a.eval o).run P w= .ok (.defer {target:= .fn (.func g) cap',args:=first'++args'.toArray}) w:=by
 obtain⟨f,as,rfl⟩:=kH h1;obtain⟨c,hop,hcal,rfl,hf,has⟩:=(iY hc).2.1 f as rfl;simp only[aop]at h1;split at h1
 ·rename_i g first cap av hfv hav
  cases h1;have gf:=bQ hR hE hf hfv;have ga:=rS hR hE has hav;generalize hev:a.eval f=fv' at gf;obtain⟨f',a',c',rfl,hfn,l1,l2⟩:=gf.nP;cases hfn;refine⟨g,first,cap,a',c',_,rfl,l1,l2,ga,?_⟩;have:c.args.map a.eval=(c.args.toList.map a.eval).toArray:=by apply dO;simp
  simp[execOp,hop,resolve,hcal,hev,Deferred.ofValue,this]
 ·cases h1
theorem Iu(hR:R P μ h w)(hE:cm μ e a.tmps){o:Oper}{ao:AOp}(hc:fT P o.op=some ao){v:Value}{h':Heap}(h1:aop h base e ao=some (.panic v h')):
 h'=h/\∃v',VR μ v v'∧(execOp a.eval o).run P w= .halt (.panic v') w:=by
 obtain⟨x,rfl⟩:=kH h1;obtain⟨hop,hx⟩:=(iY hc).2.2.1 x rfl;obtain⟨xv,hxv,hh⟩:=an h1;have g:=bQ hR hE hx hxv;split at hh
 ·cases hh;generalize hev:a.eval x=xv' at g;refine⟨rfl,xv',g,?_⟩;cases g;simp[execOp,hop,hev,Instr.panic,goPanic,Result.andThen]
 ·cases hh
theorem B4{o:Oper}{ao:AOp}(hc:fT P o.op=some ao)(h1:aop h base e ao=some .recover):(execOp a.eval o).run P w= .ok .recover w:=by
 have:=kH h1;obtain⟨c,hop,hcal⟩:=(iY hc).2.2.2 this;simp[execOp,hop,resolve,hcal,invoke,builtin]
end Go.A
end
section
namespace Go.A
variable {P:Program} {μ:Mu} {h:Heap} {w:World}
theorem R.congr{h1 h2:Heap}(hR:R P μ h1 w)(ho:h1.b8=h2.b8)(hn:h1.next=h2.next):R P μ h2 w:=by
 have hg:∀b,h2.get b=h1.get b:=λb=>by simp[Heap.get,ho]
 exact⟨hn▸hR.big,λg o h1 h2=>hR.j8 g o h1 (hg g▸h2),λb o hb=>hR.obj b o (hg b▸hb),λb o hb=>hn▸hR.lt b o (hg b▸hb),λb k hb=>hn▸hR.dom b k hb,
  λb b' o o' k k' hne h1 h2=>hR.jP b b' o o' k k' hne (hg b▸h1) (hg b'▸h2)⟩
theorem Wr.congr{h1 h2:Heap}(ho:h1.b8=h2.b8){r:Nat}(hw:Wr μ h1 r):Wr μ h2 r:=by
 obtain⟨b,o,k,hb,x⟩:=hw;exact⟨b,o,k,by simpa[Heap.get,ho]using hb,x⟩
theorem St.iu{h1 h2:Heap}{μ0:Mu}{h0:Heap}{w0:World}(s:St μ0 h0 w0 μ h1 w)(ho:h1.b8=h2.b8):St μ0 h0 w0 μ h2 w:=
 ⟨s.ext,s.le,s.keep,λr hr hw=>s.wr r hr (hw.congr ho.symm),s.loops,s.same⟩
theorem St.nK{h1 h2:Heap}{μ':Mu}{h':Heap}{w':World}(s:St μ h1 w μ' h' w')(ho:h1.b8=h2.b8)(hn:h1.next=h2.next):St μ h2 w μ' h' w':=
 ⟨λb hb=>s.ext b (hn▸hb),s.le,λr hr hw=>s.keep r hr λq=>hw (q.congr ho),λr hr hw=>(s.wr r hr hw).congr ho,s.loops,s.same⟩
theorem kr:∀(l:List (Nat×bO)) (a n:Nat) (m:List (Nat×bO)),l.map (·.1)=cW a n->∀b,b<a->eZ (l++m) b=eZ m b
 |[],a,n,m,_,b,_=>rfl
 |(k,o)::l,a,0,m,h,b,_=>by simp[cW]at h
 |(k,o)::l,a,n+1,m,h,b,hb=>by
  simp only[List.map_cons,cW,List.cons.injEq]at h;obtain⟨h1,h2⟩:=h;simp only[List.cons_append,eZ,cond_eq_ite,beq_eq,decide_eq_true_eq];rw[if_neg (by omega)];exact kr l a n m h2 b hb
theorem Am:∀(l:List (Nat×bO)) (b:Nat) (o:bO),eZ l b=some o->b∈l.map (·.1)
 |(k,q)::l,b,o,h=>by
  simp only[eZ,cond_eq_ite,beq_eq,decide_eq_true_eq]at h;split at h
  ·rename_i e;simp[e]
  ·have:=Am l b o h;simp at this⊢;exact .inr this
theorem Ap:∀(l:List (Nat×bO)) (b:Nat),b∈l.map (·.1)->∃o,eZ l b=some o
 |(k,q)::l,b,h=>by
  simp only[eZ,cond_eq_ite,beq_eq,decide_eq_true_eq];by_cases e:k=b
  ·exact⟨q,by simp[e]⟩
  ·simp only[List.map_cons,List.mem_cons]at h;rcases h with h|h
   ·exact absurd h.symm e
   ·obtain⟨o,ho⟩:=Ap l b h;exact⟨o,by simp[e,ho]⟩
theorem GI{h0 h1:Heap}(hR:R P μ h0 w)(hA:AS h0.next h0 h1)(b:Nat):eZ (nM (h1.next-h0.next) h1.b8) b=if b<h0.next then h1.get b else none:=by
 unfold nM;rw[cw];have hk:=hA.keys;have hlen:(h1.b8.take (h1.next-h0.next)).map (·.1)=cW h0.next (h1.next-h0.next):=by
  rw[List.map_take,hk];have:∀a n,(cW a n).length=n:=λa n=>by induction n<;>simp[cW, *]
  exact List.take_left' (this _ _)
 have hdrop:(h1.b8.drop (h1.next-h0.next)).map (·.1)=h0.b8.map (·.1):=by
  rw[List.map_drop,hk];have:∀a n,(cW a n).length=n:=λa n=>by induction n<;>simp[cW, *]
  exact List.drop_left' (this _ _)
 by_cases hb:b<h0.next
 ·rw[if_pos hb];have:=kr _ _ _ (h1.b8.drop (h1.next-h0.next)) hlen b hb;rw[List.take_append_drop]at this;exact this.symm
 ·rw[if_neg hb];cases hg:eZ (h1.b8.drop (h1.next-h0.next)) b with
  |none=>rfl
  |some o=>
   have:=Am _ _ _ hg;rw[hdrop]at this;obtain⟨o',ho'⟩:=Ap _ _ this;exact absurd (hR.lt b o' ho') hb
theorem vU{h:Heap}{base:Nat}:∀{l:List Nat},gO h base l=true->∀b,fB l b=true->b<base→
 (∃vs own sz,h.get b=some (.cells vs own sz)/\cU vs=true)∨(∃es,h.get b=some (.map es)/\iP (es.map (·.1))=true/\iP (es.map (·.2))=true)∨h.get b=some .dead∨(∃s pos,h.get b=some (.j7 s pos))
 |[],_,b,hb,_=>by cases hb
 |x::l,hc,b,hb,hlt=>by
  rw[kE]at hb;simp only[gO,cond_eq_ite,blt_eq,decide_eq_true_eq,Bool.and_eq_true]at hc;by_cases hx:x=b
  ·subst hx;rw[if_pos hlt]at hc;split at hc
   ·rename_i vs own sz hg;split at hc
    ·rename_i hs;exact .inl ⟨_,_,_,hg,hs⟩
    ·cases hc
   ·rename_i es hg;split at hc
    ·rename_i hs;exact .inr (.inl ⟨_,hg,hs.1,hs.2⟩)
    ·cases hc
   ·rename_i hg;exact .inr (.inr (.inl hg))
   ·rename_i s pos hg;exact .inr (.inr (.inr ⟨s,pos,hg⟩))
   ·cases hc
  ·have hb:fB l b=true:=by simpa[hx]using hb
   have:gO h base l=true:=by
    split at hc
    ·split at hc
     ·split at hc
      ·exact hc
      ·cases hc
     ·split at hc
      ·exact hc
      ·cases hc
     ·exact hc
     ·exact hc
     ·cases hc
    ·exact hc
   exact vU this b hb hlt
def sP(μ:Mu)(n:Nat):Mu:=λb=>if b<n then μ b else none
theorem MR.flat{es:List (Value×Value)}{ms:List MapEntry}(hm:MR μ es ms){μ':Mu}(h1:iP (es.map (·.1))=true)(h2:iP (es.map (·.2))=true):MR μ' es ms:=by
 induction hm with
 |nil=>exact .nil
 |cons q1 q2 _ ih=>
  simp only[List.map_cons,iP,cond_eq_ite]at h1 h2;split at h1
  ·rename_i f1;split at h2
   ·rename_i f2;refine .cons ?_ ?_ (ih h1 h2)
    ·rw[(VR.flat f1).2 _ q1];exact(VR.flat f1).1
    ·rw[(VR.flat f2).2 _ q2];exact(VR.flat f2).1
   ·cases h2
  ·cases h1
theorem MR.back{μ μ1:Mu}(hm:∀b k,μ b=some k->μ1 b=some k){es:List (Value×Value)}{ms ms':List MapEntry}(h1:MR μ es ms)(h2:MR μ1 es ms'):MR μ es ms':=by
 induction h1 generalizing ms' with
 |nil=>cases h2;exact .nil
 |cons q1 q2 _ ih=>cases h2 with
  |cons p1 p2 p3=>exact .cons (q1.inj hm p1▸q1) (q2.inj hm p2▸q2) (ih p3)
theorem zn:∀{vs:List Value},cU vs=true->∀i,i<vs.length->jV (gv vs i)=true
 |[],_,i,hi=>by simp at hi
 |v::vs,h,i,hi=>by
  simp only[cU,cond_eq_ite]at h;split at h
  ·rename_i hv;cases i with
   |zero=>exact hv
   |succ i=>exact zn h i (by simpa using hi)
  ·cases h
theorem GJ{h0 h1:Heap}{w0 w1:World}{μ0 μ1:Mu}(hR0:R P μ0 h0 w0)(hR1:R P μ1 h1 w1)(hS:St μ0 h0 w0 μ1 h1 w1)(hA:AS h0.next h0 h1){v v':Value}(hv:VR μ1 v v'):
 ∃μ2,R P μ2 (gcA h0 h1 v) w1/\VR μ2 v v'∧St μ0 h0 w0 μ2 (gcA h0 h1 v) w1/\AS h0.next h0 (gcA h0 h1 v):=by
 unfold gcA;cases hc:(cT v&&gO h1 h0.next h1.log)with
 |false=>exact⟨μ1,hR1,hv,hS,hA⟩
 |true=>
  simp only[Bool.and_eq_true]at hc;obtain⟨hnr,hcl⟩:=hc;simp only[cond_true];have hm:=hS.mono hR0;have hget:∀b,({h1 with b8:=nM (h1.next-h0.next) h1.b8,next:=h0.next}:Heap).get b=if b<h0.next then h1.get b else none:=λb=>GI hR0 hA b
  have hcut:∀b k,sP μ1 h0.next b=some k->b<h0.next/\μ1 b=some k:=λb k hb=>by
   unfold sP at hb;split at hb
   ·exact⟨by assumption,hb⟩
   ·cases hb
  have hup:∀b k,μ0 b=some k->sP μ1 h0.next b=some k:=λb k hb=>by
   unfold sP;rw[if_pos (hR0.dom b k hb).1];exact hm b k hb
  have hdn:∀b k,sP μ1 h0.next b=some k->μ0 b=some k:=λb k hb=>by
   obtain⟨q1,q2⟩:=hcut b k hb;rw[←hS.ext b q1];exact q2
  refine⟨sP μ1 h0.next,⟨hR0.big,λg o hg ho=> ?_,λb o hb=> ?_,λb o hb=> ?_,λb k hb=> ?_,λb b' o o' k k' hne hb hb' l1 l2 m1 m2=> ?_⟩,?_,⟨λb hb=> ?_,hS.le,hS.keep,λr hr hw=> ?_,hS.loops,hS.same⟩,⟨Nat.le_refl _,?_,λb hb hl=>hA.mono b hb hl,λb hb hn hl=> ?_⟩⟩
  ·rw[hget]at ho;split at ho
   ·rename_i hlt;obtain⟨k,q1,q2⟩:=hR1.j8 g o hg ho;exact⟨k,by unfold sP;rw[if_pos hlt];exact q1,q2⟩
   ·cases ho
  ·rw[hget]at hb;split at hb
   ·rename_i hlt;have hor:=hR1.obj b o hb;cases hlog:fB h1.log b with
    |true=>
     rcases vU hcl b hlog hlt with⟨vs,own,sz,g1,g2⟩|⟨es,g1,g2,g3⟩|g1|⟨s,pos,g1⟩
     ·rw[hb]at g1;cases g1;intro k hk;obtain⟨z0,c,el,fz,z1,z2,z3,z4,z5⟩:=hor k (hcut b k hk).2;refine⟨z0,c,el,fz,z1,z2,z3,λi hi=> ?_,z5⟩;obtain⟨v',y1,y2⟩:=z4 i hi;have hs:=zn g2 i hi;exact⟨v',y1,by rw[(VR.jV hs).2 _ y2];exact(VR.jV hs).1⟩
     ·rw[hb]at g1;cases g1;intro k hk;obtain⟨ents,clock,z1,z2,zB⟩:=hor k (hcut b k hk).2;exact⟨ents,clock,z1,z2.flat g2 g3,zB⟩
     ·rw[hb]at g1;cases g1;trivial
     ·rw[hb]at g1;cases g1;intro k hk;exact hor k (hcut b k hk).2
    |false=>
     have h0b:=hA.same b hlt hlt hlog;rw[hb]at h0b;have ho0:=hR0.obj b o h0b.symm;cases o with
     |cells vs own sz=>
      intro k hk;obtain⟨z0,c,el,fz,z1,z2,z3,z4,z5⟩:=hor k (hcut b k hk).2;obtain⟨_,c0,_,_,_,_,_,y4,_⟩:=ho0 k (hdn b k hk);refine⟨z0,c,el,fz,z1,z2,z3,λi hi=> ?_,z5⟩;obtain⟨v1,p1,p2⟩:=z4 i hi;obtain⟨v0,q1,q2⟩:=y4 i hi;exact⟨v1,p1,(q2.inj hm p2▸q2).mono hup⟩
     |map es=>
      intro k hk;obtain⟨ents,clock,z1,z2,zB⟩:=hor k (hcut b k hk).2;obtain⟨ents0,clock0,y1,y2,_⟩:=ho0 k (hdn b k hk);exact⟨ents,clock,z1,(y2.back hm z2).mono hup,zB⟩
     |tw es=>
      intro k hk;obtain⟨ents,clock,z1,z2,zB⟩:=hor k (hcut b k hk).2;obtain⟨ents0,clock0,y1,y2,_⟩:=ho0 k (hdn b k hk);exact⟨ents,clock,z1,(y2.back hm z2).mono hup,zB⟩
     |loop e ps asg body st ic=>
      intro k hk;obtain⟨L,z1,z2,z3⟩:=hor k (hcut b k hk).2;obtain⟨L0,y1,y2,_⟩:=ho0 k (hdn b k hk);refine⟨L,z1,λt v hv=> ?_,z3⟩;obtain⟨v1,p1,p2⟩:=z2 t v hv;obtain⟨v0,q1,q2⟩:=y2 t v hv;exact⟨v1,p1,(q2.inj hm p2▸q2).mono hup⟩
     |j7 s pos=>intro k hk;exact hor k (hcut b k hk).2
     |dead=>trivial
   ·cases hb
  ·rw[hget]at hb;split at hb
   ·assumption
   ·cases hb
  ·obtain⟨q1,q2⟩:=hcut b k hb;exact⟨q1,(hR1.dom b k q2).2⟩
  ·rw[hget]at hb hb';split at hb
   ·split at hb'
    ·exact hR1.jP b b' o o' k k' hne hb hb' l1 l2 (hcut b k m1).2 (hcut b' k' m2).2
    ·cases hb'
   ·cases hb
  ·rw[(VR.cT hnr).2 _ hv];exact(VR.cT hnr).1
  ·unfold sP;rw[if_pos hb];exact hS.ext b hb
  ·obtain⟨b,o,k,g1,g2,g3,g4,g5⟩:=hw;rw[hget]at g1;split at g1
   ·exact hS.wr r hr ⟨b,o,k,g1,g2,g3,(hcut b k g4).2,g5⟩
   ·cases g1
  ·simp only[Nat.sub_self,cW,List.nil_append];have hk:=hA.keys;unfold nM;rw[cw,List.map_drop,hk];have:∀a n,(cW a n).length=n:=λa n=>by induction n<;>simp[cW, *]
   exact List.drop_left' (this _ _)
  ·rw[hget,if_pos hn];exact hA.same b hb hn hl
end Go.A
end
section
namespace Go.A
variable {P:Program} {μ:Mu} {h:Heap} {w:World} {e:Env} {a:Act} {base:Nat}
theorem mO(base:Nat):∀(m l:List Nat) (b:Nat),fB (aF base l m) b=(fB l b||(decide (b<base)&&fB m b))
 |[],l,b=>by simp[aF,fB]
 |x::m,l,b=>by
  simp only[aF,cond_eq_ite,blt_eq];rw[mO base m,kE];by_cases hx:x<base
  ·by_cases hl:fB l x=true
   ·by_cases hb:x=b
    ·subst hb;simp[hx,hl]
    ·simp[hx,hl,hb]
   ·by_cases hb:x=b
    ·subst hb;simp[hx,hl,kE]
    ·simp[hx,hl,hb,kE]
  ·by_cases hb:x=b
   ·subst hb;simp[hx]
   ·simp[hx,hb]
theorem AS.call{h2:Heap}(hA:AS h.next {h with log:=[]} h2)(hb:base<=h.next):AS base h {h2 with log:=aF base h.log h2.log}where
 next:=hA.next
 keys:=hA.keys
 mono:=λb _ hl=>by rw[mO,hl];rfl
 same:=λb hb1 hn hl=>by
  rw[mO]at hl;simp only[Bool.or_eq_false_iff,Bool.and_eq_false_iff,decide_eq_false_iff_not]at hl;exact hA.same b hn hn (by rcases hl.2 with q|q;exact absurd hb1 q;exact q)
def Fw(rd:Option Nat):Fence:={fn:=λ_=>True,depth:=none,alive:=false,round:=rd}
def RdR(μ:Mu):Option Nat->Option Nat->Prop
 |none,rd=>rd=none
 |some l,rd=>∃k,μ l=some k/\rd=some k.r
theorem RdR.mono{μ':Mu}(hm:∀b k,μ b=some k->μ' b=some k){r rd:Option Nat}(h:RdR μ r rd):RdR μ' r rd:=by
 cases r with
 |none=>exact h
 |some l=>obtain⟨k,h1,h2⟩:=h;exact⟨k,hm _ _ h1,h2⟩
inductive DR (μ:Mu) (h:Heap) (w:World) (lo:Nat):Dfs->List Deferred->Prop
 |nil:DR μ h w lo [] []
 |cons {g first cap first' cap' args args' ds ms}:LR μ first.toList first'.toList->LR μ cap.toList cap'.toList->LR μ args args'→DR μ h w lo ds ms→
  DR μ h w lo ((.func (.func g) first cap,args)::ds) ({target:= .fn (.func g) cap',args:=first'++args'.toArray}::ms)
 |mark {r ds ms}:lo<=r->(∀r' as,({target:= .collected r',args:=as}:Deferred)∈ms->r'<r)->w.heap[r]? =some (.deferred (some []))->¬Wr μ h r->DR μ h w lo ds ms->DR μ h w lo ds ({target:= .collected r,args:= #[]}::ms)
theorem DR.step{μ':Mu}{h':Heap}{w':World}{lo:Nat}{ds:Dfs}{ms:List Deferred}(s:St μ h w μ' h' w')(hm:∀b k,μ b=some k->μ' b=some k)(hd:DR μ h w lo ds ms):DR μ' h' w' lo ds ms:=by
 induction hd with
 |nil=>exact .nil
 |cons h1 h2 h3 _ ih=>exact .cons (h1.mono hm) (h2.mono hm) (h3.mono hm) ih
 |mark h1 h0 h2 h3 _ ih=>
  have hlt:=(Array.getElem?_eq_some_iff.1 h2).1;exact .mark h1 h0 ((s.keep _ hlt h3).trans h2) (λq=>h3 (s.wr _ hlt q)) ih
theorem DR.marks{lo:Nat}{ds:Dfs}{ms:List Deferred}(hd:DR μ h w lo ds ms):∀r as,({target:= .collected r,args:=as}:Deferred)∈ms->r<w.heap.size:=by
 induction hd with
 |nil=>intro r as hm;cases hm
 |cons _ _ _ _ ih=>
  intro r as hm;rcases List.mem_cons.1 hm with h|h
  ·injection h with h1 h2;cases h1
  ·exact ih r as h
 |mark _ _ h2 _ _ ih=>
  intro r as hm;rcases List.mem_cons.1 hm with h|h
  ·injection h with h1 h3;injection h1 with h1;subst h1;exact(Array.getElem?_eq_some_iff.1 h2).1
  ·exact ih r as h
def XR(μ:Mu):br->Exit->Prop
 | .normal, .normal=>True
 | .exit i, .exit j=>i=j
 | .ret, .ret=>True
 | .panic v, .panic chain=>∃v',chain=[{v:=v',recovered:=false}]/\VR μ v v'
 |_,_=>False
def Post(P:Program)(μ0:Mu)(h0:Heap)(w0:World)(lo sz:Nat)(x:br)(e':Env)(ds':Dfs)(h':Heap):Exit->Act->World->Prop:=λex a' w'=>
 ∃μ',XR μ' x ex/\R P μ' h' w'∧St μ0 h0 w0 μ' h' w'∧cm μ' e' a'.tmps/\DR μ' h' w' lo ds' a'.defers/\a'.tmps.size=sz
theorem Post.trans{μ0 μ1:Mu}{h0 h1:Heap}{w0 w1:World}{lo sz:Nat}{x:br}{e':Env}{ds':Dfs}{h':Heap}(s:St μ0 h0 w0 μ1 h1 w1)(hn:h0.next<=h1.next){ex:Exit}{a':Act}{w':World}
 (hp:Post P μ1 h1 w1 lo sz x e' ds' h' ex a' w'):Post P μ0 h0 w0 lo sz x e' ds' h' ex a' w':=by
 obtain⟨μ',q1,q2,q3,q4⟩:=hp;exact⟨μ',q1,q2,s.trans q3 hn,q4⟩
theorem fZ(a:Act)(dst:Option Tmp)(v:Value):(a.put dst v).tmps=match dst with|some d=>a.tmps.setIfInBounds d v|none=>a.tmps:=by
 cases dst<;>rfl
theorem dy(a:Act)(dst:Option Tmp)(v:Value):(a.put dst v).tmps.size=a.tmps.size:=by
 cases dst<;>simp[Act.put]
theorem put_defers(a:Act)(dst:Option Tmp)(v:Value):(a.put dst v).defers=a.defers:=by cases dst<;>rfl
theorem cm.put{nt:Nat}{dst:Option Nat}{v v':Value}(hE:cm μ e a.tmps)(hd:j4 nt dst=true)(hnt:nt<=a.tmps.size)(hv:VR μ v v'):cm μ (cI e dst v) (a.put dst v').tmps:=by
 cases dst with
 |none=>exact hE
 |some t=>
  simp only[j4,Nat.blt_eq]at hd;intro x y hx;simp only[cI,geT,cond_eq_ite,beq_eq,decide_eq_true_eq]at hx;rw[fZ];simp only[Array.getElem?_setIfInBounds];split at hx
  ·rename_i e;subst e;cases hx;exact⟨v',by simp[show t<a.tmps.size by omega],hv⟩
  ·rename_i hne;obtain⟨y',q1,q2⟩:=hE x y hx;exact⟨y',by simp[hne,q1],q2⟩
theorem cm.keep{t:Array Value}(hE:cm μ e t):∀(l:List Nat),cm μ (cE e l) t
 |[]=>λx v hv=>by cases hv
 |y::l=>by
  simp only[cE];split
  ·rename_i v hv;intro x u hu;simp only[geT,cond_eq_ite,beq_eq,decide_eq_true_eq]at hu;split at hu
   ·rename_i e;subst e;cases hu;exact hE _ _ hv
   ·exact(cm.keep hE l) x u hu
  ·exact cm.keep hE l
def Rw(μ:Mu):Res->Ending->Prop
 | .ret v, .returned v'=>VR μ v v'
 | .panic v, .panicked chain=>∃v',chain=[{v:=v',recovered:=false}]/\VR μ v v'
 |_,_=>False
def gQ(P:Program)(μ0:Mu)(h0:Heap)(w0:World)(res:Res)(h':Heap):Ending->World->Prop:=λen w'=>∃μ',Rw μ' res en/\R P μ' h' w'∧St μ0 h0 w0 μ' h' w'
def nh(P:Program)(Rp:Ending->World->Prop):Result Next->Prop
 | .ok (.value v) w'=>Rp (.returned v) w'
 | .ok (.enter f args) w'=>CallsIn Fence.wide 0 P f args w' Rp
 | .ok (.row row args) w'=>RowsIn Fence.wide 0 P row args w' λv w''=>Rp (.returned v) w''
 | .ok (.round l f tmps assign body) w'=>RoundIn Fence.wide 0 P l f tmps assign body w' Rp
 | .halt (.panic v) w'=>Rp (.panicked [{v,recovered:=false}]) w'
 |_=>False
theorem iL{rd:Option Nat}{o:Oper}{next:Act->World->Prop}{Q:Exit->Act->World->Prop}{Rp:Ending->World->Prop}{r:Result Next}(hr:nh P Rp r)
 (h1:∀v w',Rp (.returned v) w'→next (a.put o.dst v) w')(h2:∀chain w',Rp (.panicked chain) w'→Q (.panic chain) a w')(h3:∀w',¬Rp .outgrown w'):o.uponIn (Fw rd) 0 P a next Q r:=by
 have mo:∀e w',Rp e w'→(match(motive:=Ending->World->Prop) e,w' with
  | .returned v,w''=>next (a.put o.dst v) w''
  | .panicked chain,w''=>Q (.panic chain) a w''
  | .outgrown,_=>LetsOut Q):=λe w' hq=>by
  cases e with
  |returned v=>exact h1 v w' hq
  |panicked c=>exact h2 c w' hq
  |outgrown=>exact(h3 w' hq).elim
 cases r with
 |ok n w'=>
  cases n<;>first|exact hr.elim|skip
  ·exact h1 _ _ hr
  ·exact⟨(λq=>by cases q),CallsIn.mono (F:=Fw rd) hr mo⟩
  ·exact⟨(λq=>by cases q),RoundIn.mono (F:=Fw rd) hr mo⟩
  ·exact⟨(λq=>by cases q),RowsIn.mono (F:=Fw rd) hr λv w' hq=>h1 v w' hq⟩
 |halt hl w'=>
  cases hl<;>first|exact hr.elim|exact h2 _ _ hr
end Go.A
end
section
namespace Go.A
variable {h:Heap} {e:Env} {base:Nat}
def MZ(base:Nat)(h:Heap):cN->Prop
 | .val _ h'=>AS base h h'
 |_=>True
theorem Cs{size:Nat}{a:Option Addr}{len cap:Nat}{lo hi mx:Option Operand}{v:Value}{h':Heap}(h1:jL h e size a len cap lo hi mx=some (v,h')):AS base h h':=by
 unfold jL at h1;simp only[cond_eq_ite]at h1;repeat' split at h1
 all_goals first
  |(cases h1;done)
  |(cases h1;exact .refl _ _)
  |(cases h1;exact .push _ _ _)
theorem tX{size bytes n:Nat}{s v:Value}{new:List Value}{h':Heap}(h1:jF h base size bytes s new n=some (v,h')):AS base h h':=by
 unfold jF at h1;simp only[cond_eq_ite]at h1;repeat' split at h1
 all_goals first
  |(cases h1;done)
  |(cases h1;exact .refl _ _)
  |(cases h1;exact .push _ _ _)
  |(cases h1;exact .wr _ _ _ _)
  |(cases h1;exact(AS.wr _ _ _ _).trans (.push _ _ _))
theorem Gu{c:Cv}{x v:Value}{h':Heap}(h1:o7 h c x=some (v,h')):AS base h h':=by
 unfold o7 at h1;repeat' split at h1
 all_goals first
  |(cases h1;done)
  |(cases h1;exact .refl _ _)
  |(cases h1;exact .push _ _ _)
theorem E7{n:Nat}{v x:Value}{h':Heap}(h1:pW h base n v x=some h'):AS base h h':=by
 unfold pW at h1;simp only[cond_eq_ite]at h1;repeat' split at h1
 all_goals first
  |(cases h1;done)
  |(cases h1;exact .wr _ _ _ _)
theorem oL{x:Option (Value×Heap)}{out:cN}(h1:gV x=some out)(hx:∀v h',x=some (v,h')->AS base h h'):MZ base h out:=by
 cases x with
 |none=>cases h1
 |some p=>cases h1;exact hx _ _ rfl
theorem M9{ao:AOp}{out:cN}(h1:aop h base e ao=some out):MZ base h out:=by
 cases ao
 case call=>have:=kH h1;cases out<;>first|trivial|(obtain⟨f,as,hq⟩:=this;cases hq;done)|skip
            simp only[aop]at h1;split at h1
            ·unfold nO at h1;repeat' split at h1
             all_goals cases h1
            ·cases h1
 case jv=>
  simp only[aop]at h1;repeat' split at h1
  all_goals cases h1
  trivial
 case sg=>
  obtain⟨v,_,h2⟩:=an h1;split at h2<;>cases h2
  trivial
 case recover=>cases h1;trivial
 case mov=>obtain⟨v,_,h2⟩:=an h1;cases h2;exact .refl _ _
 case box=>obtain⟨v,_,h2⟩:=an h1;cases h2;exact .push _ _ _
 case ia=>obtain⟨v,_,h2⟩:=an h1;cases h2;exact .refl _ _
 case un=>obtain⟨v,_,h2⟩:=an h1;obtain⟨v,_,h2⟩:=an h2;cases h2;exact .refl _ _
 case load=>obtain⟨v,_,h2⟩:=an h1;obtain⟨v,_,h2⟩:=an h2;cases h2;exact .refl _ _
 case conv=>obtain⟨v,_,h2⟩:=an h1;exact oL h2 λv h' hq=>Gu hq
 case store=>
  obtain⟨v,_,h2⟩:=an h1;obtain⟨v,_,h2⟩:=an h2;split at h2
  ·rename_i hq;cases h2;exact E7 hq
  ·cases h2
 case bC=>
  obtain⟨v,_,h2⟩:=an h1;split at h2<;>cases h2;exact .refl _ _
 case bin op x y=>
  cases op;case num=>
   obtain⟨v,_,h2⟩:=an h1;obtain⟨v,_,h2⟩:=an h2;obtain⟨v,_,h2⟩:=an h2;cases h2;exact .refl _ _
  case beq=>simp only[aop]at h1;split at h1<;>cases h1;exact .refl _ _
  case nil=>
   obtain⟨v,_,h2⟩:=an h1;obtain⟨v,_,h2⟩:=an h2;split at h2<;>cases h2;exact .refl _ _
  case agg=>
   obtain⟨v,_,h2⟩:=an h1;obtain⟨v,_,h2⟩:=an h2;split at h2
   ·split at h2<;>cases h2;exact .refl _ _
   ·cases h2
 case pick=>
  simp only[aop]at h1;split at h1
  ·obtain⟨v,_,h2⟩:=an h1;cases h2;exact .refl _ _
  ·obtain⟨v,_,h2⟩:=an h1;cases h2;exact .refl _ _
  ·cases h1
 case slice k x lo hi mx=>
  cases k<;>cases mx<;>simp only[aop]at h1
  ·repeat' split at h1
   all_goals first|(cases h1;done)|skip
   simp only[cond_eq_ite,Option.ite_none_right_eq_some]at h1;obtain⟨_,h1⟩:=h1;cases h1;exact .refl _ _
  ·cases h1
  all_goals
   split at h1
   ·exact oL h1 λv h' hq=>Cs hq
   ·cases h1
 case len k x=>
  match k with
  |0=>simp only[aop]at h1;split at h1<;>cases h1;exact .refl _ _
  |1=>simp only[aop]at h1;split at h1<;>cases h1;exact .refl _ _
  |k+2=>
   simp only[aop]at h1;split at h1
   ·cases h1;exact .refl _ _
   ·split at h1<;>cases h1;exact .refl _ _
   ·cases h1
 case append=>
  simp only[aop]at h1;split at h1
  ·split at h1
   ·exact oL h1 λv h' hq=>tX hq
   ·cases h1
  ·cases h1
 case jG=>
  simp only[aop]at h1;split at h1
  ·split at h1
   ·simp only[cond_eq_ite,Option.ite_none_right_eq_some]at h1;exact oL h1.2 λv h' hq=>tX hq
   ·cases h1
  ·cases h1
 case next x s=>
  cases s
  ·cases h1
  ·simp only[aop]at h1;repeat' split at h1
   all_goals first|(cases h1;done)|skip
   simp only[cond_eq_ite]at h1;split at h1<;>cases h1
   ·exact .wr _ _ _ _
   ·exact .refl _ _
 case bI=>simp only[aop]at h1;repeat' split at h1
          all_goals first|(cases h1;done)|(simp only[cond_eq_ite,Option.ite_none_right_eq_some]at h1;obtain⟨_,h1⟩:=h1;cases h1;exact .refl _ _)
 case aH=>simp only[aop]at h1;repeat' split at h1
          all_goals first|(cases h1;done)|(simp only[cond_eq_ite,Option.ite_none_right_eq_some]at h1;obtain⟨_,h1⟩:=h1;cases h1;exact .refl _ _)
 case jA=>cases h1;exact .refl _ _
 case new=>cases h1;exact .push _ _ _
 case mkMap=>cases h1;exact .push _ _ _
 all_goals
  revert h1;simp only[aop,cond_eq_ite];intro h1;repeat' split at h1
  all_goals first
   |(cases h1;done)
   |(cases h1;exact .refl _ _)
   |(cases h1;exact .push _ _ _)
   |(cases h1;exact .wr _ _ _ _)
   |(obtain⟨v,_,h2⟩:=an h1;cases h2;exact .refl _ _)
end Go.A
end
section
namespace Go.A
variable {h:Heap} {e:Env} {base:Nat} {T:Nat->Option af}
def aV(T:Nat->Option af):Prop:=∀f p args h v h',T f=some (.mQ p)->p args h=some (v,h')->h.log=[]->AS h.next h h'
structure eS (T:Nat->Option af) (n:Nat):Prop where
 exec:∀base rnd c e ds h x e' ds' h',ct T n base rnd c e ds h=some (x,e',ds',h')->base<=h.next->AS base h h'
 ops:∀base rnd ops e ds h x e' ds' h',gh T n base rnd ops e ds h=some (x,e',ds',h')->base<=h.next->AS base h h'
 draw:∀base ops order before rs e h x e' h',eH T n base ops order before rs e h=some (x,e',h')->base<=h.next->AS base h h'
 iX:∀fn args h r h',fN T n fn args h=some (r,h')->h.log=[]->AS h.next h h'
 call:∀f args h r h',iV T n f args h=some (r,h')->h.log=[]->AS h.next h h'
 unw:∀results ds pan e h h1 r h',nA T n results ds pan e h h1=some (r,h')->AS h.next h h1->AS h.next h h'
 defer:∀g args pan h pan' h',jW T n g args pan h=some (pan',h')->h.log=[]->AS h.next h h'
 gX:∀base c e pan h x e' pan' h',ir T n base c e pan h=some (x,e',pan',h')->base<=h.next->AS base h h'
 lT:∀base ops e pan h x e' pan' h',jo T n base ops e pan h=some (x,e',pan',h')->base<=h.next->AS base h h'
theorem AS.gc'{h0 h1:Heap}(hA:AS h0.next h0 h1)(v:Value):AS h0.next h0 (gcA h0 h1 v):=by
 unfold gcA;cases hc:(cT v&&gO h1 h0.next h1.log)with
 |false=>exact hA
 |true=>
  simp only[cond_true];have hlen:∀a n,(cW a n).length=n:=λa n=>by induction n<;>simp[cW, *]
  have hk:=hA.keys;refine⟨Nat.le_refl _,?_,λb hb hl=>hA.mono b hb hl,λb hb hn hl=> ?_⟩
  ·simp only[Nat.sub_self,cW,List.nil_append];unfold nM;rw[cw,List.map_drop,hk];exact List.drop_left' (hlen _ _)
  ·have hlen2:(h1.b8.take (h1.next-h0.next)).map (·.1)=cW h0.next (h1.next-h0.next):=by
    rw[List.map_take,hk];exact List.take_left' (hlen _ _)
   have:=kr _ _ _ (h1.b8.drop (h1.next-h0.next)) hlen2 b hb;rw[List.take_append_drop]at this;show eZ (nM _ _) b=_;unfold nM;rw[cw,←this];exact hA.same b hb hn hl
theorem eS.zero:eS T 0:=by
 constructor<;>intros<;>rename_i h1 _<;>first|(simp[ct]at h1;done)|(simp[gh]at h1;done)|(simp[eH]at h1;done)|(simp[fN]at h1;done)|(simp[iV]at h1;done)|(simp[nA]at h1;done)|(simp[jW]at h1;done)|(simp[ir]at h1;done)|(simp[jo]at h1;done)
theorem nr{ao:AOp}{v:Value}{h':Heap}(h1:aop h base e ao=some (.val v h')):AS base h h':=M9 h1
theorem Ka{ao:AOp}{fn:Fn}{args:List Value}{h':Heap}(h1:aop h base e ao=some (.call fn args h')):h'=h:=by
 obtain⟨f,as,rfl⟩:=kH h1;simp only[aop]at h1;split at h1
 ·unfold nO at h1;repeat' split at h1
  all_goals cases h1
  all_goals rfl
 ·cases h1
theorem Ge{ao:AOp}{v:Value}{h':Heap}(h1:aop h base e ao=some (.panic v h')):h'=h:=by
 obtain⟨x,rfl⟩:=kH h1;obtain⟨v,_,h2⟩:=an h1;split at h2<;>cases h2
 rfl
theorem nQ(h:Heap)(l:Nat)(o:bO)(b:Nat):({h with b8:=iA h.b8 l o}:Heap).get b=if b=l then(h.get l).map (λ_=>o)else h.get b:=rV _ _ _ _
theorem Da{out:Nat}{e0:Env}{h0:Heap}{r:Option (Option (br×Env))}{x:br}{e':Env}{ds':Dfs}{h':Heap}(h1:Gw out e0 h0 r=some (x,e',ds',h')):ds'=[]/\h'=h0:=by
 unfold Gw at h1;split at h1
 ·cases h1;exact⟨rfl,rfl⟩
 ·simp only[cond_eq_ite]at h1;split at h1<;>cases h1<;>exact⟨rfl,rfl⟩
 ·cases h1;exact⟨rfl,rfl⟩
 ·cases h1
theorem eS.succ(hp:aV T){n:Nat}(ih:eS T n):eS T (n+1):=by
 constructor;case exec=>
  intro base rnd c e ds h x e' ds' h' h1 hb;cases c<;>simp only[ct]at h1
  case skip=>cases h1;exact .refl _ _
  case exit=>cases h1;exact .refl _ _
  case ret=>cases h1;exact .refl _ _
  case region ops keep=>
   split at h1
   ·rename_i hq;cases h1;exact ih.ops _ _ _ _ _ _ _ _ _ _ hq hb
   ·exact ih.ops _ _ _ _ _ _ _ _ _ _ h1 hb
  case draw ops order before keep=>
   split at h1
   ·rename_i hq;cases h1;exact ih.draw _ _ _ _ _ _ _ _ _ _ hq hb
   ·rename_i hq;cases h1;exact ih.draw _ _ _ _ _ _ _ _ _ _ hq hb
   ·cases h1
  case seq a b=>
   split at h1
   ·rename_i hq;have q1:=ih.exec _ _ _ _ _ _ _ _ _ _ hq hb;exact q1.trans (ih.exec _ _ _ _ _ _ _ _ _ _ h1 (Nat.le_trans hb q1.next))
   ·exact ih.exec _ _ _ _ _ _ _ _ _ _ h1 hb
  case cond c a b=>
   split at h1
   ·exact ih.exec _ _ _ _ _ _ _ _ _ _ h1 hb
   ·exact ih.exec _ _ _ _ _ _ _ _ _ _ h1 hb
   ·cases h1
  case block id b=>
   split at h1
   ·rename_i hq;have q1:=ih.exec _ _ _ _ _ _ _ _ _ _ hq hb;simp only[cond_eq_ite]at h1;split at h1<;>cases h1<;>exact q1
   ·exact ih.exec _ _ _ _ _ _ _ _ _ _ h1 hb
  case loop b=>
   split at h1
   ·rename_i hq;have q1:=ih.exec _ _ _ _ _ _ _ _ _ _ hq hb;exact q1.trans (ih.exec _ _ _ _ _ _ _ _ _ _ h1 (Nat.le_trans hb q1.next))
   ·exact ih.exec _ _ _ _ _ _ _ _ _ _ h1 hb
  case scope b=>exact ih.exec _ _ _ _ _ _ _ _ _ _ h1 hb
  case rangeFunc f ps asg body=>
   simp only[cond_eq_ite]at h1;split at h1
   ·split at h1
    ·split at h1
     ·cases h1
     ·have hpush:AS base h (h.push (.loop e ps asg body 0 .normal)):= .push _ _ _;have hle:base<=(h.push (.loop e ps asg body 0 .normal)).next:=Nat.le_trans hb hpush.next
      split at h1
      ·rename_i hq;have q1:=AS.call (h:=h.push (.loop e ps asg body 0 .normal)) (base:=base) (ih.call _ _ _ _ _ hq rfl) hle;split at h1
       ·split at h1
        ·cases h1
        ·cases h1;exact(hpush.trans q1).trans (.wr _ _ _ _)
       ·cases h1
      ·rename_i hq;cases h1;exact hpush.trans (AS.call (h:=h.push (.loop e ps asg body 0 .normal)) (base:=base) (ih.call _ _ _ _ _ hq rfl) hle)
      ·cases h1
    ·cases h1
   ·cases h1
  case rangeMap ops it y keep out nxt pr ops2 k2 body=>
   split at h1
   ·rename_i hq;have q1:=ih.ops _ _ _ _ _ _ _ _ _ _ hq hb;split at h1
    ·cases h1
    ·split at h1
     ·cases h1;exact q1
     ·split at h1
      ·obtain⟨_,rfl⟩:=Da h1;exact q1
      ·cases h1
     ·cases h1
   ·exact ih.ops _ _ _ _ _ _ _ _ _ _ h1 hb
 case ops=>
  intro base rnd ops e ds h x e' ds' h' h1 hb;cases ops with
  |nil=>simp only[gh]at h1;cases h1;exact .refl _ _
  |cons o os=>
   simp only[gh]at h1;split at h1
   ·exact ih.ops _ _ _ _ _ _ _ _ _ _ h1 hb
   ·split at h1
    ·rename_i hq;have q1:=nr hq;exact q1.trans (ih.ops _ _ _ _ _ _ _ _ _ _ h1 (Nat.le_trans hb q1.next))
    ·rename_i fn as hc hq;have e1:=Ka hq;rw[e1]at h1;split at h1
     ·rename_i hq;have q1:=AS.call (h:=h) (base:=base) (ih.iX _ _ _ _ _ hq rfl) hb;exact q1.trans (ih.ops _ _ _ _ _ _ _ _ _ _ h1 (Nat.le_trans hb q1.next))
     ·rename_i hq;cases h1;exact AS.call (h:=h) (base:=base) (ih.iX _ _ _ _ _ hq rfl) hb
     ·cases h1
    ·split at h1
     ·cases h1
     ·exact ih.ops _ _ _ _ _ _ _ _ _ _ h1 hb
    ·rename_i hq;have:=Ge hq;subst this;cases h1;exact .refl _ _
    ·cases h1
   ·cases h1
 case draw=>
  intro base ops order before rs e h x e' h' h1 hb;cases order with
  |nil=>simp only[eH]at h1;cases h1;exact .refl _ _
  |cons i is=>
   simp only[eH]at h1;split at h1
   ·split at h1
    ·exact ih.draw _ _ _ _ _ _ _ _ _ _ h1 hb
    ·simp only[cond_eq_ite]at h1;split at h1
     ·split at h1
      ·rename_i hq;have q1:=nr hq;split at h1
       ·rw[Option.ite_none_right_eq_some]at h1;exact q1.trans (ih.draw _ _ _ _ _ _ _ _ _ _ h1.2 (Nat.le_trans hb q1.next))
       ·split at h1
        ·exact ih.draw _ _ _ _ _ _ _ _ _ _ h1 hb
        ·split at h1
         ·split at h1
          ·rename_i hq;have q1:=AS.call (h:=h) (base:=base) (nr hq) hb;split at h1
           ·exact q1.trans (ih.draw _ _ _ _ _ _ _ _ _ _ h1 (Nat.le_trans hb q1.next))
           ·cases h1
          ·cases h1
         ·cases h1
      ·cases h1
     ·split at h1
      ·rename_i hq;have q1:=AS.call (h:=h) (base:=base) (nr hq) hb;split at h1
       ·exact q1.trans (ih.draw _ _ _ _ _ _ _ _ _ _ h1 (Nat.le_trans hb q1.next))
       ·cases h1
      ·split at h1
       ·rename_i hq;have q1:=AS.call (h:=h) (base:=base) (ih.iX _ _ _ _ _ hq rfl) hb;split at h1
        ·exact q1.trans (ih.draw _ _ _ _ _ _ _ _ _ _ h1 (Nat.le_trans hb q1.next))
        ·cases h1
       ·rename_i hq;cases h1;exact AS.call (h:=h) (base:=base) (ih.iX _ _ _ _ _ hq rfl) hb
       ·cases h1
      ·cases h1
    ·cases h1
   ·cases h1
 case iX=>
  intro fn args h r h' h1 hl;cases fn<;>simp only[fN]at h1<;>(try (cases h1;done))
  case func f=>exact ih.call _ _ _ _ _ h1 hl
  case yield l=>
   split at h1
   ·rename_i e ps asg body hg;split at h1
    ·split at h1
     ·rename_i e2 ds2 h2 hq1;have q1:=ih.exec _ _ _ _ _ _ _ _ _ _ hq1 (Nat.le_refl _);rw[cond_eq_ite]at h1;split at h1
      ·cases h1
      ·have back:∀(h3:Heap) (st:Nat) (pd:br),AS h.next {h2 with b8:=iA h2.b8 l (.loop e ps asg body 1 .normal)} h3->∀o,(h3.get l).isSome->AS h.next h (h3.wr h.next l o):=λh3 st pd q2 o _=>by
        have q3:=q2.trans (.wr h.next h3 l o);have q1n:=q1.next
        refine⟨Nat.le_trans q1n q3.next,?_,λb hb hq=>q3.mono b hb (q1.mono b hb hq),λb hb hn hq=> ?_⟩
        ·rw[q3.keys];show _++(iA h2.b8 l _).map (·.1)=_;rw[kC,q1.keys,←List.append_assoc];show cW h2.next _++_++_=_
         have e1:(h3.wr h.next l o).next-h.next=(h2.next-h.next)+((h3.wr h.next l o).next-h2.next):=by have:=q3.next;have:h2.next<=(h3.wr h.next l o).next:=this;omega
         rw[e1,mI,show h.next+(h2.next-h.next)=h2.next by omega]
        ·have h2l:fB h2.log b=false:=by
          cases e:fB h2.log b with
          |false=>rfl
          |true=>rw[q3.mono b hb e]at hq;cases hq
         rw[q3.same b hb (Nat.lt_of_lt_of_le hn q1n) hq,nQ];split
         ·rename_i e;subst e;rw[Heap.BL]at hq;simp[hb]at hq
         ·exact q1.same b hb hn h2l
       have fwd:∀(h3:Heap),AS h.next {h2 with b8:=iA h2.b8 l (.loop e ps asg body 1 .normal)} h3->(h3.get l).isSome->AS h.next h {h3 with b8:=iA h3.b8 l (.loop e ps asg body 0 .normal)}:=λh3 q2 hs=>by
        have q1n:=q1.next
        have q2n:h2.next<=h3.next:=q2.next
        refine⟨Nat.le_trans q1n q2n,?_,λb hb hq=>q2.mono b hb (q1.mono b hb hq),λb hb hn hq=> ?_⟩
        ·show(iA h3.b8 l _).map (·.1)=_;rw[kC,q2.keys];show _++(iA h2.b8 l _).map (·.1)=_;rw[kC,q1.keys,←List.append_assoc];show cW h2.next (h3.next-h2.next)++_++_=cW h.next (h3.next-h.next)++_
         have e1:h3.next-h.next=(h2.next-h.next)+(h3.next-h2.next):=by omega
         rw[e1,mI,show h.next+(h2.next-h.next)=h2.next by omega]
        ·have h2l:fB h2.log b=false:=by
          cases e:fB h2.log b with
          |false=>rfl
          |true=>rw[q2.mono b hb e]at hq;cases hq
         rw[nQ];split
         ·rename_i e;subst e;obtain⟨o,ho⟩:=Option.isSome_iff_exists.1 hs;rw[ho,hg];rfl
         ·rename_i e;have:=q2.same b hb (Nat.lt_of_lt_of_le hn q1n) hq;rw[nQ,if_neg e]at this;rw[this];exact q1.same b hb hn h2l
       split at h1
       ·rename_i h3 hq2;have q2:=ih.exec _ _ _ _ _ _ _ _ _ _ hq2 q1.next
        split at h1
        ·rename_i hg3;cases h1;exact AS.gc' (fwd h3 q2 (by rw[hg3];rfl)) _
        ·cases h1
       ·rename_i h3 hq2;have q2:=ih.exec _ _ _ _ _ _ _ _ _ _ hq2 q1.next
        split at h1
        ·rename_i hg3;cases h1;exact back h3 0 .normal q2 _ (by rw[hg3];rfl)
        ·cases h1
       ·rename_i h3 hq2;have q2:=ih.exec _ _ _ _ _ _ _ _ _ _ hq2 q1.next
        split at h1
        ·rename_i hg3;cases h1;exact back h3 0 .normal q2 _ (by rw[hg3];rfl)
        ·cases h1
       ·cases h1
     ·cases h1
    ·cases h1
   ·cases h1
 case call=>
  intro f args h r h' h1 hl;simp only[iV]at h1;split at h1
  ·cases h1
  ·rename_i p hT;split at h1
   ·rename_i hq;cases h1;exact hp _ _ _ _ _ _ hT hq hl
   ·cases h1
  ·split at h1
   ·rename_i hq;exact ih.unw _ _ _ _ _ _ _ _ h1 (ih.exec _ _ _ _ _ _ _ _ _ _ hq (Nat.le_refl _))
   ·cases h1
   ·rename_i hq;exact ih.unw _ _ _ _ _ _ _ _ h1 (ih.exec _ _ _ _ _ _ _ _ _ _ hq (Nat.le_refl _))
   ·cases h1
 case unw=>
  intro results ds pan e h h1 r h' hh hA;cases ds with
  |nil=>
   simp only[nA]at hh;split at hh
   ·cases hh;exact hA
   ·split at hh
    ·cases hh;exact hA.gc' _
    ·cases hh
  |cons d ds=>
   obtain⟨f,args⟩:=d;cases f<;>simp only[nA]at hh<;>(try (cases hh;done))
   rename_i fn first cap
   cases fn<;>simp only at hh<;>(try (cases hh;done))
   split at hh
   ·rename_i hq;exact ih.unw _ _ _ _ _ _ _ _ hh (hA.trans (AS.call (ih.defer _ _ _ _ _ _ hq rfl) hA.next))
   ·cases hh
 case defer=>
  intro g args pan h pan' h' h1 hl;simp only[jW]at h1;split at h1
  ·split at h1
   ·rename_i hq;cases h1;exact ih.gX _ _ _ _ _ _ _ _ _ hq (Nat.le_refl _)
   ·rename_i hq;cases h1;exact ih.gX _ _ _ _ _ _ _ _ _ hq (Nat.le_refl _)
   ·cases h1
  ·cases h1
 case gX=>
  intro base c e pan h x e' pan' h' h1 hb;cases c<;>simp only[ir]at h1<;>(try (cases h1;done))
  case skip=>cases h1;exact .refl _ _
  case ret=>cases h1;exact .refl _ _
  case region ops keep=>
   split at h1
   ·rename_i hq;cases h1;exact ih.lT _ _ _ _ _ _ _ _ _ hq hb
   ·exact ih.lT _ _ _ _ _ _ _ _ _ h1 hb
  case seq a b=>
   split at h1
   ·rename_i hq;have q1:=ih.gX _ _ _ _ _ _ _ _ _ hq hb;exact q1.trans (ih.gX _ _ _ _ _ _ _ _ _ h1 (Nat.le_trans hb q1.next))
   ·exact ih.gX _ _ _ _ _ _ _ _ _ h1 hb
  case cond c a b=>
   split at h1
   ·exact ih.gX _ _ _ _ _ _ _ _ _ h1 hb
   ·exact ih.gX _ _ _ _ _ _ _ _ _ h1 hb
   ·cases h1
 case lT=>
  intro base ops e pan h x e' pan' h' h1 hb;cases ops with
  |nil=>simp only[jo]at h1;cases h1;exact .refl _ _
  |cons o os=>
   simp only[jo]at h1;split at h1
   ·exact ih.lT _ _ _ _ _ _ _ _ _ h1 hb
   ·split at h1
    ·rename_i hq;have q1:=nr hq;exact q1.trans (ih.lT _ _ _ _ _ _ _ _ _ h1 (Nat.le_trans hb q1.next))
    ·split at h1
     ·exact ih.lT _ _ _ _ _ _ _ _ _ h1 hb
     ·exact ih.lT _ _ _ _ _ _ _ _ _ h1 hb
    ·cases h1
   ·cases h1
theorem eS.all(hp:aV T):∀n,eS T n
 |0=> .zero
 |n+1=> .succ hp (eS.all hp n)
end Go.A
end
section
namespace Go.A
variable {P:Program} {T:Nat->Option af}
def Bn(μ:Mu):Option Value->FrameMode->Prop
 |none,u=>u= .returning
 |some v,u=>∃v',VR μ v v'∧u= .panicking [{v:=v',recovered:=false}]
def tT(μ:Mu):Option Value->FrameMode->Prop
 |some v,u=>∃v',VR μ v v'∧u= .panicking [{v:=v',recovered:=false}]
 |none,u=>u= .returning∨∃v',u= .panicking [{v:=v',recovered:=true}]
def lM(P:Program)(T:Nat->Option af)(n:Nat):Prop:=∀base rnd ac e ds h x e' ds' h',ct T n base rnd ac e ds h=some (x,e',ds',h')->base<=h.next→
 ∀c nt μ w (a:Act) rd lo,fP P nt c ac->nt<=a.tmps.size->R P μ h w->cm μ e a.tmps->DR μ h w lo ds a.defers->RdR μ rnd rd->lo<=w.heap.size->c.wpIn (Fw rd) 0 P (Post P μ h w lo a.tmps.size x e' ds' h') a w
def sL(P:Program)(T:Nat->Option af)(n:Nat):Prop:=∀base rnd as e ds h x e' ds' h',gh T n base rnd as e ds h=some (x,e',ds',h')->base<=h.next→
 ∀(ops:Array Oper) i m nt μ w (a:Act) rd lo,i+m<=ops.size->bY P nt ops ((ops.toList.drop i).take m)=some as->nt<=a.tmps.size->R P μ h w->cm μ e a.tmps->DR μ h w lo ds a.defers->RdR μ rnd rd->lo<=w.heap.size→
  wpOpsIn (Fw rd) 0 P ops (Post P μ h w lo a.tmps.size x e' ds' h') (List.range' i m) a w
def Fz(P:Program)(T:Nat->Option af)(n:Nat):Prop:=∀base as ord bf e h x e' h',eH T n base as ord bf [] e h=some (x,e',h')->base<=h.next→
 ∀(ops:Array Oper) nt μ w (a:Act) rd lo ds id,bY P nt ops ops.toList=some as->uj as ops.toList ord bf=true->nt<=a.tmps.size->R P μ h w->cm μ e a.tmps->DR μ h w lo ds a.defers->RdR μ (none:Option Nat) rd∨True->lo<=w.heap.size→
  (Code.region id ops true).wpIn (Fw rd) 0 P (Post P μ h w lo a.tmps.size x e' ds h') a w
def oE(P:Program)(T:Nat->Option af)(n:Nat):Prop:=∀fn args h res h',fN T n fn args h=some (res,h')->h.log=[]->∀μ w args',R P μ h w->LR μ args args'→
 (∀g,fn= .func g->nh P (gQ P μ h w res h') ((callFunc g args'.toArray).run P w))/\(∀l k,fn= .yield l->μ l=some k->nh P (gQ P μ h w res h') ((Instr.yield k.r args'.toArray).run P w))
def rJ(P:Program)(T:Nat->Option af)(n:Nat):Prop:=∀f args h res h',iV T n f args h=some (res,h')->h.log=[]->∀μ w args',R P μ h w->LR μ args args'→
 nh P (gQ P μ h w res h') ((callFunc f args'.toArray).run P w)
def vK(P:Program)(T:Nat->Option af)(n:Nat):Prop:=∀results ds pan e h h1 res h',nA T n results ds pan e h h1=some (res,h')->AS h.next h h1→
 ∀(fn:Func) μ w μ1 w1 tmps mds u,A4 P fn.results.toList=some results->R P μ h w->R P μ1 h1 w1->St μ h w μ1 h1 w1->cm μ1 e tmps->DR μ1 h1 w1 w.heap.size ds mds->Bn μ1 pan u→
  LeavesInM Fence.wide 0 P fn tmps (gQ P μ h w res h') mds u w1
def qe(P:Program)(T:Nat->Option af)(n:Nat):Prop:=∀g args pan h pan' h',jW T n g args pan h=some (pan',h')->h.log=[]->∀μ w args' u,R P μ h w->LR μ args args'→Bn μ pan u→
 CallsDIn Fence.wide 0 P g args'.toArray u w λen u' w'=>∃v μ',en= .returned v/\R P μ' h' w'∧St μ h w μ' h' w'∧Bn μ' pan' (settle u')
def oI(P:Program)(T:Nat->Option af)(n:Nat):Prop:=∀base ac e pan h x e' pan' h',ir T n base ac e pan h=some (x,e',pan',h')->base<=h.next→
 ∀c nt μ w (a:Act) (c0:Frame) cs u,fP P nt c ac->nt<=a.tmps.size->R P μ h w->cm μ e a.tmps->a.defers=[]->tT μ pan u→
  c.wpSIn Fence.wide 0 P (λex a' cs' w'=>∃μ' u',XR μ' x ex/\R P μ' h' w'∧St μ h w μ' h' w'∧cm μ' e' a'.tmps/\a'.defers=[]/\a'.tmps.size=a.tmps.size/\cs'={c0 with mode:=u'}::cs/\tT μ' pan' u') a ({c0 with mode:=u}::cs) w
def rL(P:Program)(T:Nat->Option af)(n:Nat):Prop:=∀base as e pan h x e' pan' h',jo T n base as e pan h=some (x,e',pan',h')->base<=h.next→
 ∀(ops:Array Oper) i nt μ w (a:Act) (c0:Frame) cs u,i<=ops.size->bY P nt ops (ops.toList.drop i)=some as->nt<=a.tmps.size->R P μ h w->cm μ e a.tmps->a.defers=[]->tT μ pan u→
  wpOpsSIn Fence.wide 0 P ops (λex a' cs' w'=>∃μ' u',XR μ' x ex/\R P μ' h' w'∧St μ h w μ' h' w'∧cm μ' e' a'.tmps/\a'.defers=[]/\a'.tmps.size=a.tmps.size/\cs'={c0 with mode:=u'}::cs/\tT μ' pan' u')
   (List.range' i (ops.size-i)) a ({c0 with mode:=u}::cs) w
structure ew (P:Program) (T:Nat->Option af):Prop where
 mixed:P.follows .mixedOrders=true
 code:∀f c rs,T f=some (.code c rs)->∃fn ks,P.funcs[f]? =some fn/\aD P fn ks=some (.code c rs)
 mQ:∀f p args h v h',T f=some (.mQ p)->p args h=some (v,h')->h.log=[]->AS h.next h h'∧∀μ w args',R P μ h w->LR μ args args'→nh P (gQ P μ h w (.ret v) h') ((callFunc f args'.toArray).run P w)
theorem ew.aV(hT:ew P T):aV T:=λf p args h v h' h1 h2 h3=>(hT.mQ f p args h v h' h1 h2 h3).1
variable {μ:Mu} {h:Heap} {w:World} {e:Env} {a:Act} {base:Nat}
theorem qH{op:Op}{ao:AOp}(hc:fT P op=some ao)(hn:∀f as,ao≠ .jv f as):∀c,op≠ .defer c:=by
 intro c hop;subst hop;unfold fT at hc;split at hc
 ·dsimp only at hc;split at hc
  ·cases hc;exact hn _ _ rfl
  ·cases hc
 ·cases hc
theorem gN{nt:Nat}{ops:Array Oper}{o:Oper}{os:List Oper}{ao:bg}{as:List bg}(hc:bY P nt ops (o::os)=some (ao::as)):
 j4 nt o.dst=true/\ao.dst=o.dst/\fT P o.op=some ao.op/\bY P nt ops os=some as∧
 ∀{e:Env} {μ:Mu} {t:Array Value} {b:Bool},(∀s b0,ao.guard=some (s,b0)->∀v,geT e s=some v->∃v',t[s]? =some v'∧VR μ v v')->bX e ao.guard=some b->Region.wanted o (yielded ops t)=b:=by
 simp only[bY]at hc;split at hc
 ·rename_i hd;split at hc
  ·rename_i a2 as2 h1 h2;split at hc
   ·rename_i hg;cases hc;refine⟨hd,rfl,h1,h2,λ{e μ t b} _ hw=> ?_⟩;cases hw;simp[Region.wanted,hg]
   ·rename_i j b0 hg;split at hc
    ·rename_i s hs;cases hc;refine⟨hd,rfl,h1,h2,λ{e μ t b} hE hw=> ?_⟩;simp only[bX]at hw;simp only[Region.wanted,hg,yielded,hs,Option.bind_some];split at hw
     ·rename_i x hx;cases hw;obtain⟨v',q1,q2⟩:=hE s b0 rfl _ hx;cases q2;simp[q1]
     ·rename_i v hv hx;cases hw;obtain⟨v',q1,q2⟩:=hE s b0 rfl _ hx;simp only[q1];cases q2<;>first|rfl|exact(hv _ rfl).elim
     ·cases hw
    ·cases hc
  ·cases hc
 ·cases hc
theorem mV{nt:Nat}{ops:Array Oper}{o:Oper}{os:List Oper}{ao:bg}{as:List bg}(hc:bY P nt ops (o::os)=some (ao::as))(hE:cm μ e a.tmps){b:Bool}(hw:bX e ao.guard=some b):
 Region.wanted o (yielded ops a.tmps)=b:=(gN hc).2.2.2.2 (λs _ _ v hv=>hE s v hv) hw
theorem AX{i n:Nat}(h:i<n):List.range' i (n-i)=i::List.range' (i+1) (n-(i+1)):=by
 rw[show n-i=(n-(i+1))+1 by omega,List.range'_succ]
theorem vW{ops:Array Oper}{i:Nat}{o:Oper}{os:List Oper}(h:ops.toList.drop i=o::os):i<ops.size/\ops[i]? =some o/\ops.toList.drop (i+1)=os:=by
 have hlt:i<ops.toList.length:=by
  apply Classical.byContradiction;intro hn;rw[List.drop_eq_nil_of_le (by omega)]at h;cases h
 rw[List.drop_eq_getElem_cons hlt]at h;injection h with h1 h2
 refine⟨by simpa using hlt,?_,h2⟩;have:ops.toList[i]? =some o:=by rw[List.getElem?_eq_getElem hlt,h1]
 simpa using this
theorem ve{μ:Mu}{h:Heap}{w:World}{a:Act}{base:Nat}{rd:Option Nat}{o:Oper}{r:Result Next}{v:Value}{h':Heap}(hr:Ran P μ h w base r v h'){next:Act->World->Prop}{Q:Exit->Act->World->Prop}
 (hn:∀μ' v' w',VR μ' v v'→R P μ' h' w'→St μ h w μ' h' w'→next (a.put o.dst v') w'):o.uponIn (Fw rd) 0 P a next Q r:=by
 obtain⟨μ',v',w',hq,h1,h2,h3,_⟩:=hr;rcases hq with rfl|⟨rfl,rfl⟩
 ·exact hn _ _ _ h1 h2 h3
 ·exact hn _ _ _ h1 h2 h3
theorem Bg{F:Fence}{n:Nat}{o:Oper}{a:Act}{K K':Act->World->Prop}{Q Q':Exit->Act->World->Prop}(hk:∀a w,K a w->K' a w)(hq:∀e a w,Q e a w->Q' e a w){r:Result Next}(hh:o.uponIn F n P a K Q r):
 o.uponIn F n P a K' Q' r:=by
 have hl:LetsOut Q->LetsOut Q':=λ⟨a,w,h⟩=>⟨a,w,hq _ _ _ h⟩;cases r with
 |ok x w'=>
  cases x<;>simp only[Oper.uponIn]at hh⊢ <;>
   first
    |exact hk _ _ hh
    |exact⟨hh.1,CallsIn.mono hh.2 (λe w'' he=>by cases e<;>first|exact hk _ _ he|exact hq _ _ _ he|exact hl he)⟩
    |exact⟨hh.1,RowsIn.mono hh.2 (λ_ _ he=>hk _ _ he)⟩
    |exact⟨hh.1,RoundIn.mono hh.2 (λe w'' he=>by cases e<;>first|exact hk _ _ he|exact hq _ _ _ he|exact hl he)⟩
 |halt x w'=>cases x<;>simp only[Oper.uponIn]at hh⊢ <;>first|exact hh|exact hq _ _ _ hh
theorem fK{F:Fence}{n:Nat}{ops:Array Oper}{Q Q':Exit->Act->World->Prop}(hq:∀e a w,Q e a w->Q' e a w):∀(l:List Nat) (a:Act) (w:World),wpOpsIn F n P ops Q l a w->wpOpsIn F n P ops Q' l a w
 |[],_,_,h=>hq _ _ _ h
 |i::l,a,w,h=>by
  simp only[wpOpsIn]at h⊢;split at h
  ·exact fK hq l _ _ h
  ·rename_i o ho;split at h
   ·rename_i hw;rw[if_pos hw];exact⟨h.1,Bg (λa w=>fK hq l a w) hq h.2⟩
   ·rename_i hw;rw[if_neg hw];exact⟨h.1,fK hq l _ _ h.2⟩
theorem fM{rd:Option Nat}{f:FuncId}:(Fw rd).fn f:=trivial
theorem sL.succ(hT:ew P T){n:Nat}(hO:sL P T n)(hC:oE P T n):sL P T (n+1):=by
 intro base rnd as e ds h x e' ds' h' h1 hb ops i m nt μ w a rd lo hi hc hnt hR hE hD hrd hlo;cases m with
 |zero=>
  simp only[List.take_zero,bY]at hc;cases hc;simp only[gh]at h1;cases h1;exact⟨μ,trivial,hR, .refl _ _ _,hE,hD,rfl⟩
 |succ m=>
  cases hdr:ops.toList.drop i with
  |nil=>
   have:=List.drop_eq_nil_iff.1 hdr;simp at this;omega
  |cons o os=>
   cases as with
   |nil=>
    rw[hdr]at hc;simp only[List.take_succ_cons,bY]at hc;repeat' split at hc
    all_goals cases hc
   |cons ao as=>
    rw[hdr,List.take_succ_cons]at hc;obtain⟨hlt,hget,hdr'⟩:=vW hdr;obtain⟨c1,c2,c3,c4,_⟩:=gN hc;rw[List.range'_succ];simp only[gh]at h1;simp only[wpOpsIn,hget];rw[←hdr']at c4
    have go:∀{μ1:Mu} {h2:Heap} {w1:World} {a1:Act} {e1:Env} {ds1:Dfs},gh T n base rnd as e1 ds1 h2=some (x,e',ds',h')->base<=h2.next->h.next<=h2.next->a1.tmps.size=a.tmps.size->R P μ1 h2 w1->St μ h w μ1 h2 w1→
     cm μ1 e1 a1.tmps->DR μ1 h2 w1 lo ds1 a1.defers->wpOpsIn (Fw rd) 0 P ops (Post P μ h w lo a.tmps.size x e' ds' h') (List.range' (i+1) m) a1 w1:=by
     intro μ1 h2 w1 a1 e1 ds1 k1 k2 k3 k4 k5 k6 k7 k8;have hm:=k6.mono hR;have:=hO _ _ _ _ _ _ _ _ _ _ k1 k2 ops (i+1) m nt μ1 w1 a1 rd lo (by omega) c4 (by omega) k5 k7 k8 (hrd.mono hm) (Nat.le_trans hlo k6.le);rw[k4]at this;have mo:∀(l:List Nat) (a1:Act) (w1:World),wpOpsIn (Fw rd) 0 P ops (Post P μ1 h2 w1 lo a.tmps.size x e' ds' h') l a1 w1->True:=λ_ _ _ _=>trivial;clear mo;exact fK (λ_ _ _ hp=>hp.trans k6 k3) _ _ _ this
    split at h1
    ·rename_i hw;rw[mV hc hE hw];simp only[Bool.false_eq_true,if_false];refine⟨λ_ _=>fM,?_⟩;refine go h1 hb (Nat.le_refl _) (dy _ _ _) hR (.refl _ _ _) ?_ ?_
     ·rw[c2];exact hE.put c1 hnt (VR.cT (v:=undef) rfl).1
     ·rw[put_defers];exact hD
    ·rename_i hw;rw[mV hc hE hw];simp only[if_true];refine⟨λ_ _=>fM,?_⟩;split at h1
     ·rename_i v h2 hq;rw[Oper.semAt_eq _ _ _ (qH c3 λf as' hf=>by rw[hf]at hq;simp only[aop]at hq;repeat' split at hq;all_goals cases hq)];have hA:=nr hq;refine ve (Du hR hE c3 hq) λμ' v' w' k1 k2 k3=> ?_;have hm:=k3.mono hR;refine go h1 (Nat.le_trans hb hA.next) hA.next (dy _ _ _) k2 k3 ?_ ?_
      ·rw[c2];exact(hE.mono hm).put c1 hnt k1
      ·rw[put_defers];exact hD.step k3 hm
     ·rename_i fn args h2 hq;obtain⟨rfl,nd,args',ha,hcase⟩:=yz hR hE c3 hq;rw[Oper.semAt_eq _ _ _ nd];have hRl:R P μ ({h2 with log:=[]}:Heap) w:=hR.congr rfl rfl;have key:∀res hh,fN T n fn args {h2 with log:=[]}=some (res,hh)->nh P (gQ P μ ({h2 with log:=[]}:Heap) w res hh) ((execOp a.eval o).run P w):=λres hh hcall=>by
       obtain⟨g1,g2⟩:=hC _ _ _ _ _ hcall rfl μ w args' hRl ha;rcases hcase with⟨g,e1,e2⟩|⟨l,k,e1,e2,e3⟩
       ·rw[e2];exact g1 g e1
       ·rw[e3];exact g2 l k e1 e2
      split at h1
      ·rename_i v hh hcall;have hA:=(eS.all hT.aV n).iX _ _ _ _ _ hcall rfl;have hn:h2.next<=hh.next:=hA.next
       refine iL (key _ _ hcall) (λv' w' hq=> ?_) (λch w' hq=> ?_) (λw' hq=> ?_)
       ·obtain⟨μ',k1,k2,k3⟩:=hq;have k3:St μ h2 w μ' hh w':=k3.nK rfl rfl;have hm:=k3.mono hR;refine go h1 (Nat.le_trans hb hn) hn (dy _ _ _) (k2.congr rfl rfl) (k3.iu rfl) ?_ ?_
        ·rw[c2];exact(hE.mono hm).put c1 hnt k1
        ·rw[put_defers];exact hD.step (k3.iu rfl) hm
       ·obtain⟨μ',k1,_⟩:=hq;exact k1.elim
       ·obtain⟨μ',k1,_⟩:=hq;exact k1.elim
      ·rename_i v hh hcall;cases h1;refine iL (key _ _ hcall) (λv' w' hq=> ?_) (λch w' hq=> ?_) (λw' hq=> ?_)
       ·obtain⟨μ',k1,_⟩:=hq;exact k1.elim
       ·obtain⟨μ',k1,k2,k3⟩:=hq;have k3:St μ h2 w μ' hh w':=k3.nK rfl rfl;have hm:=k3.mono hR;exact⟨μ',k1,k2.congr rfl rfl,k3.iu rfl,hE.mono hm,hD.step (k3.iu rfl) hm,rfl⟩
       ·obtain⟨μ',k1,_⟩:=hq;exact k1.elim
      ·cases h1
     ·rename_i f args hq;split at h1
      ·cases h1
      ·have:rd=none:=hrd;subst this;obtain⟨g,first,cap,first',cap',args',rfl,l1,l2,l3,hrun⟩:=K0 hR hE c3 hq;have:(Fw none).round=none:=rfl;rw[this,Oper.semAt_none,hrun];refine go h1 hb (Nat.le_refl _) (by rw[dy]) hR (.refl _ _ _) ?_ ?_
       ·rw[c2];exact cm.put (a:={a with defers:=_::a.defers}) hE c1 hnt (VR.cT (v:=undef) rfl).1
       ·rw[put_defers];exact .cons l1 l2 l3 hD
     ·rename_i v h2 hq;obtain⟨rfl,v',k1,hrun⟩:=Iu hR hE c3 hq;cases h1;rw[Oper.semAt_eq _ _ _ (qH c3 λf as' hf=>by rw[hf]at hq;simp only[aop]at hq;repeat' split at hq;all_goals cases hq),hrun];exact⟨μ,⟨v',rfl,k1⟩,hR, .refl _ _ _,hE,hD,rfl⟩
     ·cases h1
    ·cases h1
theorem CC{F:Fence}{n:Nat}{c:Code}{Q:Exit->Act->World->Prop}{a:Act}{w:World}(h:c.wpIn F n P (Exit.noGoto Q) a w):(Code.scope c).wpIn F n P Q a w:=by
 intro b k cs hro hb hr;have st1:step P (lone (b.atR a (.code (.scope c)::k)) cs w)= .next (lone (b.atR a (.code c:: .inScope c::k)) cs w):=step_lone_go (by simp[stepG,stepG.exec,Frame.atR])
 have st2:∀(a:Act) (w:World),step P (lone (b.atR a (.inScope c::k)) cs w)= .next (lone (b.atR a k) cs w):=λa w=>step_lone_go (by simp[stepG,stepG.exec,Frame.atR])
 have h0:(lone (b.atR a (.code (.scope c)::k)) cs w).fenced P F:=fenced_calm hb hr rfl;obtain⟨e,a₁,w₁,hq,harr⟩:=h b (.inScope c::k) cs hro hb hr;cases e with
 |normal=>exact⟨.normal,a₁,w₁,hq, .head h0 st1 (StepsIn.trans harr (.one (fenced_calm hb hr rfl) (st2 _ _)))⟩
 |exit id'=>
  have hx:exitTo id' (.inScope c::k)=exitTo id' k:=by simp[exitTo]
  exact⟨.exit id',a₁,w₁,hq,λk' hk=> .head h0 st1 (harr.1 k' (by rw[hx];exact hk)),
   λhr' hk=>let⟨k₁,h1,h2⟩:=harr.2 hr' (by rw[hx];exact hk);⟨k₁,h1, .head h0 st1 h2⟩⟩
 |goto l=>exact hq.elim
 |ret=>exact⟨_,a₁,w₁,hq, .of_steps (.one h0 st1) harr⟩
 |panic ch=>exact⟨_,a₁,w₁,hq, .of_steps (.one h0 st1) harr⟩
 |outgrown=>exact⟨_,a₁,w₁,hq, .of_steps (.one h0 st1) harr⟩
theorem fP.inv{nt:Nat}{c:Code}{ac:aQ}(h:fP P nt c ac):
 match ac with
 | .skip=>c= .skip∨∃l,c= .label l
 | .region as _=>∃id ops,c= .region id ops false/\bY P nt ops ops.toList=some as
 | .draw as ord bf _=>∃id ops,c= .region id ops true/\bY P nt ops ops.toList=some as/\uj as ops.toList ord bf=true
 | .seq a b=>∃x y,c= .seq x y/\fP P nt x a/\fP P nt y b
 | .cond o a b=>∃x y,c= .cond o x y/\aC P o=true/\fP P nt x a/\fP P nt y b
 | .block id b=>∃x,c= .block id x/\fP P nt x b
 | .loop b=>∃x,c= .loop x/\fP P nt x b
 | .scope b=>∃x,c= .scope x/\fP P nt x b
 | .rangeFunc f ps a b=>∃pa x y,c= .rangeFunc f pa x y/\pa.toList=ps/\aC P f=true/\(∀t∈ps,t<nt)/\fP P nt x a/\fP P nt y b
 | .rangeMap ops0 it ox keep out nxt pr ops2 k2 body=>∃y z ops nx mo k keep1,c= .seq y z/\fP P nt y (.region ops keep1)/\vr ops=some (ops0,⟨some it, .lU ox,none⟩)∧
  fP P nt z (.block out (.loop (.seq (.region [⟨some nx, .next (.tmp it) false,none⟩,⟨some mo, .extract (.tmp nx) 0,none⟩] k) (.seq (.cond (.tmp mo) .skip (.exit out)) (.block nxt (.seq (.region (⟨some pr, .entry (.tmp it),none⟩::ops2) k2) body))))))∧
  nx≠mo/\it≠nx/\it≠mo/\(∀t∈keep,t≠it/\t≠nx/\t≠mo)
 | .exit id=>c= .exit id
 | .ret=>c= .ret:=by
 obtain⟨ks,ks',h⟩:=h;cases c<;>simp only[comp]at h<;>(try (cases h;done))
 case skip=>cases h;exact .inl rfl
 case label l=>cases h;exact .inr ⟨l,rfl⟩
 case scope b=>
  split at h
  ·cases h;exact⟨_,rfl,⟨_,_,by assumption⟩⟩
  ·cases h
 case exit=>cases h;rfl
 case ret=>cases h;rfl
 case region id ops d hold=>
  split at h
  ·split at h
   ·rename_i hd;split at h
    ·rename_i hk;cases h;exact⟨id,ops,by rw[hd],by assumption,hk⟩
    ·cases h
   ·rename_i hd;cases h;exact⟨id,ops,by simp[hd],by assumption⟩
  ·cases h
 case seq a b=>
  split at h
  ·rename_i a' ks1 hca;split at h
   ·rename_i b' ks2 hcb;injection h with h
    injection h with h h'
    unfold Qr at h;split at h
    ·rename_i c' hf;subst h;unfold fuse? at hf;split at hf
     ·unfold MP at hf;split at hf
      ·split at hf
       ·rename_i hu hc;obtain⟨rfl,rfl,rfl,rfl,rfl,g1,g2,g3⟩:=hc;cases hf;refine⟨_,_,_,_,_,_,_,rfl,⟨_,_,hca⟩,hu,⟨_,_,hcb⟩,g1,g2,g3,λt ht=> ?_⟩;have:=(List.mem_filter.1 ht).2;simp only[beq_eq,Bool.not_eq_true',Bool.or_eq_false_iff,decide_eq_false_iff_not]at this;exact⟨this.1.1,this.1.2,this.2⟩
       ·cases hf
      ·cases hf
     ·cases hf
    ·subst h;exact⟨_,_,rfl,⟨_,_,hca⟩,⟨_,_,hcb⟩⟩
   ·cases h
  ·cases h
 case cond o a b=>
  split at h
  ·split at h
   ·split at h
    ·cases h;exact⟨_,_,rfl,by assumption,⟨_,_,by assumption⟩,⟨_,_,by assumption⟩⟩
    ·cases h
   ·cases h
  ·cases h
 case block id b=>
  split at h
  ·cases h;exact⟨_,rfl,⟨_,_,by assumption⟩⟩
  ·cases h
 case loop b=>
  split at h
  ·cases h;exact⟨_,rfl,⟨_,_,by assumption⟩⟩
  ·cases h
 case rangeFunc f ps a b=>
  split at h
  ·rename_i hc;simp only[Bool.and_eq_true,List.all_eq_true,Nat.blt_eq]at hc;split at h
   ·split at h
    ·cases h;exact⟨ps,_,_,rfl,rfl,hc.1,hc.2,⟨_,_,by assumption⟩,⟨_,_,by assumption⟩⟩
    ·cases h
   ·cases h
  ·cases h
def rK(P:Program)(T:Nat->Option af)(n:Nat):Prop:=∀base rnd ab e ds h x e' ds' h',ct T n base rnd (.loop ab) e ds h=some (x,e',ds',h')->base<=h.next→
 ∀c nt μ w (a:Act) rd lo,fP P nt c ab->nt<=a.tmps.size->R P μ h w->cm μ e a.tmps->DR μ h w lo ds a.defers->RdR μ rnd rd->lo<=w.heap.size→
  c.roundsIn (Fw rd) 0 P (Post P μ h w lo a.tmps.size x e' ds' h') n a w
theorem Post.map{μ:Mu}{h:Heap}{w:World}{lo sz:Nat}{e':Env}{ds':Dfs}{h':Heap}(keep:List Nat){ex:Exit}{a':Act}{w':World}(hp:Post P μ h w lo sz .normal e' ds' h' ex a' w'):Post P μ h w lo sz .normal (cE e' keep) ds' h' ex a' w':=by
 obtain⟨μ',q1,q2,q3,q4,q5⟩:=hp;exact⟨μ',q1,q2,q3,q4.keep keep,q5⟩
theorem Post.normal{μ:Mu}{h:Heap}{w:World}{lo sz:Nat}{x:br}{e':Env}{ds':Dfs}{h':Heap}{a':Act}{w':World}(hp:Post P μ h w lo sz x e' ds' h' .normal a' w'):x= .normal:=by
 obtain⟨μ',q1,_⟩:=hp;cases x<;>first|rfl|exact q1.elim
variable {μ:Mu} {h:Heap} {w:World} {e:Env} {a:Act} {base:Nat}
theorem dX{F:Fence}{n:Nat}{c:Code}{Q Q':Exit->Act->World->Prop}(hq:∀e a w,Q e a w->Q' e a w)(h:c.wpIn F n P Q a w):c.wpIn F n P Q' a w:=Go.wpIn_mono h hq
theorem pn{F:Fence}{n:Nat}{c:Code}{Q Q':Exit->Act->World->Prop}(hq:∀e a w,Q e a w->Q' e a w):∀(m:Nat) (a:Act) (w:World),c.roundsIn F n P Q m a w->c.roundsIn F n P Q' m a w
 |0,_,_,h=>h
 |m+1,a,w,h=>dX (λe a w q=>by cases e<;>first|exact pn hq m _ _ q|exact hq _ _ _ q) h
theorem rK.succ(hT:ew P T){n:Nat}(hE:lM P T n)(hL:rK P T n):rK P T (n+1):=by
 intro base rnd ab e ds h x e' ds' h' h1 hb c nt μ w a rd lo hc hnt hR hEn hD hrd hlo;simp only[ct]at h1;split at h1
 ·rename_i e1 ds1 h2 hq;have hA:=(eS.all hT.aV n).exec _ _ _ _ _ _ _ _ _ _ hq hb;have:=hE _ _ _ _ _ _ _ _ _ _ hq hb c nt μ w a rd lo hc hnt hR hEn hD hrd hlo;refine dX (λex a' w' hp=> ?_) this;cases ex with
  |normal=>
   obtain⟨μ',q1,q2,q3,q4,q5,q6⟩:=hp;have hm:=q3.mono hR;have:=hL _ _ _ _ _ _ _ _ _ _ h1 (Nat.le_trans hb hA.next) c nt μ' w' a' rd lo hc (by omega) q2 q4 q5 (hrd.mono hm) (Nat.le_trans hlo q3.le);rw[q6]at this;exact pn (λ_ _ _ hp=>hp.trans q3 hA.next) _ _ _ this
  |exit i=>obtain⟨μ',q1,_⟩:=hp;exact q1.elim
  |goto l=>obtain⟨μ',q1,_⟩:=hp;exact q1.elim
  |ret=>obtain⟨μ',q1,_⟩:=hp;exact q1.elim
  |panic ch=>obtain⟨μ',q1,_⟩:=hp;exact q1.elim
  |outgrown=>obtain⟨μ',q1,_⟩:=hp;exact q1.elim
 ·rename_i hne;have:=hE _ _ _ _ _ _ _ _ _ _ h1 hb c nt μ w a rd lo hc hnt hR hEn hD hrd hlo;refine dX (λex a' w' hp=> ?_) this;cases ex with
  |normal=>have:=hp.normal;subst this;exact(hne _ _ _ h1).elim
  |_=>exact hp
theorem lM.Rc(hT:ew P T){n:Nat}(hE:lM P T n)(hO:sL P T n)(hDr:Fz P T n)(hL:rK P T (n+1))
 (hRM:∀base rnd ops it ox keep out nxt pr ops2 k2 body e ds h x e' ds' h',ct T (n+1) base rnd (.rangeMap ops it ox keep out nxt pr ops2 k2 body) e ds h=some (x,e',ds',h')→base≤h.next→
   ∀c nt μ w (a:Act) rd lo,fP P nt c (.rangeMap ops it ox keep out nxt pr ops2 k2 body)->nt<=a.tmps.size->R P μ h w->cm μ e a.tmps->DR μ h w lo ds a.defers->RdR μ rnd rd->lo<=w.heap.size->c.wpIn (Fw rd) 0 P (Post P μ h w lo a.tmps.size x e' ds' h') a w)
 (hRF:∀base rnd f ps asg body e ds h x e' ds' h',ct T (n+1) base rnd (.rangeFunc f ps asg body) e ds h=some (x,e',ds',h')→base≤h.next→
   ∀c nt μ w (a:Act) rd lo,fP P nt c (.rangeFunc f ps asg body)->nt<=a.tmps.size->R P μ h w->cm μ e a.tmps->DR μ h w lo ds a.defers->RdR μ rnd rd->lo<=w.heap.size->c.wpIn (Fw rd) 0 P (Post P μ h w lo a.tmps.size x e' ds' h') a w):
 lM P T (n+1):=by
 intro base rnd ac e ds h x e' ds' h' h1 hb c nt μ w a rd lo hc hnt hR hEn hD hrd hlo;have hA:=eS.all hT.aV n;cases ac;case rangeFunc f ps asg body=>exact hRF _ _ _ _ _ _ _ _ _ _ _ _ _ h1 hb c nt μ w a rd lo hc hnt hR hEn hD hrd hlo
 case rangeMap ops it ox keep out nxt pr ops2 k2 body=>exact hRM _ _ _ _ _ _ _ _ _ _ _ _ _ _ _ _ _ _ _ h1 hb c nt μ w a rd lo hc hnt hR hEn hD hrd hlo
 case loop b=>
  obtain⟨y,rfl,hy⟩:=hc.inv;exact wpIn_loop_rounds _ (hL _ _ _ _ _ _ _ _ _ _ h1 hb y nt μ w a rd lo hy hnt hR hEn hD hrd hlo)
 case skip=>
  have hc':c= .skip∨∃l,c= .label l:=hc.inv;simp only[ct]at h1;cases h1;rcases hc' with rfl|⟨l,rfl⟩
  ·exact wpIn_skip ⟨μ,trivial,hR, .refl _ _ _,hEn,hD,rfl⟩
  ·exact wpIn_label ⟨μ,trivial,hR, .refl _ _ _,hEn,hD,rfl⟩
 case scope b=>
  obtain⟨y,rfl,hy⟩:=hc.inv;simp only[ct]at h1;refine CC (dX (λex a' w' hp=> ?_) (hE _ _ _ _ _ _ _ _ _ _ h1 hb y nt μ w a rd lo hy hnt hR hEn hD hrd hlo));cases ex with
  |goto l=>obtain⟨μ',q1,_⟩:=hp;cases x<;>exact q1.elim
  |_=>exact hp
 case exit i=>
  have:c= .exit i:=hc.inv;subst this;simp only[ct]at h1;cases h1;exact wpIn_exit ⟨μ,rfl,hR, .refl _ _ _,hEn,hD,rfl⟩
 case ret=>
  have:c= .ret:=hc.inv;subst this;simp only[ct]at h1;cases h1;exact wpIn_ret ⟨μ,trivial,hR, .refl _ _ _,hEn,hD,rfl⟩
 case region as keep=>
  obtain⟨id,ops,rfl,hcs⟩:=hc.inv;simp only[ct]at h1;refine wpIn_region ?_;have run:∀x e' ds' h',gh T n base rnd as e ds h=some (x,e',ds',h')->wpOpsIn (Fw rd) 0 P ops (Post P μ h w lo a.tmps.size x e' ds' h') (List.range ops.size) a w:=λx e' ds' h' hq=>by
   have:=hO _ _ _ _ _ _ _ _ _ _ hq hb ops 0 ops.size nt μ w a rd lo (by omega) (by rw[List.drop_zero,List.take_of_length_le (by simp)];exact hcs) hnt hR hEn hD hrd hlo;rw[←List.range_eq_range']at this;exact this
  split at h1
  ·rename_i hq;cases h1;exact fK (λ_ _ _ hp=>hp.map keep) _ _ _ (run _ _ _ _ hq)
  ·exact run _ _ _ _ h1
 case draw as ord bf keep=>
  obtain⟨id,ops,rfl,hcs,hok⟩:=hc.inv;simp only[ct]at h1;split at h1
  ·rename_i hq;cases h1;exact dX (λ_ _ _ hp=>hp.map keep) (hDr _ _ _ _ _ _ _ _ _ hq hb ops nt μ w a rd lo ds id hcs hok hnt hR hEn hD (.inr trivial) hlo)
  ·rename_i hq;cases h1;exact hDr _ _ _ _ _ _ _ _ _ hq hb ops nt μ w a rd lo ds id hcs hok hnt hR hEn hD (.inr trivial) hlo
  ·cases h1
 case seq p q=>
  obtain⟨y,z,rfl,hy,hz⟩:=hc.inv;simp only[ct]at h1;refine wpIn_seq ?_;split at h1
  ·rename_i e1 ds1 h2 hq;have hAn:=hA.exec _ _ _ _ _ _ _ _ _ _ hq hb;refine dX (λex a' w' hp=> ?_) (hE _ _ _ _ _ _ _ _ _ _ hq hb y nt μ w a rd lo hy hnt hR hEn hD hrd hlo);cases ex with
   |normal=>
    obtain⟨μ',q1,q2,q3,q4,q5,q6⟩:=hp;have hm:=q3.mono hR;have:=hE _ _ _ _ _ _ _ _ _ _ h1 (Nat.le_trans hb hAn.next) z nt μ' w' a' rd lo hz (by omega) q2 q4 q5 (hrd.mono hm) (Nat.le_trans hlo q3.le);rw[q6]at this;exact dX (λ_ _ _ hp=>hp.trans q3 hAn.next) this
   |exit i=>obtain⟨μ',q1,_⟩:=hp;exact q1.elim
   |goto l=>obtain⟨μ',q1,_⟩:=hp;exact q1.elim
   |ret=>obtain⟨μ',q1,_⟩:=hp;exact q1.elim
   |panic ch=>obtain⟨μ',q1,_⟩:=hp;exact q1.elim
   |outgrown=>obtain⟨μ',q1,_⟩:=hp;exact q1.elim
  ·rename_i hne;refine dX (λex a' w' hp=> ?_) (hE _ _ _ _ _ _ _ _ _ _ h1 hb y nt μ w a rd lo hy hnt hR hEn hD hrd hlo);cases ex with
   |normal=>have:=hp.normal;subst this;exact(hne _ _ _ h1).elim
   |_=>exact hp
 case cond o p q=>
  obtain⟨y,z,rfl,ho,hy,hz⟩:=hc.inv;simp only[ct]at h1;split at h1
  ·rename_i hq;have g:=bQ hR hEn ho hq;generalize hev:a.eval o=ov at g;cases g;exact wpIn_cond_true hev (hE _ _ _ _ _ _ _ _ _ _ h1 hb y nt μ w a rd lo hy hnt hR hEn hD hrd hlo)
  ·rename_i hq;have g:=bQ hR hEn ho hq;generalize hev:a.eval o=ov at g;cases g;exact wpIn_cond_false hev (hE _ _ _ _ _ _ _ _ _ _ h1 hb z nt μ w a rd lo hz hnt hR hEn hD hrd hlo)
  ·cases h1
 case block id b=>
  obtain⟨y,rfl,hy⟩:=hc.inv;simp only[ct]at h1;refine wpIn_block ?_;split at h1
  ·rename_i i e1 ds1 h2 hq;refine dX (λex a' w' hp=> ?_) (hE _ _ _ _ _ _ _ _ _ _ hq hb y nt μ w a rd lo hy hnt hR hEn hD hrd hlo);obtain⟨μ',q1,q2⟩:=hp;cases ex<;>first|exact q1.elim|skip
   rename_i j;have hij:i=j:=q1;subst hij;simp only[cond_eq_ite,beq_eq,decide_eq_true_eq]at h1;simp only[Exit.inBlock];split at h1
   ·rename_i hi;cases h1;rw[if_pos hi];exact⟨μ',trivial,q2⟩
   ·rename_i hi;cases h1;rw[if_neg hi];exact⟨μ',rfl,q2⟩
  ·rename_i hne;refine dX (λex a' w' hp=> ?_) (hE _ _ _ _ _ _ _ _ _ _ h1 hb y nt μ w a rd lo hy hnt hR hEn hD hrd hlo);cases ex with
   |exit i=>
    obtain⟨μ',q1,q2⟩:=hp;cases x<;>first|exact q1.elim|skip
    exact(hne _ _ _ _ h1).elim
   |_=>exact hp
end Go.A
end
section
namespace Go.A
variable {P:Program} {T:Nat->Option af} {μ:Mu} {h:Heap} {w:World} {e:Env} {a:Act} {base:Nat}
theorem R.GZ(hR:R P μ h w){w':World}{obj:Obj}(hw:w'.heap=w.heap.push obj)(hsm:Same w w':=by exact⟨rfl,rfl,rfl,by first|exact Nat.le_refl _|exact Nat.le_add_right _ _⟩):R P μ h w'∧St μ h w μ h w':=by
 have hs:=size_push hw;refine⟨⟨hR.big,λg o h1 h2=>let⟨k,a,b,c,x⟩:=hR.j8 g o h1 h2;⟨k,a,b,c,x.get (eW hw _ (hR.dom _ _ a).2)⟩,λb o hb=>OR.mono (λ_ _ h=>h) rfl (λk hk=>eW hw _ (hR.dom _ _ hk).2) (hR.obj b o hb),hR.lt,λb k hb=>⟨(hR.dom b k hb).1,by have:=(hR.dom b k hb).2;omega⟩,hR.jP⟩,
  ⟨λ_ _=>rfl,by omega,λr hr _=>eW hw r hr,λ_ _ h=>h,λr L hl=>⟨L,(eW hw r (Array.getElem?_eq_some_iff.1 hl).1).trans hl, .refl L⟩,hsm⟩⟩
theorem run_getLoop{l:Nat}{L:Loop}(hl:w.heap[l]? =some (.loop L)):(Instr.getLoop l).run P w= .ok L w:=by
 simp only[Instr.getLoop,Sem.run_bind,fD hl (by simp),Result.andThen_ok,Sem.run_pure]
theorem Gy{nt lo:Nat}{rnd rd:Option Nat}{ds:Dfs}{ps:Array Tmp}{x y:Code}{asg body:aQ}(fn:FuncId)(hR:R P μ h w)(hE:cm μ e a.tmps)(hD:DR μ h w lo ds a.defers)(hrd:RdR μ rnd rd)(hra:og h rnd=true)(hlo:lo<=w.heap.size)
 (hnt:nt<=a.tmps.size)(hps:∀t∈ps.toList,t<nt)(hx:fP P nt x asg)(hy:fP P nt y body):
 ∃l mark w1,(Instr.enterLoop fn a.tmps ps x y rd).run P w= .ok (l,mark) w1/\R P (upd μ h.next ⟨l,0,0,0⟩) (h.push (.loop e ps.toList asg body 0 .normal)) w1∧
  St μ h w (upd μ h.next ⟨l,0,0,0⟩) (h.push (.loop e ps.toList asg body 0 .normal)) w1/\DR (upd μ h.next ⟨l,0,0,0⟩) (h.push (.loop e ps.toList asg body 0 .normal)) w1 lo ds (mark++a.defers):=by
 have alloc:∀(w0:World) (dblk:Nat),R P μ h w0->St μ h w μ h w0->∀(L:Loop),L={state:= .ready,pending:=none,fn,tmps:=a.tmps,params:=ps,assign:=x,body:=y,defers:=dblk}→
  R P (upd μ h.next ⟨w0.heap.size,0,0,0⟩) (h.push (.loop e ps.toList asg body 0 .normal)) {w0 with heap:=w0.heap.push (.loop L)}∧
  St μ h w (upd μ h.next ⟨w0.heap.size,0,0,0⟩) (h.push (.loop e ps.toList asg body 0 .normal)) {w0 with heap:=w0.heap.push (.loop L)}:=λw0 dblk hR0 hS0 L hL=>by
  obtain⟨q1,q2⟩:=hR0.alloc (w':={w0 with heap:=w0.heap.push (.loop L)}) (o:= .loop e ps.toList asg body 0 .normal) (k:=⟨w0.heap.size,0,0,0⟩) rfl rfl (λk hk=>by
   rw[dY]at hk;cases hk;refine⟨L,by simp,?_,by rw[hL],⟨nt,by rw[hL];exact hnt,hps,by rw[hL];exact hx,by rw[hL];exact hy⟩, .inl ⟨rfl,by rw[hL],by rw[hL],rfl⟩⟩;rw[hL];exact hE.mono λb k' hb=>by
    unfold upd;rw[if_neg];exact hb;intro e;subst e;exact Nat.lt_irrefl _ (hR0.dom _ _ hb).1)
  exact⟨q1,hS0.trans q2 (Nat.le_refl _)⟩
 cases rnd with
 |none=>
  have:rd=none:=hrd;subst this;obtain⟨j1,j2⟩:=hR.GZ (w':={w with heap:=w.heap.push (.deferred (some []))}) rfl;obtain⟨q1,q2⟩:=alloc _ w.heap.size j1 j2 _ rfl;refine⟨_,[{target:= .collected w.heap.size,args:= #[]}],_,?_,q1,q2,?_⟩
  ·simp only[Instr.enterLoop,Sem.run_bind,run_newObj,Result.andThen_ok,Sem.run_pure]
  ·refine .mark hlo (λr' as hm=>hD.marks r' as hm) ?_ ?_ (hD.step q2 (q2.mono hR))
   ·simp[Array.getElem?_push]
   ·intro ⟨b,o,k,g1,g2,g3,g4,g5⟩;unfold upd at g4;split at g4
    ·cases g4;simp at g5
    ·have:=(hR.dom b k g4).2;omega
 |some la=>
  obtain⟨k,hk,rfl⟩:=hrd;simp only[og]at hra;split at hra
  ·rename_i hg;obtain⟨L0,hL0,_⟩:=hR.obj la _ hg k hk;obtain⟨q1,q2⟩:=alloc w L0.defers hR (.refl _ _ _) _ rfl;refine⟨_,[],_,?_,q1,q2,hD.step q2 (q2.mono hR)⟩;simp only[Instr.enterLoop,Sem.run_bind,run_getLoop hL0,Result.andThen_ok,Sem.run_pure];simp only[run_newObj,Result.andThen_ok,Sem.run_pure,Sem.run_bind]
  ·cases hra
theorem jf(hT:ew P T){g:Nat}(hg:gT (T g)=false)(args:Array Value)(w:World):(callFunc g args).run P w= .ok (.enter g args) w:=by
 unfold gT at hg;split at hg
 ·rename_i c rs hc;obtain⟨fn,ks,h1,h2⟩:=hT.code g c rs hc;unfold aD at h2;split at h2
  ·rename_i body hb;split at h2
   ·cases h2
   ·rename_i hn;simp[callFunc,program,Sem.run,h1,hb,hn]
  ·cases h2
 ·cases hg
theorem Lt(hT:ew P T){n:Nat}(hC:rJ P T n):∀base rnd f ps asg body e ds h x e' ds' h',ct T (n+1) base rnd (.rangeFunc f ps asg body) e ds h=some (x,e',ds',h')->base<=h.next→
 ∀c nt μ w (a:Act) rd lo,fP P nt c (.rangeFunc f ps asg body)->nt<=a.tmps.size->R P μ h w->cm μ e a.tmps->DR μ h w lo ds a.defers->RdR μ rnd rd->lo<=w.heap.size->c.wpIn (Fw rd) 0 P (Post P μ h w lo a.tmps.size x e' ds' h') a w:=by
 intro base rnd f ps asg body e ds h x e' ds' h' h1 hb c nt μ w a rd lo hc hnt hR hE hD hrd hlo;obtain⟨pa,cx,cy,rfl,rfl,hf,hps,hx,hy⟩:=hc.inv;simp only[ct,cond_eq_ite]at h1;split at h1
 ·rename_i hra;split at h1
  ·rename_i g first cap hfv
   split at h1
   ·cases h1
   ·rename_i hnc;have hnc:gT (T g)=false:=by simpa using hnc
    have gf:=bQ hR hE hf hfv;generalize hev:a.eval f=fv' at gf;obtain⟨f',fa,fc,rfl,hfn,l1,l2⟩:=gf.nP;cases hfn;refine wpIn_rangeFunc (F:=Fw rd) λfn _=> ?_;obtain⟨l,mark,w1,hen,q1,q2,q3⟩:=Gy fn hR hE hD hrd hra hlo hnt hps hx hy;have hm:=q2.mono hR;let args':List Value:=fa.toList++([.func (.yield l) #[] #[]]++fc.toList);have hargs:LR (upd μ h.next ⟨l,0,0,0⟩) (dP first.toList (dP [.func (.yield h.next) #[] #[]] cap.toList)) args':=by
     rw[dQ,dQ];refine(l1.mono hm).append (.append (.cons ?_ .nil) (l2.mono hm));exact VR.GH (.yield (dY _ _ _)) .nil .nil
    have hq1:R P (upd μ h.next ⟨l,0,0,0⟩) ({h.push (.loop e pa.toList asg body 0 .normal)with log:=[]}:Heap) w1:=q1.congr rfl rfl;refine⟨l,mark,w1,{target:= .fn (.func g) fc,args:=fa++ #[.func (.yield l) #[] #[]]},w1,g,args'.toArray,w1,hen,?_,λ_ _=>fM,?_,λhq=>(by cases hq),?_⟩
    ·have hce:∀v:Value,a.eval (.const v)=v:=λ_=>rfl;simp[resolve,rangeCall,hev,Deferred.ofValue,hce]
    ·have:(fa++ #[.func (.yield l) #[] #[]])++fc=args'.toArray:=by apply dO;simp[args']
     simp only[invoke,this];exact jf hT hnc _ _
    ·have key:∀res hh,iV T n g (dP first.toList (dP [.func (.yield h.next) #[] #[]] cap.toList)) {h.push (.loop e pa.toList asg body 0 .normal)with log:=[]}=some (res,hh)→
      CallsIn Fence.wide 0 P g args'.toArray w1 (gQ P (upd μ h.next ⟨l,0,0,0⟩) ({h.push (.loop e pa.toList asg body 0 .normal)with log:=[]}:Heap) w1 res hh):=λres hh hq=>by
      have:=hC _ _ _ _ _ hq rfl _ _ _ hq1 hargs;rw[jf hT hnc]at this;exact this
     split at h1
     ·rename_i v h2 hcall;have hA:=(eS.all hT.aV n).call _ _ _ _ _ hcall rfl;have hn2:h.next+1<=h2.next:=hA.next
      refine CallsIn.mono (F:=Fw rd) (key _ _ hcall) λen w3 hp=> ?_;obtain⟨μ',k1,k2,k3⟩:=hp;cases en with
      |outgrown=>exact k1.elim
      |panicked ch=>exact k1.elim
      |returned v'=>
       have k3:St (upd μ h.next ⟨l,0,0,0⟩) (h.push (.loop e pa.toList asg body 0 .normal)) w1 μ' h2 w3:=k3.nK rfl rfl;have hS:St μ h w μ' h2 w3:=q2.trans k3 (Nat.le_succ _);split at h1
       ·rename_i le lps la lb st ic hg2;split at h1
        ·cases h1
        ·rename_i hst;have hst:st≠1:=by simpa[beq_eq]using hst
         cases h1;have hμ:μ' h.next=some ⟨l,0,0,0⟩:=by
          rw[k3.ext h.next (Nat.lt_succ_self _)];exact dY _ _ _
         obtain⟨L,hL,_,_,_,hstr⟩:=k2.obj h.next _ hg2 _ hμ
         have hlt:l<w3.heap.size:=(k2.dom _ _ hμ).2
         obtain⟨r1,r2⟩:=k2.write (base:=base) (o':= .dead) (w':={w3 with heap:=w3.heap.setIfInBounds l (.loop {L with state:= .exhausted})}) hg2 rfl rfl hμ (by simp)
          (fun r' hr'=>by simp[Array.getElem?_setIfInBounds,Ne.symm hr']) ⟨fun c el fz hc=>(by rw[hL]at hc;cases hc),fun L' hl'=>(by
            rw[hL]at hl';cases hl';exact⟨{L with state:= .exhausted},by simp[Array.getElem?_setIfInBounds,hlt],⟨rfl,rfl,rfl,rfl,rfl,rfl⟩⟩)⟩ trivial
         have hbusy:L.state≠ .busy:=by
          rcases hstr with⟨_,q,_⟩|⟨q,_⟩|⟨_,q,_⟩
          ·rw[q];simp
          ·exact(hst q).elim
          ·rw[q];simp
         have hend:(Instr.endLoop l).run P w3= .ok L.pending {w3 with heap:=w3.heap.setIfInBounds l (.loop {L with state:= .exhausted})}:=by
          have hb2:(L.state==LoopState.busy)=false:=by
           cases hs:L.state<;>first|rfl|exact(hbusy hs).elim
          simp only[Instr.endLoop,Sem.run_bind,run_getLoop hL,Result.andThen_ok,hb2,Bool.false_eq_true,if_false];simp[setObj,Sem.run,hL]
         have hSf:St μ h w μ' (Heap.wr {h2 with log:=aF base h.log h2.log} base h.next .dead) {w3 with heap:=w3.heap.setIfInBounds l (.loop {L with state:= .exhausted})}:=by
          refine St.iu (h1:=h2.wr base h.next .dead) ?_ rfl;exact hS.trans r2 (by omega)
         have hmf:=hSf.mono hR;have hD3:DR μ' (Heap.wr {h2 with log:=aF base h.log h2.log} base h.next .dead) {w3 with heap:=w3.heap.setIfInBounds l (.loop {L with state:= .exhausted})} lo ds (mark++a.defers):=by
          have d1:=q3.step k3 (k3.mono q1);have d2:=d1.step r2 (r2.mono k2);exact d2.step (St.iu (h1:=h2.wr base h.next .dead) (.refl _ _ _) rfl) (λ_ _ h=>h)
         have post:∀ex,XR μ' x ex->Post P μ h w lo a.tmps.size x e ds (Heap.wr {h2 with log:=aF base h.log h2.log} base h.next .dead) ex {a with defers:=mark++a.defers} {w3 with heap:=w3.heap.setIfInBounds l (.loop {L with state:= .exhausted})}:=
          λex hx=>⟨μ',hx,r1.congr rfl rfl,hSf,hE.mono hmf,hD3,rfl⟩
         revert post hend;generalize({w3 with heap:=w3.heap.setIfInBounds l (.loop {L with state:= .exhausted})}:World)=W;intro hend post;refine⟨L.pending,W,hend,?_⟩;rcases hstr with⟨_,_,q,q'⟩|⟨q,_⟩|⟨_,_,q⟩
         ·rw[q];subst q';exact post .normal trivial
         ·exact(hst q).elim
         ·cases x with
          |normal=>rw[show L.pending=none from q];exact post .normal trivial
          |exit i=>rw[show L.pending=some (.exit i)from q];exact wpIn_exit (post (.exit i) rfl)
          |ret=>rw[show L.pending=some .ret from q];exact wpIn_ret (post .ret trivial)
          |panic v=>exact q.elim
       ·cases h1
     ·rename_i v h2 hcall;cases h1;refine CallsIn.mono (F:=Fw rd) (key _ _ hcall) λen w3 hp=> ?_;obtain⟨μ',k1,k2,k3⟩:=hp;cases en with
      |outgrown=>exact k1.elim
      |returned v'=>exact k1.elim
      |panicked ch=>
       have k3:St (upd μ h.next ⟨l,0,0,0⟩) (h.push (.loop e pa.toList asg body 0 .normal)) w1 μ' h2 w3:=k3.nK rfl rfl;have hS:St μ h w μ' h2 w3:=q2.trans k3 (Nat.le_succ _);exact⟨μ',k1,k2.congr rfl rfl,hS.iu rfl,hE.mono (hS.mono hR),(q3.step k3 (k3.mono q1)).step (St.iu (h1:=h2) (.refl _ _ _) rfl) (λ_ _ h=>h),rfl⟩
     ·cases h1
  ·cases h1
 ·cases h1
theorem EX{h2 h3:Heap}{l:Nat}{ps:List Nat}{asg body:aQ}(hg:h.get l=some (.loop e ps asg body 0 .normal))(q1:AS h.next h h2)
 (q2:AS h.next {h2 with b8:=iA h2.b8 l (.loop e ps asg body 1 .normal)} h3)(hs:(h3.get l).isSome):AS h.next h {h3 with b8:=iA h3.b8 l (.loop e ps asg body 0 .normal)}:=by
 have q1n:=q1.next
 have q2n:h2.next<=h3.next:=q2.next
 refine⟨Nat.le_trans q1n q2n,?_,λb hb hq=>q2.mono b hb (q1.mono b hb hq),λb hb hn hq=> ?_⟩
 ·show(iA h3.b8 l _).map (·.1)=_;rw[kC,q2.keys];show _++(iA h2.b8 l _).map (·.1)=_;rw[kC,q1.keys,←List.append_assoc];show cW h2.next (h3.next-h2.next)++_++_=cW h.next (h3.next-h.next)++_
  have e1:h3.next-h.next=(h2.next-h.next)+(h3.next-h2.next):=by omega
  rw[e1,mI,show h.next+(h2.next-h.next)=h2.next by omega]
 ·have h2l:fB h2.log b=false:=by
   cases e:fB h2.log b with
   |false=>rfl
   |true=>rw[q2.mono b hb e]at hq;cases hq
  rw[nQ];split
  ·rename_i e;subst e;obtain⟨o,ho⟩:=Option.isSome_iff_exists.1 hs;rw[ho,hg];rfl
  ·rename_i e;have:=q2.same b hb (Nat.lt_of_lt_of_le hn q1n) hq;rw[nQ,if_neg e]at this;rw[this];exact q1.same b hb hn h2l
theorem rj{nt:Nat}:∀{ps:List Nat} {args args':List Value} {e e1:Env} {t:Array Value},iS e ps args=some e1->cm μ e t->LR μ args args'→nt<=t.size->(∀p∈ps,p<nt)→
 args'.length=ps.length/\cm μ e1 ((ps.zip args').foldl (λtmps (p:Nat×Value)=>tmps.setIfInBounds p.1 p.2) t)/\((ps.zip args').foldl (λtmps (p:Nat×Value)=>tmps.setIfInBounds p.1 p.2) t).size=t.size
 |[],[],args',e,e1,t,hs,hE,hl,_,_=>by cases hs;cases hl;exact⟨rfl,hE,rfl⟩
 |[],_::_,_,_,_,_,hs,_,_,_,_=>by cases hs
 |_::_,[],_,_,_,_,hs,_,_,_,_=>by cases hs
 |p::ps,v::vs,args',e,e1,t,hs,hE,hl,hnt,hps=>by
  cases hl with
  |cons h1 h2=>
   rename_i v' vs';simp only[iS]at hs;have hE':cm μ ((p,v)::e) (t.setIfInBounds p v'):=by
    have:=cm.put (a:=⟨t,[]⟩) (dst:=some p) (nt:=nt) hE (by simp[j4,Nat.blt_eq];exact hps p (by simp)) hnt h1;exact this
   obtain⟨q1,q2,q3⟩:=rj (t:=t.setIfInBounds p v') hs hE' h2 (by simpa using hnt) (λx hx=>hps x (by simp[hx]));exact⟨by simp[q1],by simpa using q2,by simpa using q3⟩
theorem R.xg(hR:R P μ h w){l:Nat}{k:Blk}{L L0:Loop}{e0:Env}{ps0:List Nat}{a0 b0:aQ}{st0:Nat}{pd0:br}{ps:List Nat}{asg body:aQ}{st:Nat}{ic:br}{nt:Nat}(hg:h.get l=some (.loop e0 ps0 a0 b0 st0 pd0))(hk:μ l=some k)
 (hL:w.heap[k.r]? =some (.loop L))(hL0:gF L L0)(hE:cm μ e L.tmps)(hp:L.params.toList=ps)(hnt:nt<=L.tmps.size)(hps:∀t∈ps,t<nt)(hca:fP P nt L.assign asg)(hcb:fP P nt L.body body)(hst:StR st ic L0):
 (setObj k.r (.loop L0)).run P w= .ok () {w with heap:=w.heap.setIfInBounds k.r (.loop L0)}∧
 R P μ ({h with b8:=iA h.b8 l (.loop e ps asg body st ic)}:Heap) {w with heap:=w.heap.setIfInBounds k.r (.loop L0)}∧
 St μ h w μ ({h with b8:=iA h.b8 l (.loop e ps asg body st ic)}:Heap) {w with heap:=w.heap.setIfInBounds k.r (.loop L0)}:=by
 have hlt:k.r<w.heap.size:=(hR.dom _ _ hk).2
 obtain⟨r1,r2⟩:=hR.write (base:=0) (o':= .loop e ps asg body st ic) (w':={w with heap:=w.heap.setIfInBounds k.r (.loop L0)}) hg rfl rfl hk (by simp)
  (fun r' hr'=>by simp[Array.getElem?_setIfInBounds,Ne.symm hr']) ⟨fun c el fz hc=>(by rw[hL]at hc;cases hc),fun L' hl'=>(by
    rw[hL]at hl';cases hl';exact⟨L0,by simp[Array.getElem?_setIfInBounds,hlt],hL0⟩)⟩ (λk' hk'=>by
     rw[hk]at hk';cases hk';exact⟨L0,by simp[Array.getElem?_setIfInBounds,hlt],by rw[hL0.tmps];exact hE,by rw[hL0.params];exact hp,⟨nt,by rw[hL0.tmps];exact hnt,hps,by rw[hL0.assign];exact hca,by rw[hL0.body];exact hcb⟩,hst⟩)
 exact⟨by simp[setObj,Sem.run,hL],r1.congr rfl rfl,r2.iu rfl⟩
theorem oE.succ(hT:ew P T){n:Nat}(hE:lM P T n)(hC:rJ P T n):oE P T (n+1):=by
 intro fn args h res h' h1 hl μ w args' hR hargs;refine⟨λg hg=> ?_,λl k hg hk=> ?_⟩
 ·subst hg;simp only[fN]at h1;exact hC _ _ _ _ _ h1 hl μ w args' hR hargs
 ·subst hg;simp only[fN]at h1;split at h1
  ·rename_i e ps asg body hgl;split at h1
   ·rename_i e1 hsp;split at h1
    ·rename_i e2 ds2 h2 hq1;rw[cond_eq_ite]at h1;split at h1
     ·cases h1
     ·rename_i hnr;have hA1:=(eS.all hT.aV n).exec _ _ _ _ _ _ _ _ _ _ hq1 (Nat.le_refl _);have hg2:∃e' ps' a' b',h2.get l=some (.loop e' ps' a' b' 0 .normal):=by
       unfold notReady at hnr;split at hnr
       ·rename_i hq;exact⟨_,_,_,_,hq⟩
       ·simp at hnr
      obtain⟨ee,ep,ea,eb,hg2⟩:=hg2;obtain⟨L,hL,hEL,hpL,⟨nt,hnt,hps,hca,hcb⟩,hstL⟩:=hR.obj l _ hgl k hk;obtain⟨p1,p2,p3⟩:=rj (t:=L.tmps) hsp hEL hargs hnt hps;let T0:Array Value:=(L.params.zip args'.toArray).foldl (λtmps (t,a)=>tmps.setIfInBounds t a) L.tmps;have hT0:T0=(ps.zip args').foldl (λtmps (p:Nat×Value)=>tmps.setIfInBounds p.1 p.2) L.tmps:=by
       show(L.params.zip args'.toArray).foldl _ L.tmps=_;rw[←Array.foldl_toList,←hpL];simp
      rw[←hT0]at p2 p3;have hy:(Instr.yield k.r args'.toArray).run P w= .ok (.round k.r L.fn T0 L.assign L.body) w:=by
       have hsz:¬args'.toArray.size≠L.params.size:=by
        have:L.params.size=ps.length:=by rw[←hpL];simp
        simp[this,p1]
       simp only[Instr.yield,Sem.run_bind,run_getLoop hL,Result.andThen_ok,hsz,if_false,Sem.run_pure];rfl
      rw[hy];refine roundIn_of_wpIn (F:=Fence.wide) trivial ?_;refine dX (λex a1 w1 hp=> ?_) (hE _ _ _ _ _ _ _ _ _ _ hq1 (Nat.le_refl _) L.assign nt μ w ⟨T0,[]⟩ (some k.r) w.heap.size hca (by rw[p3];exact hnt) hR p2 .nil ⟨k,hk,rfl⟩ (Nat.le_refl _));obtain⟨μ1,x1,R1,S1,E1,D1,z1⟩:=hp;cases ex<;>first|exact x1.elim|skip
      have hm1:=S1.mono hR;have hk1:=hm1 _ _ hk;obtain⟨L1,hL1,ll1⟩:=S1.loops _ _ hL;obtain⟨L1',hL1',_,_,_,hst1⟩:=R1.obj l _ hg2 k hk1;rw[hL1]at hL1';cases hL1';have hready:L1.state= .ready:=by
       rcases hst1 with⟨_,q,_⟩|⟨q,_⟩|⟨q,_⟩
       ·exact q
       ·cases q
       ·cases q
      obtain⟨s1,s2,s3⟩:=R1.xg (L0:={L1 with state:= .busy}) (e:=e) (ps:=ps) (asg:=asg) (body:=body) (st:=1) (ic:= .normal) (nt:=nt) hg2 hk1 hL1 ⟨rfl,rfl,rfl,rfl,rfl,rfl⟩ (by rw[ll1.tmps];exact hEL.mono hm1) (by rw[ll1.params];exact hpL) (by rw[ll1.tmps];exact hnt) hps
       (by rw[ll1.assign];exact hca) (by rw[ll1.body];exact hcb) (.inr (.inl ⟨rfl,rfl⟩))
      have hlt1:k.r<w1.heap.size:=(R1.dom _ _ hk1).2;have hbegin:(Instr.beginRound k.r).run P w1= .ok () {w1 with heap:=w1.heap.setIfInBounds k.r (.loop {L1 with state:= .busy})}:=by
       simp only[Instr.beginRound,Sem.run_bind,run_getLoop hL1,Result.andThen_ok,s1,hready,Sem.run_pure]
      refine⟨_,hbegin,?_⟩;have hL2:({w1 with heap:=w1.heap.setIfInBounds k.r (.loop {L1 with state:= .busy})}:World).heap[k.r]? =some (.loop {L1 with state:= .busy}):=by simp[Array.getElem?_setIfInBounds,hlt1]
      have ll2:gF L {L1 with state:= .busy}:=ll1.trans ⟨rfl,rfl,rfl,rfl,rfl,rfl⟩;have S2:St μ h w μ1 ({h2 with b8:=iA h2.b8 l (.loop e ps asg body 1 .normal)}:Heap) {w1 with heap:=w1.heap.setIfInBounds k.r (.loop {L1 with state:= .busy})}:=S1.trans s3 hA1.next
      have D2:=D1.step s3 (s3.mono R1);have hw2:w.heap.size<=({w1 with heap:=w1.heap.setIfInBounds k.r (.loop {L1 with state:= .busy})}:World).heap.size:=by simpa using S1.le
      generalize({w1 with heap:=w1.heap.setIfInBounds k.r (.loop {L1 with state:= .busy})}:World)=w2 at*;generalize({L1 with state:= .busy}:Loop)=L2 at*
      have run:∀x e3 ds3 h3,ct T n h.next (some l) body e2 ds2 {h2 with b8:=iA h2.b8 l (.loop e ps asg body 1 .normal)}=some (x,e3,ds3,h3)→
       AS h.next {h2 with b8:=iA h2.b8 l (.loop e ps asg body 1 .normal)} h3∧
       L.body.wpIn (Fw (some k.r)) 0 P (Post P μ1 ({h2 with b8:=iA h2.b8 l (.loop e ps asg body 1 .normal)}:Heap) w2 w.heap.size a1.tmps.size x e3 ds3 h3) a1 w2:=λx e3 ds3 h3 hq=>
       ⟨(eS.all hT.aV n).exec _ _ _ _ _ _ _ _ _ _ hq hA1.next,
         hE _ _ _ _ _ _ _ _ _ _ hq hA1.next L.body nt μ1 w2 a1 (some k.r) w.heap.size hcb (by rw[z1,p3];exact hnt) s2 E1 D2 ⟨k,hk1,rfl⟩ hw2⟩
      have fin:∀(x:br) e3 ds3 h3 ex (a3:Act) w3,AS h.next {h2 with b8:=iA h2.b8 l (.loop e ps asg body 1 .normal)} h3->Post P μ1 ({h2 with b8:=iA h2.b8 l (.loop e ps asg body 1 .normal)}:Heap) w2 w.heap.size a1.tmps.size x e3 ds3 h3 ex a3 w3→
       ∀e' ps' a' b' pd,h3.get l=some (.loop e' ps' a' b' 1 pd)->∀(st:Nat) (ic:br) (jump:Option Code),(∀L0:Loop,L0.state=(if jump.isNone then LoopState.ready else .done)->L0.pending=jump->StR st ic L0)→
       ∃μ3 w4,(Instr.endRound k.r jump).run P w3= .ok (.bool jump.isNone) w4/\R P μ3 ({h3 with b8:=iA h3.b8 l (.loop e ps asg body st ic)}:Heap) w4/\St μ h w μ3 ({h3 with b8:=iA h3.b8 l (.loop e ps asg body st ic)}:Heap) w4:=by
       intro x e3 ds3 h3 ex a3 w3 hA3 hp e' ps' a' b' pd hg3 st ic jump hst;obtain⟨μ3,_,R3,S3,_,_,_⟩:=hp;have S3':=S2.trans S3 hA1.next
       have hm3:=S3'.mono hR;have hk3:=hm3 _ _ hk;obtain⟨L3,hL3,ll3⟩:=S3.loops _ _ hL2;have ll3:gF L L3:=ll2.trans ll3
       obtain⟨r1,r2,r3⟩:=R3.xg (L0:={L3 with state:=if jump.isNone then .ready else .done,pending:=jump}) (e:=e) (ps:=ps) (asg:=asg) (body:=body) (st:=st) (ic:=ic) (nt:=nt) hg3 hk3 hL3 ⟨rfl,rfl,rfl,rfl,rfl,rfl⟩ (by rw[ll3.tmps];exact hEL.mono hm3)
        (by rw[ll3.params];exact hpL) (by rw[ll3.tmps];exact hnt) hps (by rw[ll3.assign];exact hca) (by rw[ll3.body];exact hcb) (hst _ rfl rfl)
       refine⟨μ3,_,?_,r2,S3'.trans r3 (Nat.le_trans hA1.next hA3.next)⟩;simp only[Instr.endRound,Sem.run_bind,run_getLoop hL3,Result.andThen_ok,r1,Sem.run_pure]
      split at h1
      ·rename_i e3 ds3 h3 hq3;obtain⟨hA3,hwp⟩:=run _ _ _ _ hq3;split at h1
       ·rename_i hg3;cases h1;refine dX (λex a3 w3 hp=> ?_) hwp;have hp0:=hp;obtain⟨μ3,x3,_⟩:=hp0;cases ex<;>first|exact x3.elim|skip
        obtain⟨μ4,w4,t1,t2,t3⟩:=fin _ _ _ _ _ _ _ hA3 hp _ _ _ _ _ hg3 0 .normal none (λL0 q1 q2=> .inl ⟨rfl,q1,q2,rfl⟩);obtain⟨μ5,g1,g2,g3,_⟩:=GJ hR t2 t3 (EX hgl hA1 hA3 (by rw[hg3];rfl)) (v:= .bool true) (v':= .bool true) (.bool true);exact⟨_,w4,t1,μ5,g2,g1,g3⟩
       ·cases h1
      ·rename_i i e3 ds3 h3 hq3;obtain⟨hA3,hwp⟩:=run _ _ _ _ hq3;split at h1
       ·rename_i hg3;cases h1;refine dX (λex a3 w3 hp=> ?_) hwp;have hp0:=hp;obtain⟨μ3,x3,_⟩:=hp0;cases ex<;>first|exact x3.elim|skip
        have:i=_:=x3;subst this;obtain⟨μ4,w4,t1,t2,t3⟩:=fin _ _ _ _ _ _ _ hA3 hp _ _ _ _ _ hg3 2 (.exit i) (some (.exit i)) (λL0 q1 q2=> .inr (.inr ⟨rfl,q1,q2⟩));exact⟨_,w4,t1,μ4, .bool false,t2.congr rfl rfl,t3.iu rfl⟩
       ·cases h1
      ·rename_i e3 ds3 h3 hq3;obtain⟨hA3,hwp⟩:=run _ _ _ _ hq3;split at h1
       ·rename_i hg3;cases h1;refine dX (λex a3 w3 hp=> ?_) hwp;have hp0:=hp;obtain⟨μ3,x3,_⟩:=hp0;cases ex<;>first|exact x3.elim|skip
        obtain⟨μ4,w4,t1,t2,t3⟩:=fin _ _ _ _ _ _ _ hA3 hp _ _ _ _ _ hg3 2 .ret (some .ret) (λL0 q1 q2=> .inr (.inr ⟨rfl,q1,q2⟩));exact⟨_,w4,t1,μ4, .bool false,t2.congr rfl rfl,t3.iu rfl⟩
       ·cases h1
      ·cases h1
    ·cases h1
   ·cases h1
  ·cases h1
theorem tc:∀{vs:List Value} {i t:Nat} {v:Value},geT (eM i vs) t=some v->i<=t/\vs[t-i]? =some v
 |[],_,_,_,h=>by simp[eM,geT]at h
 |x::vs,i,t,v,h=>by
  simp only[eM,geT,cond_eq_ite,beq_eq,decide_eq_true_eq]at h;split at h
  ·rename_i e;subst e;cases h;exact⟨Nat.le_refl _,by simp⟩
  ·obtain⟨q1,q2⟩:=tc h;exact⟨by omega,by rw[show t-i=(t-(i+1))+1 by omega];simpa using q2⟩
theorem wB{args args':List Value}(hl:LR μ args args')(m:Nat):cm μ (eM 0 args) (args'.toArray++Array.replicate (m-args'.toArray.size) undef):=by
 intro t v hv;obtain⟨_,q⟩:=tc hv;rw[Nat.sub_zero]at q;obtain⟨v',q1,q2⟩:=hl.get (i:=t) (by rw[cA];exact q);refine⟨v',?_,q2⟩;have hlt:=(List.getElem?_eq_some_iff.1 q1).1;rw[Array.getElem?_append_left (by simpa using hlt)];simpa using q1
def Lw(tmps:Array Value):ResultVar->Sem Value
 | .tmp t=>pure (tmps.getD t undef)
 | .cell a t=>do loadVar t (←asAddr (tmps.getD a undef))
theorem pU(hR:R P μ h w):∀{rs:List ResultVar} {ars:List (Nat×Option (Option Nat))} {vs:List Value} {tmps:Array Value},A4 P rs=some ars->cm μ e tmps->cC h e ars=some vs→
 ∃vs',LR μ vs vs'∧(rs.mapM (Lw tmps)).run P w= .ok vs' w
 |[],ars,vs,tmps,hp,hE,hr=>by
  cases hp;cases hr;exact⟨[], .nil,by simp⟩
 | .tmp t::rs,ars,vs,tmps,hp,hE,hr=>by
   simp only[A4]at hp;obtain⟨l,hl,rfl⟩:=ec hp;simp only[cC]at hr;split at hr
   ·rename_i v hv;split at hr
    ·rename_i vs2 hvs;cases hr;obtain⟨vs',q1,q2⟩:=pU hR hl hE hvs;obtain⟨v',p1,p2⟩:=hE t v hv;refine⟨v'::vs', .cons p2 q1,?_⟩;simp only[List.mapM_cons,Sem.run_bind,Lw,Sem.run_pure,Result.andThen_ok,q2,Array.getD_eq_getD_getElem?,p1,Option.getD_some]
    ·cases hr
   ·cases hr
 | .cell c t::rs,ars,vs,tmps,hp,hE,hr=>by
   simp only[A4]at hp;split at hp
   ·rename_i n l hn hl;cases hp;simp only[cC]at hr;split at hr
    ·rename_i av hav;split at hr
     ·rename_i v hv;split at hr
      ·rename_i vs2 hvs;cases hr;obtain⟨vs',q1,q2⟩:=pU hR hl hE hvs;obtain⟨a',p1,p2⟩:=hE c av hav;obtain⟨r,o,v',rfl,p3,p4⟩:=Aw (P:=P) hR p2 hv;refine⟨v'::vs', .cons p3 q1,?_⟩;simp only[List.mapM_cons,Sem.run_bind,Lw,Sem.run_pure,Result.andThen_ok,Array.getD_eq_getD_getElem?,p1,Option.getD_some,asAddr,tf hn,p4,q2]
      ·cases hr
     ·cases hr
    ·cases hr
   ·cases hp
theorem tg(hR:R P μ h w){fn:Func}{ars:List (Nat×Option (Option Nat))}{vs:List Value}{tmps:Array Value}(hp:A4 P fn.results.toList=some ars)(hE:cm μ e tmps)(hr:cC h e ars=some vs):
 ∃v',VR μ (fH vs) v'∧(results fn tmps).run P w= .ok v' w:=by
 obtain⟨vs',q1,q2⟩:=pU hR hp hE hr;have hl:=q1.length;have key:(results fn tmps).run P w= .ok (if hh:vs'.toArray.size=1 then vs'.toArray[0]else .tuple vs'.toArray) w:=by
  have e1:results fn tmps=(do let vs ←fn.results.mapM (Lw tmps);pure (if h:vs.size=1 then vs[0]else .tuple vs)):=by
   unfold results;congr 2
  rw[e1,Array.mapM_eq_mapM_toList];simp[q2]
 refine⟨_,?_,key⟩;cases q1 with
 |nil=>simp[fH];exact VR.jZ (c:= #[]) (c':= #[]) .nil
 |cons h1 h2=>
  cases h2 with
  |nil=>simpa[fH]using h1
  |cons h3 h4=>
   simp only[List.size_toArray,List.length_cons,show∀n:Nat,¬ (n+1+1=1)by omega,dite_false,fH];exact VR.jZ (by simpa using LR.cons h1 (.cons h3 h4))
theorem R.shut(hR:R P μ h w){r:Nat}{x:Option (List Deferred)}(hr:w.heap[r]? =some (.deferred x)):R P μ h {w with heap:=w.heap.setIfInBounds r (.deferred none)}:=by
 have hne:∀b o k,h.get b=some o->o≠ .dead->μ b=some k->k.r≠r:=λb o k hb ho hk e=>by
  have hor:=hR.obj b o hb;cases o with
  |dead=>exact ho rfl
  |cells vs own sz=>obtain⟨_,c,el,fz,h1,_⟩:=hor k hk;rw[e,hr]at h1;cases h1
  |map es=>obtain⟨_,_,h1,_⟩:=hor k hk;rw[e,hr]at h1;cases h1
  |tw es=>obtain⟨_,_,h1,_⟩:=hor k hk;rw[e,hr]at h1;cases h1
  |loop _ _ _ _ _ _=>obtain⟨_,h1,_⟩:=hor k hk;rw[e,hr]at h1;cases h1
  |j7 _ _=>have h1:=(hor k hk).2;rw[e,hr]at h1;cases h1
 refine⟨hR.big,λg o h1 h2=> ?_,λb o hb=> ?_,hR.lt,λb k hb=>⟨(hR.dom b k hb).1,by simpa using(hR.dom b k hb).2⟩,hR.jP⟩
 ·obtain⟨k,a,b,c,x⟩:=hR.j8 g o h1 h2;refine⟨k,a,b,c,λq1 q2=>x.get ?_ q1 q2⟩;have:=hne g o k h2 (λe=>by subst e;cases q2) a;simp[Array.getElem?_setIfInBounds,Ne.symm this]
 by_cases ho:o= .dead
 ·subst ho;trivial
 ·exact OR.mono (λ_ _ h=>h) rfl (λk hk=>by simp[Array.getElem?_setIfInBounds,Ne.symm (hne b o k hb ho hk)]) (hR.obj b o hb)
theorem Jf{r:Nat}(hr:w.heap[r]? =some (.deferred (some []))):(Instr.takeDeferred r).run P w= .ok [] {w with heap:=w.heap.setIfInBounds r (.deferred none)}:=by
 simp only[Instr.takeDeferred,Sem.run_bind,fD hr (by simp),Result.andThen_ok];simp[setObj,Sem.run,hr]
theorem DR.shut{lo r:Nat}{ds:Dfs}{ms:List Deferred}(hd:DR μ h w lo ds ms)(hm:∀r' as,({target:= .collected r',args:=as}:Deferred)∈ms->r'<r):DR μ h {w with heap:=w.heap.setIfInBounds r (.deferred none)} lo ds ms:=by
 induction hd with
 |nil=>exact .nil
 |cons h1 h2 h3 _ ih=>exact .cons h1 h2 h3 (ih λr' as hq=>hm r' as (List.mem_cons_of_mem _ hq))
 |mark h1 h0 h2 h3 _ ih=>
  rename_i r0 _ _ _;have hlt:r0<r:=hm r0 #[] (by simp);exact .mark h1 h0 (by simp[Array.getElem?_setIfInBounds,show¬r=r0 by omega,h2]) h3 (ih λr' as hq=>hm r' as (List.mem_cons_of_mem _ hq))
theorem St.shut{μ0:Mu}{h0:Heap}{w0:World}(s:St μ0 h0 w0 μ h w){r:Nat}(hr:w0.heap.size<=r):St μ0 h0 w0 μ h {w with heap:=w.heap.setIfInBounds r (.deferred none)}:=
 ⟨s.ext,by simpa using s.le,λr' hr' hn=>by
  rw[←s.keep r' hr' hn];simp[Array.getElem?_setIfInBounds,show¬r=r' by omega],s.wr,λr' L hL=>by
  have hlt:=(Array.getElem?_eq_some_iff.1 hL).1;obtain⟨L',q1,q2⟩:=s.loops r' L hL;exact⟨L',by simp[Array.getElem?_setIfInBounds,show¬r=r' by omega,q1],q2⟩,s.same.trans ⟨rfl,rfl,rfl,by first|exact Nat.le_refl _|exact Nat.le_add_right _ _⟩⟩
theorem Iz{pan:Option Value}{u:FrameMode}(hp:Bn μ pan u):u≠ .run:=by
 cases pan with
 |none=>rw[show u= .returning from hp];simp
 |some v=>obtain⟨v',_,rfl⟩:=hp;simp
theorem vK.succ(hT:ew P T){n:Nat}(hU:vK P T n)(hDf:qe P T n):vK P T (n+1):=by
 intro results ds pan e h h1 res h' hh hA fn μ w μ1 w1 tmps mds u hp hR hR1 hS hE hD hpan;induction mds generalizing w1 with
 |nil=>
  cases hD;simp only[nA]at hh;simp only[LeavesInM];split at hh
  ·cases hh;obtain⟨v',hv,rfl⟩:=hpan;exact⟨μ1,⟨v',rfl,hv⟩,hR1,hS⟩
  ·split at hh
   ·rename_i vs hvs;cases hh;have:u= .returning:=hpan;subst this;obtain⟨v',hv,hrun⟩:=tg hR1 hp hE hvs;obtain⟨μ2,g1,g2,g3,_⟩:=GJ hR hR1 hS hA hv;exact⟨v',hrun,μ2,g2,g1,g3⟩
   ·cases hh
 |cons d ms ih=>
  simp only[LeavesInM];refine⟨Iz hpan,?_⟩;cases hD with
  |mark m1 m0 m2 m3 m4=>
   rename_i r;exact .inl ⟨r,_,rfl,Jf m2,ih _ (hR1.shut m2) (hS.shut m1) (m4.shut m0)⟩
  |cons c1 c2 c3 c4=>
   rename_i g first cap first' cap' args args' ds
   simp only[nA]at hh;split at hh
   ·rename_i pan' h2 hq;have hA2:=(eS.all hT.aV n).defer _ _ _ _ _ _ hq rfl;have hn2:h1.next<=h2.next:=hA2.next
    have hnc:gT (T g)=false:=by
     cases n with
     |zero=>simp[jW]at hq
     |succ n=>
      simp only[jW]at hq;split at hq
      ·rename_i hTg;rw[hTg];rfl
      ·cases hq
    have hargs:LR μ1 (dP first.toList (dP args cap.toList)) (first'.toList++(args'++cap'.toList)):=by
     rw[dQ,dQ];exact c1.append (c3.append c2)
    refine .inr ⟨λq=>(by cases q), .func g,cap',g,(first'.toList++(args'++cap'.toList)).toArray,rfl,?_,λ_ _=>trivial,?_⟩
    ·have:(first'++args'.toArray)++cap'=(first'.toList++(args'++cap'.toList)).toArray:=by apply dO;simp
     simp only[invoke,this];exact jf hT hnc _ _
    ·refine CallsDIn.mono (hDf _ _ _ _ _ _ hq rfl μ1 w1 _ u (hR1.congr rfl rfl) hargs hpan) λen u' w' hr=> ?_;obtain⟨v,μ',rfl,k1,k2,k3⟩:=hr;have k2:St μ1 h1 w1 μ' h2 w':=k2.nK rfl rfl;have hm:=k2.mono hR1;have hSf:St μ h w μ' ({h2 with log:=aF h.next h1.log h2.log}:Heap) w':=(hS.trans k2 hA.next).iu rfl;exact hU _ _ _ _ _ _ _ _ hh (hA.trans (AS.call hA2 hA.next)) fn μ w μ' w' tmps ms _ hp hR (k1.congr rfl rfl) hSf (hE.mono hm) ((c4.step k2 hm).step (St.iu (h1:=h2) (.refl _ _ _) rfl) (λ_ _ h=>h)) k3
   ·cases hh
theorem rJ.succ(hT:ew P T){n:Nat}(hE:lM P T n)(hU:vK P T n):rJ P T (n+1):=by
 intro f args h res h' h1 hl μ w args' hR hargs;simp only[iV]at h1;split at h1
 ·cases h1
 ·rename_i p hTf;split at h1
  ·rename_i v h2 hq;cases h1;exact(hT.mQ f p args h v _ hTf hq hl).2 μ w args' hR hargs
  ·cases h1
 ·rename_i code results hTf;have hnc:gT (T f)=false:=by rw[hTf];rfl
  rw[jf hT hnc];obtain⟨fn,ks,hf,hcf⟩:=hT.code f code results hTf;unfold aD at hcf;split at hcf
  ·rename_i c hb;split at hcf
   ·cases hcf
   ·split at hcf
    ·rename_i ac rs hcomp hres;cases hcf;show CallsIn Fence.wide 0 P f args'.toArray w _;refine callsIn_of_wp_marks (F:=Fence.wide) hf hb trivial ?_;have hAll:=eS.all hT.aV n
     have run:∀x e2 ds2 h2,ct T n h.next none code (eM 0 args) [] h=some (x,e2,ds2,h2)→
      c.wpIn (Fw none) 0 P (Post P μ h w w.heap.size (args'.toArray++Array.replicate (fn.ntmps-args'.toArray.size) undef).size x e2 ds2 h2) {tmps:=args'.toArray++Array.replicate (fn.ntmps-args'.toArray.size) undef,defers:=[]} w:=
      λx e2 ds2 h2 hq=>hE _ _ _ _ _ _ _ _ _ _ hq (Nat.le_refl _) c fn.ntmps μ w ⟨_,[]⟩ none w.heap.size ⟨ks,[],hcomp⟩ (by simp;omega) hR (wB hargs _) .nil rfl (Nat.le_refl _)
     split at h1
     ·rename_i v e2 ds2 h2 hq;have hA:=hAll.exec _ _ _ _ _ _ _ _ _ _ hq (Nat.le_refl _);refine dX (λex a' w' hp=> ?_) (run _ _ _ _ hq);obtain⟨μ',x1,R1,S1,E1,D1,_⟩:=hp;cases ex<;>first|exact x1.elim|skip
      obtain⟨v',rfl,hv⟩:=x1;exact hU _ _ _ _ _ _ _ _ h1 hA fn μ w μ' w' a'.tmps a'.defers _ hres hR R1 S1 E1 D1 ⟨v',hv,rfl⟩
     ·cases h1
     ·rename_i x e2 ds2 h2 hnp hne hq;have hA:=hAll.exec _ _ _ _ _ _ _ _ _ _ hq (Nat.le_refl _);refine dX (λex a' w' hp=> ?_) (run _ _ _ _ hq);obtain⟨μ',x1,R1,S1,E1,D1,_⟩:=hp;cases x with
      |panic v=>exact(hnp v rfl).elim
      |exit i=>exact(hne i rfl).elim
      |normal=>
       cases ex<;>first|exact x1.elim|skip
       exact hU _ _ _ _ _ _ _ _ h1 hA fn μ w μ' w' a'.tmps a'.defers _ hres hR R1 S1 E1 D1 rfl
      |ret=>
       cases ex<;>first|exact x1.elim|skip
       exact hU _ _ _ _ _ _ _ _ h1 hA fn μ w μ' w' a'.tmps a'.defers _ hres hR R1 S1 E1 D1 rfl
     ·cases h1
    ·cases hcf
  ·cases hcf
theorem tT.mono{μ':Mu}(hm:∀b k,μ b=some k->μ' b=some k){pan:Option Value}{u:FrameMode}(hp:tT μ pan u):tT μ' pan u:=by
 cases pan with
 |none=>exact hp
 |some v=>obtain⟨v',h1,h2⟩:=hp;exact⟨v',h1.mono hm,h2⟩
theorem La{pan:Option Value}{u:FrameMode}(hp:Bn μ pan u):tT μ pan u:=by
 cases pan with
 |none=>exact .inl hp
 |some v=>exact hp
theorem ta{pan:Option Value}{u:FrameMode}(hp:tT μ pan u):Bn μ pan (settle u):=by
 cases pan with
 |none=>
  rcases hp with rfl|⟨v',rfl⟩
  ·rfl
  ·rfl
 |some v=>obtain⟨v',h1,rfl⟩:=hp;exact⟨v',h1,rfl⟩
def sM(P:Program)(μ0:Mu)(h0:Heap)(w0:World)(sz:Nat)(x:br)(e':Env)(pan':Option Value)(h':Heap)(c0:Frame)(cs:List Frame):Exit->Act->List Frame->World->Prop:=λex a' cs' w'=>
 ∃μ' u',XR μ' x ex/\R P μ' h' w'∧St μ0 h0 w0 μ' h' w'∧cm μ' e' a'.tmps/\a'.defers=[]/\a'.tmps.size=sz/\cs'={c0 with mode:=u'}::cs/\tT μ' pan' u'
theorem sM.trans{μ0 μ1:Mu}{h0 h1:Heap}{w0 w1:World}{sz:Nat}{x:br}{e':Env}{pan':Option Value}{h':Heap}{c0:Frame}{cs:List Frame}(s:St μ0 h0 w0 μ1 h1 w1)(hn:h0.next<=h1.next){ex:Exit}{a':Act}{cs':List Frame}{w':World}
 (hp:sM P μ1 h1 w1 sz x e' pan' h' c0 cs ex a' cs' w'):sM P μ0 h0 w0 sz x e' pan' h' c0 cs ex a' cs' w':=by
 obtain⟨μ',u',q1,q2,q3,q4⟩:=hp;exact⟨μ',u',q1,q2,s.trans q3 hn,q4⟩
theorem fk{F:Fence}{n:Nat}{ops:Array Oper}{Q Q':Exit->Act->List Frame->World->Prop}(hq:∀e a cs w,Q e a cs w->Q' e a cs w):∀(l:List Nat) (a:Act) (cs:List Frame) (w:World),wpOpsSIn F n P ops Q l a cs w->wpOpsSIn F n P ops Q' l a cs w
 |[],_,_,_,h=>hq _ _ _ _ h
 |i::l,a,cs,w,h=>by
  simp only[wpOpsSIn]at h⊢;split at h
  ·exact fk hq l _ _ _ h
  ·obtain⟨h0,h⟩:=h;refine⟨h0,?_⟩;split at h
   ·rename_i hw;rw[if_pos hw];split at h
    ·split at h
     ·exact fk hq l _ _ _ h
     ·exact fk hq l _ _ _ h
    ·exact fk hq l _ _ _ h
    ·exact fk hq l _ _ _ h
    ·exact hq _ _ _ _ h
    ·exact h.elim
   ·rename_i hw;rw[if_neg hw];exact fk hq l _ _ _ h
theorem mG{F:Fence}{n:Nat}{c:Code}{cs:List Frame}{Q Q':Exit->Act->List Frame->World->Prop}(hq:∀e a cs w,Q e a cs w->Q' e a cs w)(h:c.wpSIn F n P Q a cs w):c.wpSIn F n P Q' a cs w:=
 λb k hb hr hF hroom=>let⟨e,a',cs',w',l,q,r⟩:=h b k hb hr hF hroom;⟨e,a',cs',w',l,hq _ _ _ _ q,r⟩
theorem rL.succ(hT:ew P T){n:Nat}(hO:rL P T n):rL P T (n+1):=by
 intro base as e pan h x e' pan' h' h1 hb ops i nt μ w a c0 cs u hi hc hnt hR hE hD hpan;cases as with
 |nil=>
  simp only[jo]at h1;cases h1;have hd:ops.toList.drop i=[]:=by
   cases hq:ops.toList.drop i with
   |nil=>rfl
   |cons o os=>
    rw[hq]at hc;simp only[bY]at hc;repeat' split at hc
    all_goals cases hc
  have:ops.size<=i:=by
   have:=List.drop_eq_nil_iff.1 hd;simpa using this
  rw[show ops.size-i=0 by omega];exact⟨μ,u,trivial,hR, .refl _ _ _,hE,hD,rfl,rfl,hpan⟩
 |cons ao as=>
  cases hdr:ops.toList.drop i with
  |nil=>rw[hdr]at hc;simp[bY]at hc
  |cons o os=>
   rw[hdr]at hc;obtain⟨hlt,hget,hdr'⟩:=vW hdr;obtain⟨c1,c2,c3,c4,_⟩:=gN hc;rw[AX hlt];simp only[jo]at h1;simp only[wpOpsSIn,hget];rw[←hdr']at c4
   have go:∀{μ1:Mu} {h2:Heap} {w1:World} {a1:Act} {e1:Env} {pan1:Option Value} {u1:FrameMode},jo T n base as e1 pan1 h2=some (x,e',pan',h')->base<=h2.next->h.next<=h2.next->a1.tmps.size=a.tmps.size->R P μ1 h2 w1->St μ h w μ1 h2 w1→
    cm μ1 e1 a1.tmps->a1.defers=[]->tT μ1 pan1 u1->wpOpsSIn Fence.wide 0 P ops (sM P μ h w a.tmps.size x e' pan' h' c0 cs) (List.range' (i+1) (ops.size-(i+1))) a1 ({c0 with mode:=u1}::cs) w1:=by
    intro μ1 h2 w1 a1 e1 pan1 u1 k1 k2 k3 k4 k5 k6 k7 k8 k9;have:=hO _ _ _ _ _ _ _ _ _ k1 k2 ops (i+1) nt μ1 w1 a1 c0 cs u1 hlt c4 (by omega) k5 k7 k8 k9;rw[k4]at this;exact fk (λ_ _ _ _ hp=>sM.trans (x:=x) (e':=e') (pan':=pan') (h':=h') (c0:=c0) (cs:=cs) k6 k3 hp) _ _ _ _ this
   refine⟨λ_ _=>trivial,?_⟩;split at h1
   ·rename_i hw;rw[mV hc hE hw];simp only[Bool.false_eq_true,if_false];refine go h1 hb (Nat.le_refl _) (dy _ _ _) hR (.refl _ _ _) ?_ ?_ hpan
    ·rw[c2];exact hE.put c1 hnt (VR.cT (v:=undef) rfl).1
    ·rw[put_defers];exact hD
   ·rename_i hw;rw[mV hc hE hw];simp only[if_true];split at h1
    ·rename_i v h2 hq;have hA:=nr hq;obtain⟨μ',v',w',hrun,k1,k2,k3,_⟩:=Du hR hE c3 hq;have hm:=k3.mono hR;have fin:wpOpsSIn Fence.wide 0 P ops (sM P μ h w a.tmps.size x e' pan' h' c0 cs) (List.range' (i+1) (ops.size-(i+1))) (a.put o.dst v') ({c0 with mode:=u}::cs) w':=by
      refine go h1 (Nat.le_trans hb hA.next) hA.next (dy _ _ _) k2 k3 ?_ ?_ (hpan.mono hm)
      ·rw[c2];exact(hE.mono hm).put c1 hnt k1
      ·rw[put_defers];exact hD
     rcases hrun with hrun|⟨hrun,rfl⟩
     ·rw[hrun];exact fin
     ·rw[hrun];exact fin
    ·rename_i hq;rw[B4 c3 hq];simp only;split at h1
     ·rename_i v;obtain⟨v',hv,rfl⟩:=hpan;have hrec:recoverD ({c0 with mode:= .panicking [{v:=v',recovered:=false}]}::cs)=some (v',{c0 with mode:= .panicking [{v:=v',recovered:=true}]}::cs):=rfl;rw[hrec];refine go h1 hb (Nat.le_refl _) (dy _ _ _) hR (.refl _ _ _) ?_ ?_ (.inr ⟨v',rfl⟩)
      ·rw[c2];exact hE.put c1 hnt hv
      ·rw[put_defers];exact hD
     ·have hrec:recoverD ({c0 with mode:=u}::cs)=none:=by
       rcases hpan with rfl|⟨v',rfl⟩<;>rfl
      rw[hrec];refine go h1 hb (Nat.le_refl _) (dy _ _ _) hR (.refl _ _ _) ?_ ?_ hpan
      ·rw[c2];exact hE.put c1 hnt .nilIface
      ·rw[put_defers];exact hD
    ·cases h1
   ·cases h1
theorem oI.succ(hT:ew P T){n:Nat}(hE:oI P T n)(hO:rL P T n):oI P T (n+1):=by
 intro base ac e pan h x e' pan' h' h1 hb c nt μ w a c0 cs u hc hnt hR hEn hD hpan;have hA:=eS.all hT.aV n;cases ac<;>simp only[ir]at h1<;>(try (cases h1;done))
 case skip=>
  have hc':c= .skip∨∃l,c= .label l:=hc.inv;cases h1;rcases hc' with rfl|⟨l,rfl⟩
  ·exact wpSIn_of_wpIn rfl (wpIn_skip ⟨μ,u,trivial,hR, .refl _ _ _,hEn,hD,rfl,rfl,hpan⟩)
  ·exact wpSIn_of_wpIn rfl (wpIn_label ⟨μ,u,trivial,hR, .refl _ _ _,hEn,hD,rfl,rfl,hpan⟩)
 case ret=>
  have:c= .ret:=hc.inv;subst this;cases h1;exact wpSIn_of_wpIn rfl (wpIn_ret ⟨μ,u,trivial,hR, .refl _ _ _,hEn,hD,rfl,rfl,hpan⟩)
 case region as keep=>
  obtain⟨id,ops,rfl,hcs⟩:=hc.inv;refine wpSIn_region ?_;have run:∀x e' pan' h',jo T n base as e pan h=some (x,e',pan',h')->wpOpsSIn Fence.wide 0 P ops (sM P μ h w a.tmps.size x e' pan' h' c0 cs) (List.range ops.size) a ({c0 with mode:=u}::cs) w:=λx e' pan' h' hq=>by
   have:=hO _ _ _ _ _ _ _ _ _ hq hb ops 0 nt μ w a c0 cs u (Nat.zero_le _) (by simpa using hcs) hnt hR hEn hD hpan;rw[Nat.sub_zero,←List.range_eq_range']at this;exact this
  split at h1
  ·rename_i hq;cases h1;refine fk (λ_ _ _ _ hp=> ?_) _ _ _ _ (run _ _ _ _ hq);obtain⟨μ',u',q1,q2,q3,q4,q5⟩:=hp;exact⟨μ',u',q1,q2,q3,q4.keep keep,q5⟩
  ·exact run _ _ _ _ h1
 case seq p q=>
  obtain⟨y,z,rfl,hy,hz⟩:=hc.inv;refine wpSIn_seq ?_;split at h1
  ·rename_i e1 pan1 h2 hq;have hAn:=hA.gX _ _ _ _ _ _ _ _ _ hq hb;refine mG (λex a' cs' w' hp=> ?_) (hE _ _ _ _ _ _ _ _ _ hq hb y nt μ w a c0 cs u hy hnt hR hEn hD hpan);obtain⟨μ',u',x1,q2,q3,q4,q5,q6,rfl,q8⟩:=hp;cases ex<;>first|exact x1.elim|skip
   have:=hE _ _ _ _ _ _ _ _ _ h1 (Nat.le_trans hb hAn.next) z nt μ' w' a' c0 cs u' hz (by omega) q2 q4 q5 q8;rw[q6]at this;exact mG (λ_ _ _ _ hp=>sM.trans (x:=x) (e':=e') (pan':=pan') (h':=h') (c0:=c0) (cs:=cs) q3 hAn.next hp) this
  ·rename_i hne;refine mG (λex a' cs' w' hp=> ?_) (hE _ _ _ _ _ _ _ _ _ h1 hb y nt μ w a c0 cs u hy hnt hR hEn hD hpan);cases ex with
   |normal=>
    obtain⟨μ',u',x1,_⟩:=hp;cases x<;>first|exact x1.elim|skip
    exact(hne _ _ _ h1).elim
   |_=>exact hp
 case cond o p q=>
  obtain⟨y,z,rfl,ho,hy,hz⟩:=hc.inv;split at h1
  ·rename_i hq;have g:=bQ hR hEn ho hq;generalize hev:a.eval o=ov at g;cases g;exact wpSIn_cond (t:=true) hev (hE _ _ _ _ _ _ _ _ _ h1 hb y nt μ w a c0 cs u hy hnt hR hEn hD hpan)
  ·rename_i hq;have g:=bQ hR hEn ho hq;generalize hev:a.eval o=ov at g;cases g;exact wpSIn_cond (t:=false) hev (hE _ _ _ _ _ _ _ _ _ h1 hb z nt μ w a c0 cs u hz hnt hR hEn hD hpan)
  ·cases h1
theorem qe.succ(hT:ew P T){n:Nat}(hE:oI P T n):qe P T (n+1):=by
 intro g args pan h pan' h' h1 hl μ w args' u hR hargs hpan;simp only[jW]at h1;split at h1
 ·rename_i code hTg;obtain⟨fn,ks,hf,hcf⟩:=hT.code g code [] hTg;unfold aD at hcf;split at hcf
  ·rename_i c hb;split at hcf
   ·cases hcf
   ·split at hcf
    ·rename_i ac rs hcomp hres;cases hcf;have run:∀x e2 h2,ir T n h.next code (eM 0 args) pan h=some (x,e2,pan',h2)->(x= .normal∨x= .ret)->CallsDIn Fence.wide 0 P g args'.toArray u w λen u' w'=>∃v μ',en= .returned v/\R P μ' h2 w'∧St μ h w μ' h2 w'∧Bn μ' pan' (settle u'):=λx e2 h2 hq hx=>by
      refine callsDIn_of_wpSIn (F:=Fence.wide) hf hb trivial λc0 cs hu=> ?_;have hc0:({c0 with mode:=u}:Frame)=c0:=by subst hu;rfl
      have:=hE _ _ _ _ _ _ _ _ _ hq (Nat.le_refl _) c fn.ntmps μ w ⟨args'.toArray++Array.replicate (fn.ntmps-args'.toArray.size) undef,[]⟩ c0 cs u ⟨ks,[],hcomp⟩ (by simp;omega) hR (wB hargs _) rfl (La hpan);rw[hc0]at this;refine mG (λex a' cs' w' hp=> ?_) this;obtain⟨μ',u',x1,q2,q3,q4,q5,q6,rfl,q8⟩:=hp;obtain⟨v',hv,hrun⟩:=tg q2 hres q4 (vs:=[]) rfl;rcases hx with rfl|rfl
      ·cases ex<;>first|exact x1.elim|skip
       exact⟨q5,u',rfl,v',hrun,v',μ',rfl,q2,q3,ta q8⟩
      ·cases ex<;>first|exact x1.elim|skip
       exact⟨q5,u',rfl,v',hrun,v',μ',rfl,q2,q3,ta q8⟩
     split at h1
     ·rename_i hq;cases h1;exact run _ _ _ hq (.inl rfl)
     ·rename_i hq;cases h1;exact run _ _ _ hq (.inr rfl)
     ·cases h1
    ·cases hcf
  ·cases hcf
 ·cases h1
theorem tF{h h':Heap}{x:Operand}(hx:kV [x]=true):ev h e x=ev h' e x:=by
 cases x<;>first|rfl|simp[kV]at hx
theorem sY{x:Operand}{l:List Operand}(hx:kV (x::l)=true):kV [x]=true/\kV l=true:=by
 cases x<;>simp[kV]at hx⊢ <;>exact hx
theorem uo{h h':Heap}:∀{ps:List (Nat×Nat×Operand)} {z:List Value},kV (ps.map (·.2.2))=true->iO h e z ps=iO h' e z ps
 |[],_,_=>rfl
 |(o,s,x)::ps,z,hx=>by
  obtain⟨h1,h2⟩:=sY hx;simp only[iO,tF (h:=h) (h':=h') h1];split
  ·rw[uo h2]
  ·rfl
theorem zh{w':World}{l:List Value}{c:Array Value}{el:TypeId}{sz b:Nat}{μ':Mu}(hw:w'.heap=w.heap.push (.cells c el))(hl:LR μ l c.toList)(hm:∀b k,μ b=some k->μ' b=some k)(hb:μ' b=some ⟨w.heap.size,0,c.size,sz⟩):
 OR P μ' w' b (.cells l true sz):=by
 intro k hk;rw[hb]at hk;cases hk;have hlen:l.length=c.size:=by rw[hl.length];simp
 refine⟨rfl,c,el,(0,0),by rw[hw];simp,by simp only;omega,Nat.le_refl _,λi hi=> ?_,λ_=>⟨rfl,rfl,λj _=>by simp⟩⟩;have:=(hl.gv i hi).mono hm;refine⟨_,?_,this⟩;have q:=pJ (l:=c.toList) (i:=i) (by rw[←hl.length];exact hi);simpa using q
def CK(P:Program)(o:Oper)(er:Env)(b:Nat)(v:Value)(obj:bO):Prop:=
 obj.live=true/\obj.ro=false/\∀(μ:Mu) (hc:Heap) (w:World) (a:Act),R P μ hc w->cm μ er a.tmps->∃v' mobj w' k,(execOp a.eval o).run P w= .ok (.value v') w'∧Same w w'∧w'.heap=w.heap.push mobj/\k.r=w.heap.size∧
  ∀μ':Mu,(∀b k,μ b=some k->μ' b=some k)->μ' b=some k->VR μ' v v'∧OR P μ' w' b obj
theorem KC{o:Oper}{ao:AOp}{er:Env}{v:Value}{h1:Heap}(hn:dw ao=true)(hc:fT P o.op=some ao)(hv:aop h base er ao=some (.val v h1)):∃obj,h1=h.push obj/\CK P o er h.next v obj:=by
 unfold fT at hc;split at hc
 ·rename_i hall;cases hop:o.op<;>rw[hop]at hc hall<;>(try dsimp only at hc)<;>(try (cases hc;done))
  case alloc t=>
   split at hc
   ·rename_i z hz;split at hc
    ·rename_i hs;cases hc;cases hv;refine⟨_,rfl,rfl,rfl,λμ hc w a hR hE=> ?_⟩;have hl:LR μ (cellsOf z) z.cells.toList:=zK hs;refine⟨.pointer (some ⟨w.heap.size,0,none⟩), .cells z.cells t,{w with heap:=w.heap.push (.cells z.cells t)},⟨w.heap.size,0,z.cells.size,1⟩,?_,⟨rfl,rfl,rfl,by first|exact Nat.le_refl _|exact Nat.le_add_right _ _⟩,rfl,rfl,λμ' hm hb=>⟨VR.ptr (o:=0) hb,zh rfl hl hm hb⟩⟩;simp[execOp,hop,Instr.alloc,dF hz,newVar,gu]
    ·cases hc
   ·cases hc
  case box t x=>
   cases hc;obtain⟨xv,hxv,hh⟩:=an hv;cases hh;refine⟨_,rfl,rfl,rfl,λμ hc w a hR hE=> ?_⟩;have hxv':ev hc er x=some xv:=by rw[←tF (h:=h) (h':=hc) hn];exact hxv
   have hx:aC P x=true:=by simpa[Op.operands]using hall
   have hl:LR μ (cellsOf xv) (a.eval x).cells.toList:=qv (bQ hR hE hx hxv');refine⟨.pointer (some ⟨w.heap.size,0,none⟩), .cells (a.eval x).cells t,{w with heap:=w.heap.push (.cells (a.eval x).cells t)},⟨w.heap.size,0,(a.eval x).cells.size,1⟩,?_,⟨rfl,rfl,rfl,by first|exact Nat.le_refl _|exact Nat.le_add_right _ _⟩,rfl,rfl,λμ' hm hb=>⟨VR.ptr (o:=0) hb,zh rfl hl hm hb⟩⟩;simp[execOp,hop,Instr.box,newVar,gu]
  case makeMap t r=>
   have key:∀(rv:Option Value),(rv=none∨∃k n kt el,rv=some (.int k n)/\P.underlying t=some (.map kt el))->∀w:World,(Instr.makeMap t rv).run P w= .ok (.map (some w.heap.size)) {w with heap:=w.heap.push (.map #[] 0)}:=λrv hr w=>by
    rcases hr with rfl|⟨k,n,kt,el,rfl,hd⟩
    ·simp[Instr.makeMap,newObj,Sem.run]
    ·simp only[Instr.makeMap,Sem.run_bind,run_underlying hd,Result.andThen_ok];simp[asInt,asIntOf,newObj,Sem.run]
   have fin:ao= .mkMap->(∀a:Act,(r.map a.eval)=none∨∃k n kt el,(r.map a.eval)=some (.int k n)/\P.underlying t=some (.map kt el))->∃obj,h1=h.push obj/\CK P o er h.next v obj:=λhao hr=>by
    subst hao;cases hv;refine⟨_,rfl,rfl,rfl,λμ hc w a hR hE=> ?_⟩;refine⟨.map (some w.heap.size), .map #[] 0,{w with heap:=w.heap.push (.map #[] 0)},⟨w.heap.size,0,0,0⟩,?_,⟨rfl,rfl,rfl,by first|exact Nat.le_refl _|exact Nat.le_add_right _ _⟩,rfl,rfl,λμ' hm hb=>⟨VR.map hb,λk hk=> ?_⟩⟩
    ·simp[execOp,hop,key _ (hr a)]
    ·rw[hb]at hk;cases hk;exact⟨#[],0,by simp, .nil,List.nodup_nil,λn hn=>by cases hn⟩
   cases r with
   |none=>exact fin (by cases hc;rfl) λa=> .inl rfl
   |some r=>
    cases r<;>(try dsimp only at hc)<;>(try (cases hc;done))
    rename_i c;cases c<;>(try dsimp only at hc)<;>(try (cases hc;done))
    rename_i k n;split at hc
    ·rename_i kt el hd;exact fin (by cases hc;rfl) λa=> .inr ⟨k,n,kt,el,rfl,hd⟩
    ·cases hc
  case buildSlice t n ps=>
   have hps:∀p∈ps.toList,aC P p.2=true:=λp hp=>List.all_eq_true.1 hall p.2 (by simpa[Op.operands]using⟨p.1,by simpa using hp⟩);split at hc
   ·rename_i el hd;split at hc
    ·rename_i s z hs hz;split at hc
     ·rename_i hcc;obtain⟨qs,hq,rfl⟩:=ec hc;simp only[aop]at hv;split at hv
      ·rename_i cs hcs;cases hv;refine⟨_,rfl,rfl,rfl,λμ hc w a hR hE=> ?_⟩;have hzz:z.cells.size=s:=by rw[Bk,←bM];exact hcc.2.1
       have hrow:LR μ (fR n (cellsOf z)) ((Array.range (n*s)).map (z.cells[· % z.cells.size]!)).toList:=by
        have:=vg (μ:=μ) hcc.2.2.2 n;rw[hzz]at this⊢;exact this
       have hcs':iO hc er (fR n (cellsOf z)) qs=some cs:=by rw[←uo (h:=h) (h':=hc) hn];exact hcs
       obtain⟨cs',g1,g2⟩:=tG hR hE hps hq hrow hcs';have hnU:n<UNK:=by
        have:=Nat.le_mul_of_pos_right n (Nat.pos_of_ne_zero hcc.2.2.1);have:=hcc.1;unfold UNK;omega
       refine⟨.slice (some ⟨w.heap.size,0,none⟩) n n, .cells cs' el,{w with heap:=w.heap.push (.cells cs' el)},⟨w.heap.size,0,cs'.size,bK (cellsOf z)⟩,?_,⟨rfl,rfl,rfl,by first|exact Nat.le_refl _|exact Nat.le_add_right _ _⟩,rfl,rfl,λμ' hm hb=>⟨VR.slice (o:=0) hb hnU (Nat.le_refl _),zh rfl g2 hm hb⟩⟩;simp only[execOp,hop,Sem.run_bind];have hlim:=hcc.1;simp only[Instr.buildSlice,Sem.run_bind,run_underlying hd,Result.andThen_ok,run_sizeOf hs,if_neg (show¬n*s>2 ^ 24 by omega),r9];by_cases h0:n*s=0
       ·rw[if_pos h0];have:n=0:=by
         rcases Nat.mul_eq_zero.1 h0 with h|h
         ·exact h
         ·exact absurd h hcc.2.2.1
        subst this;simp only[Nat.zero_mul,show Array.range 0= #[]from rfl,Array.map_empty]at g1;simp only[Nat.zero_mul,show Array.range 0= #[]from rfl,Array.map_empty,Sem.run_pure,Result.andThen_ok,g1,Sem.run_bind,gu]
       ·rw[if_neg h0];simp only[Sem.run_bind,dF hz,Result.andThen_ok,Sem.run_pure,g1,gu]
      ·cases hv
     ·cases hc
    ·cases hc
   ·cases hc
  case makeSlice t l c=>
   split at hc
   ·rename_i el hd;split at hc
    ·rename_i s z bytes hs hz hby;split at hc
     ·rename_i hcc;cases hc;simp only[dw]at hn;obtain⟨hn1,hn2⟩:=sY hn;simp only[aop]at hv;split at hv
      ·rename_i lv cv hlv hcv;split at hv
       ·rename_i ln cn hln hcn;simp only[ble_eq,blt_eq,cond_eq_ite,Bool.and_eq_true,decide_eq_true_eq]at hv;split at hv
        ·rename_i hcond;obtain⟨⟨c1,c2⟩,c3⟩:=hcond;cases hv;refine⟨_,rfl,rfl,rfl,λμ hc w a hR hE=> ?_⟩;have hall':aC P l=true/\aC P c=true:=by simpa[Op.operands]using hall
         obtain⟨kl,el1⟩:=l9 (bQ hR hE hall'.1 (by rw[←tF (h:=h) (h':=hc) hn1];exact hlv)) hln;obtain⟨kc,ec1⟩:=l9 (bQ hR hE hall'.2 (by rw[←tF (h:=h) (h':=hc) hn2];exact hcv)) hcn;obtain⟨i,hi,hz⟩:=mw hz;have hsz:i.size=s:=by
          obtain⟨j,hj,q⟩:=oS hs;rw[hi]at hj;cases hj;exact q
         have hbz:i.bytes=bytes:=by
          simp only[jr,Option.map_eq_some_iff]at hby;obtain⟨j,hj,q⟩:=hby;rw[hi]at hj;cases hj;exact q
         have hsz2:z.cells.size=s:=by rw[Bk,←bM];exact hcc.1
         have hrow:LR μ (fR cn (cellsOf z)) (madeCells z.cells ((cn:Int).toNat*i.size)).toList:=by
          have:=vg (μ:=μ) hcc.2.2 cn;rw[hsz2]at this;unfold madeCells;rw[hsz2,hsz,Int.toNat_natCast];exact this
         refine⟨.slice (some ⟨w.heap.size,0,none⟩) ln cn, .cells (madeCells z.cells ((cn:Int).toNat*i.size)) el,{w with heap:=w.heap.push (.cells (madeCells z.cells ((cn:Int).toNat*i.size)) el)},⟨w.heap.size,0,(madeCells z.cells ((cn:Int).toNat*i.size)).size,bK (cellsOf z)⟩,?_,⟨rfl,rfl,rfl,by first|exact Nat.le_refl _|exact Nat.le_add_right _ _⟩,rfl,rfl,λμ' hm hb=>⟨VR.slice (o:=0) hb c3 c1,zh rfl hrow hm hb⟩⟩;simp only[execOp,hop,el1,ec1];simp only[Sem.run_bind];rw[run_make w t el i z hd hi hz kl kc ln cn (by omega) (by omega) (by rw[hbz,←Int.natCast_mul];omega) (by unfold UNK at c3;omega)];rfl
        ·cases hv
       ·cases hv
      ·cases hv
     ·cases hc
    ·cases hc
   ·cases hc
  all_goals
   exfalso;repeat' split at hc
   all_goals first
    |contradiction
    |(cases hc;done)
    |(cases hc;simp[dw]at hn;done)
    |(obtain⟨_,_,rfl⟩:=ec hc;simp[dw]at hn;done)
 ·cases hc
theorem R.late(hR:R P μ h w){w':World}{obj:Obj}{o:bO}{b:Nat}{k:Blk}(hw:w'.heap=w.heap.push obj)(hk:k.r=w.heap.size)(hb:h.get b=some o)(hmu:μ b=none)(hgl:P.globals.size<=b)(ho:OR P (upd μ b k) w' b o):
 R P (upd μ b k) h w':=by
 have hm:∀c k',μ c=some k'→upd μ b k c=some k':=λc k' hc=>by
  unfold upd;rw[if_neg];exact hc;intro e;subst e;rw[hmu]at hc;cases hc
 have hs:=size_push hw;refine⟨hR.big,λg q hg hq=> ?_,λc q hc=> ?_,hR.lt,λc k' hc=> ?_,λc c' o1 o2 k1 k2 hne hc hc' l1 l2 m1 m2 hr=> ?_⟩
 ·obtain⟨k1,q1,q2⟩:=hR.j8 g q hg hq;exact⟨k1,hm _ _ q1,q2.1,q2.2.1,q2.2.2.get (eW hw _ (hR.dom _ _ q1).2)⟩
 ·by_cases e:c=b
  ·subst e;rw[hb]at hc;cases hc;exact ho
  ·exact OR.mono hm (by unfold upd;rw[if_neg e]) (λk' hk'=>eW hw _ (hR.dom _ _ hk').2) (hR.obj c q hc)
 ·unfold upd at hc;split at hc
  ·rename_i e;subst e;cases hc;exact⟨hR.lt _ o hb,by omega⟩
  ·have:=hR.dom c k' hc;exact⟨this.1,by omega⟩
 ·unfold upd at m1 m2;by_cases e1:c=b
  ·rw[if_pos e1]at m1;cases m1;by_cases e2:c'=b
   ·exact absurd (e1.trans e2.symm) hne
   ·rw[if_neg e2]at m2;have:=(hR.dom _ _ m2).2;omega
  ·rw[if_neg e1]at m1;by_cases e2:c'=b
   ·rw[if_pos e2]at m2;cases m2;have:=(hR.dom _ _ m1).2;omega
   ·rw[if_neg e2]at m2;exact hR.jP c c' o1 o2 k1 k2 hne hc hc' l1 l2 m1 m2 hr
theorem St.late{μ0:Mu}{h0:Heap}{w0:World}(s:St μ0 h0 w0 μ h w){w':World}{obj:Obj}{b:Nat}{k:Blk}(hw:w'.heap=w.heap.push obj)(hk:k.r=w.heap.size)(hb:h0.next<=b)(hmu:μ b=none)(hsm:Same w w'):St μ0 h0 w0 (upd μ b k) h w':=by
 have hs:=size_push hw;have hle:=s.le;refine⟨λx hx=> ?_,by omega,λr hr hn=> ?_,λr hr hwr=> ?_,λr L hL=> ?_,s.same.trans hsm⟩
 ·unfold upd;rw[if_neg (by omega)];exact s.ext x hx
 ·rw[eW hw r (by omega)];exact s.keep r hr hn
 ·obtain⟨c,o,k1,g1,g2,g3,g4,g5⟩:=hwr;unfold upd at g4;split at g4
  ·cases g4;omega
  ·exact s.wr r hr ⟨c,o,k1,g1,g2,g3,g4,g5⟩
 ·obtain⟨L',q1,q2⟩:=s.loops r L hL;exact⟨L',(eW hw r (Array.getElem?_eq_some_iff.1 q1).1).trans q1,q2⟩
theorem jH{nt:Nat}{ops:Array Oper}:∀{l:List Oper} {as:List bg},bY P nt ops l=some as->as.length=l.length/\∀(i:Nat) (o:Oper),l[i]? =some o->∃ao:bg,as[i]? =some ao/\j4 nt o.dst=true/\ao.dst=o.dst/\fT P o.op=some ao.op∧
 ∀{e:Env} {μ:Mu} {t:Array Value} {b:Bool},(∀s b0,ao.guard=some (s,b0)->∀v,geT e s=some v->∃v',t[s]? =some v'∧VR μ v v')->bX e ao.guard=some b->Region.wanted o (yielded ops t)=b
 |[],as,h=>by
  cases h;exact⟨rfl,λi o hi=>by simp at hi⟩
 |o::os,as,h=>by
  cases as with
  |nil=>
   simp only[bY]at h;repeat' split at h
   all_goals cases h
  |cons ao as=>
   obtain⟨c1,c2,c3,c4,c5⟩:=gN h;obtain⟨i1,i2⟩:=jH c4;refine⟨by simp[i1],λi o' hi=> ?_⟩;cases i with
   |zero=>simp at hi;subst hi;exact⟨ao,rfl,c1,c2,c3,λ{e μ t b} h1 h2=>c5 h1 h2⟩
   |succ i=>simpa using i2 i o' (by simpa using hi)
theorem jc:∀{l:List Nat} {n:Nat},fB l n=true↔n∈l
 |[],n=>by simp[fB]
 |x::l,n=>by
  rw[kE];simp only[Bool.or_eq_true,decide_eq_true_eq,List.mem_cons,jc];exact⟨λh=>h.imp Eq.symm id,λh=>h.imp Eq.symm id⟩
structure Stat (as:List bg) (ops:List Oper) (bf:List Nat):Prop where
 slots:∀(j p:Nat) (aj ap:bg) (t:Nat),as[j]? =some aj->as[p]? =some ap->t∈cV aj->ap.dst=some t->p∈iR ops j∨∃m:Nat,bf[p]? =some m/\Nat.testBit m j=true
 Nn:∀(j p:Nat) (aj ap:bg) (t:Nat),as[j]? =some aj->as[p]? =some ap->aj.dst=some t->ap.dst=some t->j=p
 masks:∀(i p m:Nat),i<ops.length->p<ops.length->bf[i]? =some m->Nat.testBit m p=true->∃q∈iR ops i,p=q∨∃mq:Nat,bf[q]? =some mq/\Nat.testBit mq p=true
 BU:∀(i:Nat) (ai:bg),as[i]? =some ai->∀f l,ai.op≠ .jv f l
theorem Ab{as:List bg}{ops:List Oper}{ord bf:List Nat}(hl:as.length=ops.length)(h:uj as ops ord bf=true):
 ord.length=ops.length/\(∀i∈ord,i<ops.length)/\(∀i,i<ops.length->i∈ord)/\topoOk as ops [] ord=true/\Stat as ops bf:=by
 unfold uj at h;simp only[Bool.and_eq_true,beq_eq,decide_eq_true_eq]at h;obtain⟨⟨⟨⟨⟨⟨⟨h1,h2⟩,h3⟩,h4⟩,h5⟩,h6⟩,h7⟩,h8⟩:=h;refine⟨h1,λi hi=>by simpa[Nat.blt_eq]using List.all_eq_true.1 h2 i hi,λi hi=>jc.1 (List.all_eq_true.1 h3 i (by simpa using hi)),h4,⟨λj p aj ap t hj hp ht hd=> ?_,λj p aj ap t hj hp hd hd'=> ?_,λi p m hi hp hm hb=> ?_,λi ai hai f l hq=> ?_⟩⟩
 ·have hjl:j<ops.length:=by rw[←hl];exact(List.getElem?_eq_some_iff.1 hj).1
  have hpl:p<ops.length:=by rw[←hl];exact(List.getElem?_eq_some_iff.1 hp).1
  have q:=List.all_eq_true.1 h5 j (by simpa using hjl);rw[cA,hj]at q;have q:=List.all_eq_true.1 q t ht;have q:=List.all_eq_true.1 q p (by simpa using hpl);rw[cA,hp]at q;simp only[hd,Bool.or_eq_true,Bool.not_eq_true',beq_eq_false_iff_ne,ne_eq,not_true_eq_false,false_or]at q;refine q.imp jc.1 λq=> ?_;rw[cA]at q;split at q
  ·rename_i m hm;exact⟨m,hm,q⟩
  ·cases q
 ·have hjl:j<ops.length:=by rw[←hl];exact(List.getElem?_eq_some_iff.1 hj).1
  have hpl:p<ops.length:=by rw[←hl];exact(List.getElem?_eq_some_iff.1 hp).1
  have q:=List.all_eq_true.1 h6 j (by simpa using hjl);have q:=List.all_eq_true.1 q p (by simpa using hpl);rw[cA,cA,hj,hp]at q;simp[hd,hd']at q;exact q
 ·have q:=List.all_eq_true.1 h7 i (by simpa using hi);have q:=List.all_eq_true.1 q p (by simpa using hp);rw[cA,hm]at q;simp only[hb,Bool.not_true,Bool.false_or,List.any_eq_true,Bool.or_eq_true,beq_eq,decide_eq_true_eq]at q;obtain⟨x,hx,q⟩:=q;refine⟨x,hx,q.imp id λq=> ?_⟩;rw[cA]at q;split at q
  ·rename_i mq hmq;exact⟨mq,hmq,q⟩
  ·cases q
 ·have q:=List.all_eq_true.1 h8 ai (List.mem_of_getElem? hai);rw[hq]at q;cases q
theorem topo_cons{as:List bg}{ops:List Oper}{done is:List Nat}{i:Nat}(h:topoOk as ops done (i::is)=true):(∀p∈iR ops i,p∈done)/\i ∉ done/\topoOk as ops (i::done) is=true∧
 ∃ai:bg,as[i]? =some ai/\(jw ai.op=true∨∀j∈is,∃p∈iR ops j,p∈i::is):=by
 simp only[topoOk,Bool.and_eq_true]at h;obtain⟨⟨⟨h1,h2⟩,h3⟩,h4⟩:=h;refine⟨λp hp=>jc.1 (List.all_eq_true.1 h1 p hp),λhi=> ?_,h4,?_⟩
 ·rw[jc.2 hi]at h2;cases h2
 ·rw[cA]at h3;split at h3
  ·rename_i ai hai;refine⟨ai,hai,?_⟩;simp only[Bool.or_eq_true,List.all_eq_true,List.any_eq_true]at h3;exact h3.imp id λq j hj=>let⟨p,hp,hq⟩:=q j hj;⟨p,hp,jc.1 hq⟩
  ·cases h3
theorem eU{ops:Array Oper}{listed:Array Bool}{i:Nat}(hi:i∈Region.ready .any ops listed):i<ops.size/\listed.getD i true=false/\∀p∈iR ops.toList i,listed.getD p false=true:=by
 simp only[Region.ready,List.mem_filter,List.mem_range,Bool.and_eq_true,Bool.not_eq_true']at hi;obtain⟨h1,h2,h3⟩:=hi;refine⟨h1,h2,λp hp=> ?_⟩;simp only[iR,cA,Array.getElem?_toList]at hp;cases ho:ops[i]? with
 |none=>rw[ho]at hp;cases hp
 |some o=>
  rw[ho]at hp h3;simp only[Cb,List.mem_map,List.mem_filter,Array.mem_toList_iff]at hp;obtain⟨ed,⟨hm,hb⟩,rfl⟩:=hp;simp only[Option.map_some,Option.getD_some,Array.all_eq_true_iff_forall_mem]at h3;have:=h3 ed hm;simpa[hb]using this
end Go.A
end
section
namespace Go.A
variable {P:Program} {T:Nat->Option af}
def Lst(listed:Array Bool)(i:Nat):Prop:=listed.getD i false=true
structure PB (P:Program) (ops:Array Oper) (as:List bg) (base:Nat) (h0:Heap) (listed:Array Bool) (μ:Mu) (a:Act) (done:List Nat) (rs:List Rec) (e:Env) (h:Heap) (r:Rec):Prop where
 done:r.i∈done
 op:as[r.i]? =some r.o
 env:∀t v,geT r.e t=some v->t∈cV r.o/\(¬Lst listed r.i->(∃r'∈rs,¬Lst listed r'.i/\r'.o.dst=some t/\r'.v=v/\r'.i∈iR ops.toList r.i)∨
  ((∀(p:Nat) (ap:bg),as[p]? =some ap->ap.dst=some t->p∈iR ops.toList r.i->Lst listed p)/\∃v',a.tmps[t]? =some v'∧VR μ v v'))
 dst:∀t,r.o.dst=some t->geT e t=some r.v
 kind:match r.k with
  | .skip=>bX r.e r.o.guard=some false/\r.v=undef
  | .quiet=>bX r.e r.o.guard=some true/\(∀f l,r.o.op≠ .jv f l)/\cF r.o.op=true/\aop h base r.e r.o.op=some (.val r.v h)
  | .made b=>bX r.e r.o.guard=some true/\(∀f l,r.o.op≠ .jv f l)/\∃obj o,ops[r.i]? =some o/\h.get b=some obj/\CK P o r.e b r.v obj/\h0.next<=b/\(¬Lst listed r.i->μ b=none)
structure Inv (P:Program) (ops:Array Oper) (as:List bg) (bf:List Nat) (base:Nat) (μ0:Mu) (h0:Heap) (w0:World) (a0:Act) (listed:Array Bool) (μ:Mu) (a:Act) (w:World) (done is:List Nat) (rs:List Rec) (e:Env) (h:Heap):Prop where
 size:listed.size=ops.size
 sub:∀i,Lst listed i->i∈done
 I4:∀i,i∈done->¬Lst listed i->∃r∈rs,r.i=i
 Ay:∀(i m p:Nat),Lst listed i->bf[i]? =some m->p<ops.size->Nat.testBit m p=true->Lst listed p
 topo:topoOk as ops.toList done is=true
 closed:∀j∈done,∀p∈iR ops.toList j,p∈done
 wh:∀(j m p:Nat),j∈done->bf[j]? =some m->p<ops.size->Nat.testBit m p=true->p∈done
 lt:∀i,i∈done->i<ops.size
 all:∀i,i<ops.size->i∈done∨i∈is
 vF:∀i,i∈is->i<ops.size
 oe:∀r∈rs,PB P ops as base h0 listed μ a done rs e h r
 alone:∀r∈rs,∀r'∈rs,∀b,r.k= .made b->r'.k= .made b->r.i=r'.i
 rel:R P μ h w
 st:St μ0 h0 w0 μ h w
 nx0:h0.next<=h.next
 nxb:base<=h.next
 big:P.globals.size<=h0.next
 env:∀t v,geT e t=some v->(∃r∈rs,¬Lst listed r.i/\r.o.dst=some t)∨∃v',a.tmps[t]? =some v'∧VR μ v v'
 tm:a.tmps.size=a0.tmps.size
 df:a.defers=a0.defers
variable {ops:Array Oper} {as:List bg} {bf:List Nat} {base:Nat} {μ0 μ:Mu} {h0 h:Heap} {w0 w:World} {a0 a:Act} {listed:Array Bool} {done is:List Nat} {rs:List Rec} {e:Env} {i:Nat}
theorem Lst.set{i j:Nat}(hi:i<listed.size):Lst (listed.setIfInBounds i true) j↔(j=i∨Lst listed j):=by
 unfold Lst;simp only[Array.getD_eq_getD_getElem?,Array.getElem?_setIfInBounds];by_cases h:i=j
 ·subst h;simp[hi]
 ·simp[h,Ne.symm h]
theorem Inv.before(hI:Inv P ops as bf base μ0 h0 w0 a0 listed μ a w done is rs e h)(hS:Stat as ops.toList bf){i m:Nat}(hi:i∈Region.ready .any ops listed)(hb:bf[i]? =some m){p:Nat}(hp:p<ops.size)(ht:Nat.testBit m p=true):Lst listed p:=by
 obtain⟨q,hq,hpq⟩:=hS.masks i p m (by simpa using(eU hi).1) (by simpa using hp) hb ht;have hlq:=(eU hi).2.2 q hq;rcases hpq with rfl|⟨mq,h1,h2⟩
 ·exact hlq
 ·exact hI.Ay q mq p hlq h1 hp h2
theorem Inv.fresh(hI:Inv P ops as bf base μ0 h0 w0 a0 listed μ a w done (i::is) rs e h)(hS:Stat as ops.toList bf){ai:bg}(hai:as[i]? =some ai){t:Nat}{v:Value}(ht:t∈cV ai)(hv:geT e t=some v):
 (∃r'∈rs,¬Lst listed r'.i/\r'.o.dst=some t/\r'.v=v/\r'.i∈iR ops.toList i)∨((∀(p:Nat) (ap:bg),as[p]? =some ap->ap.dst=some t->p∈iR ops.toList i->Lst listed p)/\∃v',a.tmps[t]? =some v'∧VR μ v v'):=by
 obtain⟨t1,t2,_⟩:=topo_cons hI.topo;have ic:∀r'∈rs,r'.o.dst=some t->r'.v=v/\r'.i∈iR ops.toList i:=λr' hr' hd=>by
  have rin:=hI.oe r' hr';have h1:=rin.dst t hd;rw[hv]at h1;injection h1 with h1
  refine⟨h1.symm,?_⟩;rcases hS.slots i r'.i ai r'.o t hai rin.op ht hd with q|⟨m,q1,q2⟩
  ·exact q
  ·exact(t2 (hI.wh r'.i m i rin.done q1 (hI.vF i (List.mem_cons_self ..)) q2)).elim
 by_cases hp:∃r'∈rs,¬Lst listed r'.i/\r'.o.dst=some t
 ·obtain⟨r',h1,h2,h3⟩:=hp;obtain⟨h4,h5⟩:=ic r' h1 h3;exact .inl ⟨r',h1,h2,h3,h4,h5⟩
 ·right;refine⟨λp ap hap hd hpp=>Classical.byContradiction λhn=> ?_,?_⟩
  ·obtain⟨r',h1,h2⟩:=hI.I4 p (t1 p hpp) hn;have:=(hI.oe r' h1).op;rw[h2,hap]at this;injection this with this
   exact hp ⟨r',h1,by rw[h2];exact hn,by rw[←this];exact hd⟩
  ·rcases hI.env t v hv with⟨r,h1,h2,h3⟩|q
   ·exact(hp ⟨r,h1,h2,h3⟩).elim
   ·exact q
theorem Inv.look(hI:Inv P ops as bf base μ0 h0 w0 a0 listed μ a w done (i::is) rs e h)(hS:Stat as ops.toList bf)(hi:i∈Region.ready .any ops listed){ai:bg}(hai:as[i]? =some ai){er:Env}
 (her:∀t v,geT er t=some v->t∈cV ai/\geT e t=some v):cm μ er a.tmps:=by
 intro t v hv;obtain⟨h1,h2⟩:=her t v hv;rcases hI.fresh hS hai h1 h2 with⟨r',q1,q2,q3,q4,q5⟩|⟨_,q⟩
 ·exact(q2 ((eU hi).2.2 _ q5)).elim
 ·exact q
theorem Inv.QE(hI:Inv P ops as bf base μ0 h0 w0 a0 listed μ a w done is rs e h){r:Rec}(hr:r∈rs)(hi:r.i∈Region.ready .any ops listed)(hn:¬Lst listed r.i):cm μ r.e a.tmps:=by
 intro t v hv;rcases((hI.oe r hr).env t v hv).2 hn with⟨r',q1,q2,q3,q4,q5⟩|⟨_,q⟩
 ·exact(q2 ((eU hi).2.2 _ q5)).elim
 ·exact q
theorem mg{i:Nat}(hs:listed.size=ops.size)(hi:i∈Region.ready .any ops listed):i<listed.size/\¬Lst listed i:=by
 obtain⟨h1,h2,_⟩:=eU hi;have hlt:i<listed.size:=by omega
 refine⟨hlt,λh=> ?_⟩;unfold Lst at h;simp[Array.getD_eq_getD_getElem?,hlt]at h h2;rw[h]at h2;cases h2
theorem Inv.took(hI:Inv P ops as bf base μ0 h0 w0 a0 listed μ a w done is rs e h)(hS:Stat as ops.toList bf){i nt:Nat}(hi:i∈Region.ready .any ops listed){r:Rec}(hr:r∈rs)(hri:r.i=i){dst:Option Nat}(hdst:r.o.dst=dst)
 (hok:j4 nt dst=true)(hnt:nt<=a.tmps.size){μ':Mu}{v':Value}{w':World}(hv:VR μ' r.v v')(hR:R P μ' h w')(hSt:St μ0 h0 w0 μ' h w')(hm:∀b k,μ b=some k->μ' b=some k)
 (hno:∀r'∈rs,r'.i≠i->¬Lst listed r'.i->∀b,r'.k= .made b->μ b=none->μ' b=none):Inv P ops as bf base μ0 h0 w0 a0 (listed.setIfInBounds i true) μ' (a.put dst v') w' done is rs e h:=by
 obtain⟨hlt,hnl⟩:=mg hI.size hi;have hset:∀j,Lst (listed.setIfInBounds i true) j↔(j=i∨Lst listed j):=λj=>Lst.set hlt;have hrin:=hI.oe r hr;refine⟨by simpa using hI.size,λj hj=> ?_,λj hj hn=> ?_,λj m p hj hbf hp hb=> ?_,hI.topo,hI.closed,hI.wh,hI.lt,hI.all,hI.vF,λr' hr'=> ?_,hI.alone,hR,hSt,hI.nx0,hI.nxb,hI.big,λt v hv'=> ?_,by rw[dy];exact hI.tm,by rw[put_defers];exact hI.df⟩
 ·rcases(hset j).1 hj with rfl|h
  ·rw[←hri];exact hrin.done
  ·exact hI.sub j h
 ·exact hI.I4 j hj λh=>hn ((hset j).2 (.inr h))
 ·refine(hset p).2 ?_;rcases(hset j).1 hj with rfl|h
  ·obtain⟨q,hq,hpq⟩:=hS.masks j p m (by simpa using(eU hi).1) (by simpa using hp) hbf hb;have hlq:=(eU hi).2.2 q hq;rcases hpq with rfl|⟨mq,h1,h2⟩
   ·exact .inr hlq
   ·exact .inr (hI.Ay q mq p hlq h1 hp h2)
  ·exact .inr (hI.Ay j m p h hbf hp hb)
 ·have rin:=hI.oe r' hr';refine⟨rin.done,rin.op,λt u hu=> ?_,rin.dst,?_⟩
  ·obtain⟨q0,q⟩:=rin.env t u hu;refine⟨q0,λhn=> ?_⟩;have hne:r'.i≠i:=λe=>hn ((hset _).2 (.inl e));have hnl':¬Lst listed r'.i:=λe=>hn ((hset _).2 (.inr e));rcases q hnl' with⟨r2,k1,k2,k3,k4,k5⟩|⟨k1,v2,k2,k3⟩
   ·by_cases h2:r2.i=i
    ·right;have ho2:r2.o=r.o:=by
      have h1:=(hI.oe r2 k1).op;rw[h2,←hri,hrin.op]at h1;injection h1 with h1;exact h1.symm
     rw[ho2,hdst]at k3;subst k3;have hv2:r.v=u:=by
      have h1:=hrin.dst t hdst;have h2':=(hI.oe r2 k1).dst t (by rw[ho2];exact hdst);rw[h1]at h2';injection h2' with h2'
      rw[h2',k4]
     refine⟨λp ap hap hd hpp=>(hset p).2 (.inl ?_),v',?_,hv2▸hv⟩
     ·exact hS.Nn p i ap r.o t hap (by rw[←hri];exact hrin.op) hd hdst
     ·simp only[j4,Nat.blt_eq]at hok;rw[fZ];simp[Array.getElem?_setIfInBounds,show t<a.tmps.size by omega]
    ·exact .inl ⟨r2,k1,λh=>((hset _).1 h).elim h2 k2,k3,k4,k5⟩
   ·right;refine⟨λp ap hap hd hpp=>(hset p).2 (.inr (k1 p ap hap hd hpp)),v2,?_,k3.mono hm⟩;rw[fZ];cases hdd:dst with
    |none=>exact k2
    |some d=>
     have hdt:d≠t:=λh=>by
      subst h;have hro:r.o.dst=some d:=by rw[hdst,hdd]
      rcases hS.slots r'.i i r'.o r.o d rin.op (by rw[←hri];exact hrin.op) q0 hro with q|⟨m,q1,q2⟩
      ·exact hnl (k1 i r.o (by rw[←hri];exact hrin.op) hro q)
      ·exact hnl' (hI.before hS hi q1 (hI.lt _ rin.done) q2)
     simp[Array.getElem?_setIfInBounds,hdt,k2]
  have hk:=rin.kind;cases hrk:r'.k with
  |skip=>rw[hrk]at hk;exact hk
  |quiet=>rw[hrk]at hk;exact hk
  |made b=>
   rw[hrk]at hk;obtain⟨k1,k2,obj,o,k3,k4,k5,k6,k7⟩:=hk;refine⟨k1,k2,obj,o,k3,k4,k5,k6,λhn=> ?_⟩;have hne:r'.i≠i:=λe=>hn ((hset _).2 (.inl e));have hnl':¬Lst listed r'.i:=λe=>hn ((hset _).2 (.inr e));exact hno r' hr' hne hnl' b hrk (k7 hnl')
 ·by_cases ht:dst=some t
  ·right;have:=hrin.dst t (by rw[hdst];exact ht);rw[hv']at this;cases this;subst ht;simp only[j4,Nat.blt_eq]at hok;refine⟨v',?_,hv⟩;rw[fZ];simp[Array.getElem?_setIfInBounds,show t<a.tmps.size by omega]
  ·rcases hI.env t v hv' with⟨r',q1,q2,q3⟩|⟨v2,q1,q2⟩
   ·left;refine⟨r',q1,λh=> ?_,q3⟩;rcases(hset _).1 h with h|h
    ·have rin:=hI.oe r' q1;have:r'.o=r.o:=by
      have h1:=rin.op;have h2:=hrin.op;rw[h,←hri,h2]at h1;injection h1 with h1;exact h1.symm
     rw[this,hdst]at q3;exact ht q3
    ·exact q2 h
   ·right;refine⟨v2,?_,q2.mono hm⟩;rw[fZ];cases dst with
    |none=>exact q1
    |some d=>
     have:d≠t:=λh=>ht (by rw[h]);simp[Array.getElem?_setIfInBounds,this,q1]
theorem Inv.ic(hI:Inv P ops as bf base μ0 h0 w0 a0 listed μ a w done is rs e h)(hS:Stat as ops.toList bf){nt:Nat}(hnt:nt<=a.tmps.size)(hcs:bY P nt ops ops.toList=some as){i:Nat}(hi:i∈Region.ready .any ops listed)(hd:i∈done)
 {rd:Option Nat}{K:Act->World->Prop}{Q:Exit->Act->World->Prop}(hK:∀μ' a' w',Inv P ops as bf base μ0 h0 w0 a0 (listed.setIfInBounds i true) μ' a' w' done is rs e h->K a' w'):wpOpIn (Fw rd) 0 P ops Q i K a w:=by
 obtain⟨hlt,hnl⟩:=mg hI.size hi;obtain⟨r,hr,hri⟩:=hI.I4 i hd hnl;have rin:=hI.oe r hr;have hio:i<ops.size:=(eU hi).1;obtain⟨o,ho⟩:∃o,ops[i]? =some o:=⟨ops[i],by simp[hio]⟩;obtain⟨ao,h1,c1,c2,c3,c5⟩:=(jH hcs).2 i o (by simpa using ho);have hao:ao=r.o:=by
  have:=rin.op;rw[hri,h1]at this;injection this
 subst hao;have hE:cm μ r.e a.tmps:=hI.QE hr (by rw[hri];exact hi) (by rw[hri];exact hnl);have hw:∀b,bX r.e r.o.guard=some b->Region.wanted o (yielded ops a.tmps)=b:=λb hb=>c5 (λs _ _ v hv=>hE s v hv) hb;have hk:=rin.kind;unfold wpOpIn;simp only[ho];cases hrk:r.k with
 |skip=>
  rw[hrk]at hk;rw[hw _ hk.1];simp only[Bool.false_eq_true,if_false];refine⟨λ_ _=>fM,hK μ _ _ ?_⟩;exact hI.took hS hi hr hri c2 c1 hnt (by rw[hk.2];exact(VR.cT (v:=undef) rfl).1) hI.rel hI.st (λ_ _ h=>h) (λ_ _ _ _ _ _ h=>h)
 |quiet=>
  rw[hrk]at hk;obtain⟨k1,k2,_,k3⟩:=hk;rw[hw _ k1];simp only[if_true];refine⟨λ_ _=>fM,?_⟩;rw[Oper.semAt_eq _ _ _ (qH c3 k2)];refine ve (Du hI.rel hE c3 k3) λμ' v' w' q1 q2 q3=>hK μ' _ _ ?_;have hm:=q3.mono hI.rel;refine hI.took hS hi hr hri c2 c1 hnt q1 q2 (hI.st.trans q3 hI.nx0) hm λr' hr' _ hnl' b hb hb0=> ?_;have hk':=(hI.oe r' hr').kind;rw[hb]at hk';obtain⟨_,_,obj,_,_,hg,_⟩:=hk';rw[q3.ext b (hI.rel.lt b _ hg)];exact hb0
 |made b=>
  rw[hrk]at hk;obtain⟨k1,k2,obj,o',k3,k4,k5,k6,k7⟩:=hk;rw[hri,ho]at k3;cases k3;rw[hw _ k1];simp only[if_true];refine⟨λ_ _=>fM,?_⟩;rw[Oper.semAt_eq _ _ _ (qH c3 k2)];obtain⟨v',mobj,w',k,q1,qs,q2,q3,q4⟩:=k5.2.2 μ h w a hI.rel hE;have hb0:=k7 (by rw[hri];exact hnl);have hm:∀c k',μ c=some k'→upd μ b k c=some k':=λc k' hc=>by
   unfold upd;rw[if_neg];exact hc;intro e;subst e;rw[hb0]at hc;cases hc
  obtain⟨s1,s2⟩:=q4 (upd μ b k) hm (dY _ _ _);rw[q1];refine hK (upd μ b k) _ w' ?_;refine hI.took hS hi hr hri c2 c1 hnt s1 (hI.rel.late q2 q3 k4 hb0 (Nat.le_trans hI.big k6) s2) (hI.st.late q2 q3 k6 hb0 qs) hm λr' hr' hne hnl' b' hb' hb0'=> ?_;unfold upd;rw[if_neg]
  ·exact hb0'
  ·intro e;subst e;exact hne ((hI.alone r' hr' r hr b' hb' hrk).trans hri)
end Go.A
end
section
namespace Go.A
variable {h:Heap} {e:Env} {base:Nat}
theorem kZ:∀{a b:List Value},(∀x∈a,∀y,jU x y=true->x=y)->jh a b=true->a=b
 |[],[],_,_=>rfl
 |[],_::_,_,h=>by simp[jh]at h
 |_::_,[],_,h=>by simp[jh]at h
 |x::xs,y::ys,hx,h=>by
  simp only[jh,cond_eq_ite]at h;split at h
  ·rename_i h1;rw[hx x (by simp) y h1,kZ (λz hz=>hx z (by simp[hz])) h]
  ·cases h
theorem Ea{a b:ByteArray}(h:a.data.toList=b.data.toList):a=b:=by
 obtain⟨⟨x⟩⟩:=a;obtain⟨⟨y⟩⟩:=b;simp at h;rw[h]
theorem kY{x y:Value}(h:jU x y=true):x=y:=by
 unfold jU at h;split at h<;>(try simp only[Bool.and_eq_true,beq_iff_eq]at h)
 all_goals first
  |rfl
  |(cases h;done)
  |(subst h;rfl)
  |(obtain⟨h1,h2⟩:=h;subst h1;subst h2;rfl)
  |(rw[Ea h];done)
  |(obtain⟨⟨h1,h2⟩,h3⟩:=h;subst h1;subst h2;subst h3;rfl)
theorem ri{x y:Value}(h:iG x y=true):x=y:=by
 unfold iG at h;split at h
 ·rw[dO (kZ (λ_ _ _ h=>kY h) h)]
 ·rw[dO (kZ (λ_ _ _ h=>kY h) h)]
 ·simp only[Bool.and_eq_true,beq_iff_eq]at h;obtain⟨h1,h2,h3⟩:=h;rw[h1,dO (kZ (λ_ _ _ h=>kY h) h2),dO (kZ (λ_ _ _ h=>kY h) h3)]
 ·simp only[Bool.and_eq_true,beq_iff_eq]at h;obtain⟨h1,h2,h3⟩:=h;rw[h1,dO (kZ (λ_ _ _ h=>kY h) h2),dO (kZ (λ_ _ _ h=>kY h) h3)]
 ·exact kY h
theorem vM{ao:AOp}{v:Value}{h':Heap}(hq:cF ao=true)(h1:aop h base e ao=some (.val v h')):h'=h∨∃o,h'=h.push o:=by
 have sl:∀{size:Nat} {a:Option Addr} {len cap:Nat} {lo hi mx:Option Operand},jL h e size a len cap lo hi mx=some (v,h')->h'=h∨∃o,h'=h.push o:=λhh=>by
  unfold jL at hh;simp only[cond_eq_ite]at hh;repeat' split at hh
  all_goals first
   |(cases hh;done)
   |(cases hh;exact .inl rfl)
   |(cases hh;exact .inr ⟨_,rfl⟩)
 have pr:∀{x:Option (Value×Heap)},gV x=some (.val v h')->x=some (v,h'):=λhh=>fI hh;cases ao<;>(try (simp[cF]at hq;done))
 case mov=>obtain⟨v,_,h2⟩:=an h1;cases h2;exact .inl rfl
 case ia=>obtain⟨v,_,h2⟩:=an h1;cases h2;exact .inl rfl
 case un=>obtain⟨v,_,h2⟩:=an h1;obtain⟨v,_,h2⟩:=an h2;cases h2;exact .inl rfl
 case load=>obtain⟨v,_,h2⟩:=an h1;obtain⟨v,_,h2⟩:=an h2;cases h2;exact .inl rfl
 case conv c x=>
  obtain⟨xv,_,h2⟩:=an h1;have h2:=pr h2;unfold o7 at h2;repeat' split at h2
  all_goals first
   |(cases h2;done)
   |(cases h2;exact .inl rfl)
   |(cases h2;exact .inr ⟨_,rfl⟩)
 case bC=>
  obtain⟨v,_,h2⟩:=an h1;split at h2<;>cases h2;exact .inl rfl
 case bin op x y=>
  cases op;case num=>
   obtain⟨v,_,h2⟩:=an h1;obtain⟨v,_,h2⟩:=an h2;obtain⟨v,_,h2⟩:=an h2;cases h2;exact .inl rfl
  case beq=>simp only[aop]at h1;split at h1<;>cases h1;exact .inl rfl
  case nil=>
   obtain⟨v,_,h2⟩:=an h1;obtain⟨v,_,h2⟩:=an h2;split at h2<;>cases h2;exact .inl rfl
  case agg=>
   obtain⟨v,_,h2⟩:=an h1;obtain⟨v,_,h2⟩:=an h2;split at h2
   ·split at h2<;>cases h2;exact .inl rfl
   ·cases h2
 case pick=>
  simp only[aop]at h1;split at h1
  ·obtain⟨v,_,h2⟩:=an h1;cases h2;exact .inl rfl
  ·obtain⟨v,_,h2⟩:=an h1;cases h2;exact .inl rfl
  ·cases h1
 case slice k x lo hi mx=>
  cases k<;>cases mx<;>simp only[aop]at h1
  ·repeat' split at h1
   all_goals first|(cases h1;done)|skip
   simp only[cond_eq_ite,Option.ite_none_right_eq_some]at h1;obtain⟨_,h1⟩:=h1;cases h1;exact .inl rfl
  ·cases h1
  all_goals
   split at h1
   ·exact sl (pr h1)
   ·cases h1
 case len k x=>
  match k with
  |0=>simp only[aop]at h1;split at h1<;>cases h1;exact .inl rfl
  |1=>simp only[aop]at h1;split at h1<;>cases h1;exact .inl rfl
  |k+2=>
   simp only[aop]at h1;split at h1
   ·cases h1;exact .inl rfl
   ·split at h1<;>cases h1;exact .inl rfl
   ·cases h1
 case bI=>simp only[aop]at h1;repeat' split at h1
          all_goals first|(cases h1;done)|(simp only[cond_eq_ite,Option.ite_none_right_eq_some]at h1;obtain⟨_,h1⟩:=h1;cases h1;exact .inl rfl)
 case aH=>simp only[aop]at h1;repeat' split at h1
          all_goals first|(cases h1;done)|(simp only[cond_eq_ite,Option.ite_none_right_eq_some]at h1;obtain⟨_,h1⟩:=h1;cases h1;exact .inl rfl)
 case jA=>cases h1;exact .inl rfl
 all_goals
  revert h1;simp only[aop,cond_eq_ite];intro h1;repeat' split at h1
  all_goals first
   |(cases h1;done)
   |(cases h1;exact .inl rfl)
   |(obtain⟨v,_,h2⟩:=an h1;cases h2;exact .inl rfl)
end Go.A
end
section
namespace Go.A
variable {P:Program} {T:Nat->Option af}
variable {ops:Array Oper} {as:List bg} {bf:List Nat} {base:Nat} {μ0 μ:Mu} {h0 h:Heap} {w0 w:World} {a0 a:Act} {listed:Array Bool} {done is:List Nat} {rs:List Rec} {e:Env}
def tS(P:Program)(ops:Array Oper)(base:Nat)(h0:Heap)(listed:Array Bool)(μ:Mu)(h:Heap)(r:Rec):Prop:=
 match r.k with
  | .skip=>bX r.e r.o.guard=some false/\r.v=undef
  | .quiet=>bX r.e r.o.guard=some true/\(∀f l,r.o.op≠ .jv f l)/\cF r.o.op=true/\aop h base r.e r.o.op=some (.val r.v h)
  | .made b=>bX r.e r.o.guard=some true/\(∀f l,r.o.op≠ .jv f l)/\∃obj o,ops[r.i]? =some o/\h.get b=some obj/\CK P o r.e b r.v obj/\h0.next<=b/\(¬Lst listed r.i->μ b=none)
theorem kA:∀{l:List Nat} {t:Nat} {v:Value},geT (cE e l) t=some v->t∈l/\geT e t=some v
 |[],_,_,h=>by simp[cE,geT]at h
 |x::l,t,v,h=>by
  simp only[cE]at h;split at h
  ·rename_i u hu;simp only[geT,cond_eq_ite,beq_eq,decide_eq_true_eq]at h;split at h
   ·rename_i e;subst e;cases h;exact⟨by simp,hu⟩
   ·have:=kA h;exact⟨by simp[this.1],this.2⟩
  ·have:=kA h;exact⟨by simp[this.1],this.2⟩
theorem qy{d:Option Nat}{v:Value}{t:Nat}:geT (cI e d v) t=if d=some t then some v else geT e t:=by
 cases d with
 |none=>simp[cI]
 |some x=>simp[cI,geT,cond_eq_ite,beq_eq]
theorem Inv.adv{i:Nat}(hI:Inv P ops as bf base μ0 h0 w0 a0 listed μ a w done (i::is) rs e h)(hS:Stat as ops.toList bf){ai:bg}(hai:as[i]? =some ai){v:Value}{k:Rk}{h2:Heap}(hR:R P μ h2 w)(hSt:St μ0 h0 w0 μ h2 w)(hn:h.next<=h2.next)
 (hk:tS P ops base h0 listed μ h2 ⟨i,ai,cE e (cV ai),v,k⟩)(hks:∀r∈rs,tS P ops base h0 listed μ h2 r)(hal:∀b,k= .made b->∀r∈rs,r.k≠ .made b):
 Inv P ops as bf base μ0 h0 w0 a0 listed μ a w (i::done) is (⟨i,ai,cE e (cV ai),v,k⟩::rs) (cI e ai.dst v) h2:=by
 obtain⟨t1,t2,t3,_⟩:=topo_cons hI.topo;have hni:¬Lst listed i:=λh=>t2 (hI.sub i h);refine⟨hI.size,λj hj=>List.mem_cons_of_mem _ (hI.sub j hj),λj hj hn=> ?_,hI.Ay,t3,λj hj p hp=> ?_,λj m p hj hb hp hbit=> ?_,λj hj=> ?_,λj hj=> ?_,λj hj=>hI.vF j (List.mem_cons_of_mem _ hj),λr hr=> ?_,λr hr r' hr' b hb hb'=> ?_,hR,hSt,Nat.le_trans hI.nx0 hn,Nat.le_trans hI.nxb hn,hI.big,λt u hu=> ?_,hI.tm,hI.df⟩
 ·rcases List.mem_cons.1 hj with rfl|hj
  ·exact⟨_,List.mem_cons_self ..,rfl⟩
  ·obtain⟨r,h1,h2⟩:=hI.I4 j hj hn;exact⟨r,List.mem_cons_of_mem _ h1,h2⟩
 ·rcases List.mem_cons.1 hj with rfl|hj
  ·exact List.mem_cons_of_mem _ (t1 p hp)
  ·exact List.mem_cons_of_mem _ (hI.closed j hj p hp)
 ·rcases List.mem_cons.1 hj with rfl|hj
  ·obtain⟨q,hq,hpq⟩:=hS.masks j p m (by simpa using hI.vF j (List.mem_cons_self ..)) (by simpa using hp) hb hbit;rcases hpq with rfl|⟨mq,h1,h2⟩
   ·exact List.mem_cons_of_mem _ (t1 p hq)
   ·exact List.mem_cons_of_mem _ (hI.wh q mq p (t1 q hq) h1 hp h2)
  ·exact List.mem_cons_of_mem _ (hI.wh j m p hj hb hp hbit)
 ·rcases List.mem_cons.1 hj with rfl|hj
  ·exact hI.vF _ (List.mem_cons_self ..)
  ·exact hI.lt j hj
 ·rcases hI.all j hj with h|h
  ·exact .inl (List.mem_cons_of_mem _ h)
  ·rcases List.mem_cons.1 h with rfl|h
   ·exact .inl (List.mem_cons_self ..)
   ·exact .inr h
 ·rcases List.mem_cons.1 hr with rfl|hr
  ·refine⟨List.mem_cons_self ..,hai,λt u hu=> ?_,λt ht=> ?_,hk⟩
   ·obtain⟨q1,q2⟩:=kA hu;refine⟨q1,λ_=> ?_⟩;rcases hI.fresh hS hai q1 q2 with⟨r',k1,k2⟩|k
    ·exact .inl ⟨r',List.mem_cons_of_mem _ k1,k2⟩
    ·exact .inr k
   ·rw[qy,if_pos ht]
  ·have rin:=hI.oe r hr;refine⟨List.mem_cons_of_mem _ rin.done,rin.op,λt u hu=> ?_,λt ht=> ?_,hks r hr⟩
   ·obtain⟨q1,q2⟩:=rin.env t u hu;refine⟨q1,λhn=>(q2 hn).imp (λ⟨r',k1,k2⟩=>⟨r',List.mem_cons_of_mem _ k1,k2⟩) id⟩
   ·rw[qy,if_neg]
    ·exact rin.dst t ht
    ·intro hd;have:=hS.Nn r.i i r.o ai t rin.op hai ht hd;exact t2 (this▸rin.done)
 ·rcases List.mem_cons.1 hr with rfl|hr<;>rcases List.mem_cons.1 hr' with rfl|hr'
  ·rfl
  ·exact(hal b hb r' hr' hb').elim
  ·exact(hal b hb' r hr hb).elim
  ·exact hI.alone r hr r' hr' b hb hb'
 ·rw[qy]at hu;split at hu
  ·rename_i hd;exact .inl ⟨_,List.mem_cons_self ..,hni,hd⟩
  ·rcases hI.env t u hu with⟨r,q1,q2,q3⟩|q
   ·exact .inl ⟨r,List.mem_cons_of_mem _ q1,q2,q3⟩
   ·exact .inr q
theorem mR{h2:Heap}{log:List Nat}{mask:Nat}:∀{rs rs':List Rec},bL h2 base log mask rs=some rs'→
 (∀r∈rs',r∈rs/\pT h2 base r=true/\ET log r=true)/\∀r∈rs,Nat.testBit mask r.i=false->r∈rs'
 |[],rs',h=>by cases h;exact⟨λr hr=>(by cases hr),λr hr=>(by cases hr)⟩
 |r::rs,rs',h=>by
  simp only[bL,cond_eq_ite]at h;split at h
  ·rename_i hb;obtain⟨q1,q2⟩:=mR h;refine⟨λx hx=>⟨List.mem_cons_of_mem _ (q1 x hx).1,(q1 x hx).2⟩,λx hx hn=> ?_⟩;rcases List.mem_cons.1 hx with rfl|hx
   ·rw[hb]at hn;cases hn
   ·exact q2 x hx hn
  ·split at h
   ·rename_i hc;simp only[Bool.and_eq_true]at hc;split at h
    ·rename_i rs2 h2;cases h;obtain⟨q1,q2⟩:=mR h2;refine⟨λx hx=> ?_,λx hx hn=> ?_⟩
     ·rcases List.mem_cons.1 hx with rfl|hx
      ·exact⟨List.mem_cons_self ..,hc⟩
      ·exact⟨List.mem_cons_of_mem _ (q1 x hx).1,(q1 x hx).2⟩
     ·rcases List.mem_cons.1 hx with rfl|hx
      ·exact List.mem_cons_self ..
      ·exact List.mem_cons_of_mem _ (q2 x hx hn)
    ·cases h
   ·cases h
theorem DC{h2:Heap}{r:Rec}(hq:pT h2 base r=true)(hk:r.k= .quiet)(hqa:cF r.o.op=true):aop h2 base r.e r.o.op=some (.val r.v h2):=by
 unfold pT at hq;rw[hk]at hq;simp only at hq;split at hq
 ·rename_i v' h3 hv;simp only[Bool.and_eq_true,beq_eq,decide_eq_true_eq]at hq;have e1:=ri hq.1;rcases vM hqa hv with rfl|⟨o,rfl⟩
  ·rw[hv,e1]
  ·exact absurd hq.2 (by show¬h2.next+1=h2.next;omega)
 ·cases hq
theorem Inv.bar{i nt mask:Nat}(hI:Inv P ops as bf base μ0 h0 w0 a0 listed μ a w done (i::is) rs e h)(hS:Stat as ops.toList bf)(hi:i∈Region.ready .any ops listed){ai:bg}(hai:as[i]? =some ai)(hbf:bf[i]? =some mask)
 (hok:j4 nt ai.dst=true)(hnt:nt<=a.tmps.size){v v':Value}{μ':Mu}{h2:Heap}{w':World}{log:List Nat}{rs':List Rec}(hv:VR μ' v v')(hR:R P μ' h2 w')(hSt:St μ h w μ' h2 w')(hn:h.next<=h2.next)
 (hsame:∀b,b<h.next->fB log b=false->h2.get b=h.get b)(hrs:bL h2 base log mask rs=some rs'):
 Inv P ops as bf base μ0 h0 w0 a0 (listed.setIfInBounds i true) μ' (a.put ai.dst v') w' (i::done) is rs' (cI e ai.dst v) h2:=by
 obtain⟨t1,t2,t3,_⟩:=topo_cons hI.topo;obtain⟨hlt,hnl⟩:=mg hI.size hi;have hset:∀j,Lst (listed.setIfInBounds i true) j↔(j=i∨Lst listed j):=λj=>Lst.set hlt;obtain⟨s1,s2⟩:=mR hrs;have hm:=hSt.mono hI.rel;have hmask:∀p,p<ops.size->Nat.testBit mask p=true->Lst listed p:=λp hp hb=>hI.before hS hi hbf hp hb;refine⟨by simpa using hI.size,λj hj=> ?_,λj hj hn'=> ?_,λj m p hj hb hp hbit=> ?_,t3,λj hj p hp=> ?_,λj m p hj hb hp hbit=> ?_,λj hj=> ?_,λj hj=> ?_,λj hj=>hI.vF j (List.mem_cons_of_mem _ hj),λr hr=> ?_,λr hr r' hr' b hb hb'=>hI.alone r (s1 r hr).1 r' (s1 r' hr').1 b hb hb',hR,
  hI.st.trans hSt hI.nx0,Nat.le_trans hI.nx0 hn,Nat.le_trans hI.nxb hn,hI.big,λt u hu=> ?_,by rw[dy];exact hI.tm,by rw[put_defers];exact hI.df⟩
 ·rcases(hset j).1 hj with rfl|h
  ·exact List.mem_cons_self ..
  ·exact List.mem_cons_of_mem _ (hI.sub j h)
 ·rcases List.mem_cons.1 hj with rfl|hj
  ·exact(hn' ((hset _).2 (.inl rfl))).elim
  ·have hnj:¬Lst listed j:=λh=>hn' ((hset j).2 (.inr h));obtain⟨r,h1,h3⟩:=hI.I4 j hj hnj;refine⟨r,s2 r h1 ?_,h3⟩;cases hb:Nat.testBit mask r.i with
   |false=>rfl
   |true=>exact(hnj (h3▸hmask r.i (h3▸hI.lt j hj) hb)).elim
 ·rcases(hset j).1 hj with rfl|h
  ·rw[hbf]at hb;cases hb;exact(hset p).2 (.inr (hmask p hp hbit))
  ·exact(hset p).2 (.inr (hI.Ay j m p h hb hp hbit))
 ·rcases List.mem_cons.1 hj with rfl|hj
  ·exact List.mem_cons_of_mem _ (t1 p hp)
  ·exact List.mem_cons_of_mem _ (hI.closed j hj p hp)
 ·rcases List.mem_cons.1 hj with rfl|hj
  ·obtain⟨q,hq,hpq⟩:=hS.masks j p m (by simpa using hI.vF j (List.mem_cons_self ..)) (by simpa using hp) hb hbit;rcases hpq with rfl|⟨mq,h1,h2⟩
   ·exact List.mem_cons_of_mem _ (t1 p hq)
   ·exact List.mem_cons_of_mem _ (hI.wh q mq p (t1 q hq) h1 hp h2)
  ·exact List.mem_cons_of_mem _ (hI.wh j m p hj hb hp hbit)
 ·rcases List.mem_cons.1 hj with rfl|hj
  ·exact hI.vF _ (List.mem_cons_self ..)
  ·exact hI.lt j hj
 ·rcases hI.all j hj with h|h
  ·exact .inl (List.mem_cons_of_mem _ h)
  ·rcases List.mem_cons.1 h with rfl|h
   ·exact .inl (List.mem_cons_self ..)
   ·exact .inr h
 ·obtain⟨hr0,hrq,hrm⟩:=s1 r hr;have rin:=hI.oe r hr0;refine⟨List.mem_cons_of_mem _ rin.done,rin.op,λt u hu=> ?_,λt ht=> ?_,?_⟩
  ·obtain⟨q1,q2⟩:=rin.env t u hu;refine⟨q1,λhn=> ?_⟩;have hnl':¬Lst listed r.i:=λh=>hn ((hset _).2 (.inr h));rcases q2 hnl' with⟨r2,k1,k2,k3,k4,k5⟩|⟨k1,v2,k2,k3⟩
   ·left;refine⟨r2,s2 r2 k1 ?_,λh=> ?_,k3,k4,k5⟩
    ·cases hb:Nat.testBit mask r2.i with
     |false=>rfl
     |true=>exact(k2 (hmask r2.i (hI.lt _ (hI.oe r2 k1).done) hb)).elim
    ·rcases(hset _).1 h with h|h
     ·exact t2 (h▸(hI.oe r2 k1).done)
     ·exact k2 h
   ·right;refine⟨λp ap hap hd hpp=>(hset p).2 (.inr (k1 p ap hap hd hpp)),v2,?_,k3.mono hm⟩;rw[fZ];cases hdd:ai.dst with
    |none=>exact k2
    |some d=>
     have hdt:d≠t:=λh=>by
      subst h;rcases hS.slots r.i i r.o ai d rin.op hai q1 hdd with q|⟨m,k4,k5⟩
      ·exact t2 (hI.closed _ rin.done i q)
      ·exact hnl' (hI.before hS hi k4 (hI.lt _ rin.done) k5)
     simp[Array.getElem?_setIfInBounds,hdt,k2]
  ·rw[qy,if_neg]
   ·exact rin.dst t ht
   ·intro hd;have:=hS.Nn r.i i r.o ai t rin.op hai ht hd;exact t2 (this▸rin.done)
  ·have hk:=rin.kind;cases hrk:r.k with
   |skip=>rw[hrk]at hk;exact hk
   |quiet=>
    rw[hrk]at hk;obtain⟨k1,k2,k3,_⟩:=hk;exact⟨k1,k2,k3,DC hrq hrk k3⟩
   |made b=>
    rw[hrk]at hk;obtain⟨k1,k2,obj,o,k3,k4,k5,k6,k7⟩:=hk;have hlog:fB log b=false:=by
     unfold ET at hrm;rw[hrk]at hrm;simpa using hrm
    have hbl:=hI.rel.lt b _ k4;refine⟨k1,k2,obj,o,k3,by rw[hsame b hbl hlog];exact k4,k5,k6,λhn'=> ?_⟩;rw[hSt.ext b hbl];exact k7 λh=>hn' ((hset _).2 (.inr h))
 ·rw[qy]at hu;by_cases hd:ai.dst=some t
  ·rw[if_pos hd]at hu;cases hu;right;rw[hd]at hok⊢;simp only[j4,Nat.blt_eq]at hok;refine⟨v',?_,hv⟩;rw[fZ];simp[Array.getElem?_setIfInBounds,show t<a.tmps.size by omega]
  ·rw[if_neg hd]at hu;rcases hI.env t u hu with⟨r,q1,q2,q3⟩|⟨v2,q1,q2⟩
   ·left;have rin:=hI.oe r q1;refine⟨r,s2 r q1 ?_,λh=> ?_,q3⟩
    ·cases hb:Nat.testBit mask r.i with
     |false=>rfl
     |true=>exact(q2 (hmask r.i (hI.lt _ rin.done) hb)).elim
    ·rcases(hset _).1 h with h|h
     ·exact t2 (h▸rin.done)
     ·exact q2 h
   ·right;refine⟨v2,?_,q2.mono hm⟩;rw[fZ];cases hdd:ai.dst with
    |none=>exact q1
    |some d=>
     have:d≠t:=λh=>hd (by rw[hdd,h]);simp[Array.getElem?_setIfInBounds,this,q1]
end Go.A
end
section
namespace Go.A
variable {P:Program} {T:Nat->Option af}
def unl(ops:Array Oper)(listed:Array Bool):Nat:=((List.range ops.size).filter λi=> !listed.getD i false).length
def zL(P:Program)(μ0:Mu)(h0:Heap)(w0:World)(a0:Act)(x:br)(e':Env)(h':Heap):Exit->Act->World->Prop:=λex a' w'=>
 ∃μ',XR μ' x ex/\R P μ' h' w'∧St μ0 h0 w0 μ' h' w'∧cm μ' e' a'.tmps/\a'.tmps.size=a0.tmps.size/\a'.defers=a0.defers
theorem BB{l:List Nat}(hn:l.Nodup){p q:Nat->Bool}{i:Nat}(hi:i∈l)(hp:p i=true)(hq:q i=false)(hne:∀j,j≠i->q j=p j):(l.filter q).length+1=(l.filter p).length:=by
 induction l with
 |nil=>cases hi
 |cons x l ih=>
  simp only[List.nodup_cons]at hn;by_cases hx:x=i
  ·subst hx;have:l.filter q=l.filter p:=List.filter_congr λj hj=>hne j λe=>hn.1 (e▸hj);simp[hp,hq,this]
  ·have hi':i∈l:=by rcases List.mem_cons.1 hi with h|h;exact absurd h.symm hx;exact h
   have:=ih hn.2 hi';rw[List.filter_cons,List.filter_cons,hne x hx];by_cases hpx:p x=true
   ·rw[if_pos hpx,if_pos hpx,List.length_cons,List.length_cons];omega
   ·rw[if_neg hpx,if_neg hpx];exact this
theorem L5{ops:Array Oper}{listed:Array Bool}{i:Nat}(hs:listed.size=ops.size)(hi:i<ops.size)(hn:¬Lst listed i):unl ops (listed.setIfInBounds i true)+1=unl ops listed:=by
 unfold unl;refine BB List.nodup_range (by simpa using hi) ?_ ?_ (λj hj=> ?_)
 ·unfold Lst at hn;simpa using hn
 ·simp[Array.getD_eq_getD_getElem?,Array.getElem?_setIfInBounds,show i<listed.size by omega]
 ·simp[Array.getD_eq_getD_getElem?,Array.getElem?_setIfInBounds,Ne.symm hj]
theorem JI{ops:Array Oper}{listed:Array Bool}(h:unl ops listed=0):∀i,i<ops.size->Lst listed i:=by
 intro i hi;have h2:=List.length_eq_zero_iff.1 h;rw[List.filter_eq_nil_iff]at h2;have h3:=h2 i (by simpa using hi);unfold Lst;simpa using h3
def Ord(ops:List Oper):List Nat->Prop
 |[]=>True
 |i::d=>(∀p∈iR ops i,p∈d)/\Ord ops d
theorem AY{ops:Array Oper}{listed:Array Bool}{i:Nat}(hi:i<ops.size)(hs:listed.size=ops.size)(hn:¬Lst listed i)(hp:∀p∈iR ops.toList i,Lst listed p):i∈Region.ready .any ops listed:=by
 rw[mem_ready];obtain⟨o,ho⟩:∃o,ops[i]? =some o:=⟨ops[i],by simp[hi]⟩;refine⟨?_,o,ho,λe he hb=> ?_⟩
 ·unfold Lst at hn;simp[Array.getD_eq_getD_getElem?,show i<listed.size by omega]at hn⊢;exact hn
 ·refine hp e.on ?_;simp only[iR,cA,Array.getElem?_toList,ho,Cb,List.mem_map,List.mem_filter,Array.mem_toList_iff];exact⟨e,⟨he,hb⟩,rfl⟩
theorem Dv{ops:List Oper}{listed:Array Bool}:∀{d:List Nat},Ord ops d->(∃j∈d,¬Lst listed j)->∃j∈d,¬Lst listed j/\∀p∈iR ops j,Lst listed p
 |[],_,⟨j,hj,_⟩=>by cases hj
 |x::d,ho,hex=>by
  by_cases h:∃j∈d,¬Lst listed j
  ·obtain⟨j,h1,h2⟩:=Dv ho.2 h;exact⟨j,List.mem_cons_of_mem _ h1,h2⟩
  ·have hall:∀j∈d,Lst listed j:=λj hj=>Classical.byContradiction λhn=>h ⟨j,hj,hn⟩;obtain⟨j,hj,hn⟩:=hex;rcases List.mem_cons.1 hj with rfl|hj
   ·exact⟨j,List.mem_cons_self ..,hn,λp hp=>hall p (ho.1 p hp)⟩
   ·exact(hn (hall j hj)).elim
theorem topo_not{as:List bg}{ops:List Oper}:∀{is done:List Nat},topoOk as ops done is=true->∀p∈is,p ∉ done
 |[],_,_,p,hp=>by cases hp
 |i::is,done,h,p,hp=>by
  obtain⟨_,t2,t3,_⟩:=topo_cons h;rcases List.mem_cons.1 hp with rfl|hp
  ·exact t2
  ·exact λhd=>topo_not t3 p hp (List.mem_cons_of_mem _ hd)
variable {ops:Array Oper} {as:List bg} {bf:List Nat} {base:Nat} {μ0 μ:Mu} {h0 h:Heap} {w0 w:World} {a0 a:Act} {listed:Array Bool} {done is:List Nat} {rs:List Rec} {e:Env}
theorem Inv.Cq(hI:Inv P ops as bf base μ0 h0 w0 a0 listed μ a w done is rs e h)(ho:Ord ops.toList done)(hr:Region.ready .any ops listed=[]):∀i,i<ops.size->Lst listed i:=by
 have hdone:∀j∈done,Lst listed j:=λj hj=>Classical.byContradiction λhn=>by
  obtain⟨k,h1,h2,h3⟩:=Dv ho ⟨j,hj,hn⟩;have:=AY (hI.lt k h1) hI.size h2 h3;rw[hr]at this;cases this
 intro i hi;rcases hI.all i hi with h|h
 ·exact hdone i h
 ·exfalso;cases is with
  |nil=>cases h
  |cons x is=>
   obtain⟨t1,t2,_⟩:=topo_cons hI.topo;have:=AY (hI.vF x (List.mem_cons_self ..)) hI.size (λhl=>t2 (hI.sub x hl)) (λp hp=>hdone p (t1 p hp));rw[hr]at this;cases this
theorem Inv.fin(hI:Inv P ops as bf base μ0 h0 w0 a0 listed μ a w done is rs e h)(hall:∀i,i<ops.size->Lst listed i):zL P μ0 h0 w0 a0 .normal e h .normal a w:=
 ⟨μ,trivial,hI.rel,hI.st,λt v hv=>by
  rcases hI.env t v hv with⟨r,h1,h2,_⟩|h
  ·exact(h2 (hall _ (hI.lt _ (hI.oe r h1).done))).elim
  ·exact h,hI.tm,hI.df⟩
theorem Inv.run{nt:Nat}{rd:Option Nat}{Q:Exit->Act->World->Prop}(hS:Stat as ops.toList bf)(hcs:bY P nt ops ops.toList=some as)(hnt:nt<=a0.tmps.size)(ho:Ord ops.toList done)
 (hfin:∀(listed:Array Bool) (μ:Mu) (a:Act) (w:World),Inv P ops as bf base μ0 h0 w0 a0 listed μ a w done is rs e h->(∀i,i<ops.size->Lst listed i)->Q .normal a w)
 (hbar:∀(listed:Array Bool) (μ:Mu) (a:Act) (w:World) (i:Nat),Inv P ops as bf base μ0 h0 w0 a0 listed μ a w done is rs e h→i∈Region.ready .any ops listed→i ∉ done→∀k,unl ops (listed.setIfInBounds i true)=k→
   wpOpIn (Fw rd) 0 P ops Q i (wpAnyIn (Fw rd) 0 P .any ops Q k (listed.setIfInBounds i true)) a w):
 ∀(k:Nat) (listed:Array Bool) (μ:Mu) (a:Act) (w:World),unl ops listed=k->Inv P ops as bf base μ0 h0 w0 a0 listed μ a w done is rs e h->wpAnyIn (Fw rd) 0 P .any ops Q k listed a w
 |0,listed,μ,a,w,hk,hI=>by
  have hall:=JI hk;refine⟨?_,hfin _ _ _ _ hI hall⟩;rw[List.eq_nil_iff_forall_not_mem];intro i hi;exact(mg hI.size hi).2 (hall i (eU hi).1)
 |k+1,listed,μ,a,w,hk,hI=>by
  refine⟨λhr=>hfin _ _ _ _ hI (hI.Cq ho hr),λi hi=> ?_⟩;have hu:=L5 hI.size (eU hi).1 (mg hI.size hi).2;by_cases hd:i∈done
  ·exact hI.ic hS (by rw[hI.tm];exact hnt) hcs hi hd λμ' a' w' hI'=>Inv.run hS hcs hnt ho hfin hbar k _ _ _ _ (by omega) hI'
  ·exact hbar _ _ _ _ _ hI hi hd k (by omega)
theorem wE{base:Nat}{h:Heap}:∀{rs:List Rec},mX h base rs=true->∀r∈rs,pT h base r=true
 |[],_,r,hr=>by cases hr
 |x::rs,h,r,hr=>by
  simp only[mX,cond_eq_ite]at h;split at h
  ·rename_i hx;rcases List.mem_cons.1 hr with rfl|hr
   ·exact hx
   ·exact wE h r hr
  ·cases h
theorem vL{bf:List Nat}{i:Nat}:∀{js:List Nat},zO bf i js=true->∀{j:Nat},j∈js->∃m,bf[j]? =some m/\Nat.testBit m i=true
 |[],_,_,hj=>by cases hj
 |x::js,h,j,hj=>by
  simp only[zO]at h;split at h
  ·rename_i m hm;rw[cA]at hm;simp only[cond_eq_ite]at h;split at h
   ·rename_i ht;rcases List.mem_cons.1 hj with rfl|hj
    ·exact⟨m,hm,ht⟩
    ·exact vL h hj
   ·cases h
  ·cases h
def mA(P:Program)(T:Nat->Option af)(n:Nat):Prop:=∀base as is bf rs e h x e' h',eH T n base as is bf rs e h=some (x,e',h')→
 ∀(ops:Array Oper) nt μ0 h0 w0 a0 listed μ a w done rd (Q:Exit->Act->World->Prop),bY P nt ops ops.toList=some as->Stat as ops.toList bf->nt<=a0.tmps.size→
  Inv P ops as bf base μ0 h0 w0 a0 listed μ a w done is rs e h->Ord ops.toList done->(∀ex a' w',zL P μ0 h0 w0 a0 x e' h' ex a' w'→Q ex a' w')→
  wpAnyIn (Fw rd) 0 P .any ops Q (unl ops listed) listed a w
theorem mA.succ(hT:ew P T){n:Nat}(hD:mA P T n)(hC:oE P T n):mA P T (n+1):=by
 intro base as is bf rs e h x e' h' h1 ops nt μ0 h0 w0 a0 listed μ a w done rd Q hcs hS hnt hI ho hQ;cases is with
 |nil=>
  simp only[eH]at h1;cases h1;refine hI.run hS hcs hnt ho (λ_ _ _ _ hI' hall=>hQ _ _ _ (hI'.fin hall)) (λ_ _ _ _ i hI' hi hd=> ?_) _ _ _ _ _ rfl;rcases hI'.all i (eU hi).1 with q|q
  ·exact(hd q).elim
  ·cases q
 |cons i is=>
  simp only[eH]at h1;split at h1
  ·rename_i o mask ho' hm';rw[cA]at ho' hm';obtain⟨t1,t2,t3,ai,t4,t5⟩:=topo_cons hI.topo;rw[ho']at t4;injection t4 with t4
   subst t4;have hord:Ord ops.toList (i::done):=⟨t1,ho⟩;have hio:i<ops.size:=hI.vF i (List.mem_cons_self ..);obtain⟨oo,hoo⟩:∃oo,ops[i]? =some oo:=⟨ops[i],by simp[hio]⟩;obtain⟨ao,q1,c1,c2,c3,c5⟩:=(jH hcs).2 i oo (by simpa using hoo);rw[ho']at q1;injection q1 with q1
   subst q1;have hks:∀r∈rs,tS P ops base h0 listed μ h r:=λr hr=>(hI.oe r hr).kind;split at h1
   ·rename_i hw;exact hD _ _ _ _ _ _ _ _ _ _ h1 ops nt μ0 h0 w0 a0 listed μ a w (i::done) rd Q hcs hS hnt (hI.adv hS ho' hI.rel hI.st (Nat.le_refl _) ⟨hw,rfl⟩ hks (λb hb=>by cases hb)) hord hQ
   ·rename_i hw
    have hact:(∀{listed:Array Bool} {μ:Mu} {a:Act} {w:World} {j:Nat},Inv P ops as bf base μ0 h0 w0 a0 listed μ a w done (i::is) rs e h->j∈Region.ready .any ops listed->j ∉ done->j=i)→
     ∀{v:Value} {h2:Heap} {rs':List Rec},aop {h with log:=[]} h.next (cE e (cV o)) o.op=some (.val v h2)->bL {h2 with log:=aF base h.log h2.log} base h2.log mask rs=some rs'→
     eH T n base as is bf rs' (cI e o.dst v) {h2 with log:=aF base h.log h2.log}=some (x,e',h')->wpAnyIn (Fw rd) 0 P .any ops Q (unl ops listed) listed a w:=by
     intro hbi v h2 rs' hop hrs hgo;refine hI.run hS hcs hnt ho (λ_ _ _ _ hI' hall=>(t2 (hI'.sub i (hall i hio))).elim) (λlisted μ a w j hI' hj hjd k hk=> ?_) _ _ _ _ _ rfl;have hji:=hbi hI' hj hjd;subst hji;have hE:cm μ (cE e (cV o)) a.tmps:=hI'.look hS hj ho' λt v hv=>kA hv;unfold wpOpIn;simp only[hoo];rw[c5 (λs _ _ v hv=>hE s v hv) hw];simp only[if_true];refine⟨λ_ _=>fM,?_⟩;rw[Oper.semAt_eq _ _ _ (qH c3 (hS.BU _ o ho'))];have hA:=nr hop;have hRl:R P μ ({h with log:=[]}:Heap) w:=hI'.rel.congr rfl rfl;refine ve (Du hRl hE c3 hop) λμ' v' w' k1 k2 k3=> ?_;have k3:St μ h w μ' h2 w':=k3.nK rfl rfl;subst hk;rw[←c2];exact hD _ _ _ _ _ _ _ _ _ _ hgo ops nt μ0 h0 w0 a0 _ μ' _ w' (j::done) rd Q hcs hS hnt (hI'.bar hS hj ho' hm' (by rw[c2];exact c1) (by rw[hI'.tm];exact hnt) k1 (k2.congr rfl rfl) (k3.iu rfl) hA.next (λb hb hl=>hA.same b hb hb hl) hrs) hord hQ
    simp only[cond_eq_ite]at h1;split at h1
    ·rename_i heager;split at h1
     ·rename_i v h2 hop;split at h1
      ·rename_i hnew;split at h1
       ·rename_i hq;obtain⟨obj,rfl,hmk⟩:=KC hnew c3 hop;obtain⟨r1,r2⟩:=hI.rel.T6 obj;have hno:μ h.next=none:=by
         cases hm:μ h.next with
         |none=>rfl
         |some k=>exact absurd (hI.rel.dom _ _ hm).1 (Nat.lt_irrefl _)
        refine hD _ _ _ _ _ _ _ _ _ _ h1 ops nt μ0 h0 w0 a0 listed μ a w (i::done) rd Q hcs hS hnt (hI.adv hS ho' r1 (hI.st.trans r2 hI.nx0) (Nat.le_succ _) ⟨hw,hS.BU i o ho',obj,oo,hoo,by rw[Heap.di,if_pos rfl],hmk,hI.nx0,λ_=>hno⟩ (λr hr=> ?_) (λb hb r hr hrk=> ?_)) hord hQ
        ·have hk:=hks r hr;unfold tS at hk⊢;cases hrk:r.k with
         |skip=>rw[hrk]at hk;exact hk
         |quiet=>
          rw[hrk]at hk;obtain⟨k1,k2,k3,_⟩:=hk;exact⟨k1,k2,k3,DC (wE hq r hr) hrk k3⟩
         |made b=>
          rw[hrk]at hk;obtain⟨k1,k2,ob,o2,k3,k4,k5⟩:=hk;have:=hI.rel.lt b _ k4;exact⟨k1,k2,ob,o2,k3,by rw[Heap.di,if_neg (by omega)];exact k4,k5⟩
        ·cases hb;have hk:=hks r hr;unfold tS at hk;rw[hrk]at hk;obtain⟨_,_,ob,_,_,k4,_⟩:=hk;exact Nat.lt_irrefl _ (hI.rel.lt _ _ k4)
       ·cases h1
      ·rename_i hnew;split at h1
       ·rename_i hnx;have hqa:cF o.op=true:=by
         unfold jw at heager;simp only[Bool.or_eq_true]at heager;rcases heager with q|q
         ·exact q
         ·exact(hnew q).elim
        have hh:h2=h:=by
         rcases vM hqa hop with q|⟨ob,rfl⟩
         ·exact q
         ·rw[beq_eq]at hnx;simp only[decide_eq_true_eq]at hnx;exact absurd hnx (by show¬h.next+1=h.next;omega)
        subst hh;exact hD _ _ _ _ _ _ _ _ _ _ h1 ops nt μ0 h0 w0 a0 listed μ a w (i::done) rd Q hcs hS hnt (hI.adv hS ho' hI.rel hI.st (Nat.le_refl _) ⟨hw,hS.BU i o ho',hqa,hop⟩ hks (λb hb=>by cases hb)) hord hQ
       ·split at h1
        ·rename_i hall;split at h1
         ·rename_i v h2 hop;split at h1
          ·rename_i rs' hrs;exact hact (λ{listed μ a w j} hI' hj hjd=>by
            rcases hI'.all j (eU hj).1 with q|q
            ·exact(hjd q).elim
            ·rcases List.mem_cons.1 q with q|q
             ·exact q
             ·obtain⟨m,hm1,hm2⟩:=vL hall q;exact(t2 (hI'.sub i (hI'.before hS hj hm1 hio hm2))).elim) hop hrs h1
          ·cases h1
         ·cases h1
        ·cases h1
     ·cases h1
    ·rename_i hne;have hbi:∀{listed:Array Bool} {μ:Mu} {a:Act} {w:World} {j:Nat},Inv P ops as bf base μ0 h0 w0 a0 listed μ a w done (i::is) rs e h->j∈Region.ready .any ops listed->j ∉ done->j=i:=λ{listed μ a w j} hI' hj hjd=>by
      rcases hI'.all j (eU hj).1 with q|q
      ·exact(hjd q).elim
      ·rcases List.mem_cons.1 q with q|q
       ·exact q
       ·rcases t5 with t5|t5
        ·exact(hne t5).elim
        ·obtain⟨p,hp1,hp2⟩:=t5 j q;exact(topo_not hI'.topo p hp2 (hI'.sub p ((eU hj).2.2 p hp1))).elim
     have hfin:∀(listed:Array Bool) (μ:Mu) (a:Act) (w:World),Inv P ops as bf base μ0 h0 w0 a0 listed μ a w done (i::is) rs e h->(∀i,i<ops.size->Lst listed i)->Q .normal a w:=λ_ _ _ _ hI' hall=>(t2 (hI'.sub i (hall i hio))).elim;split at h1
     ·rename_i v h2 hop;split at h1
      ·rename_i rs' hrs;exact hact hbi hop hrs h1
      ·cases h1
     ·rename_i fn args h3 hop;split at h1
      ·rename_i v h2 hcall;split at h1
       ·rename_i rs' hrs;refine hI.run hS hcs hnt ho hfin (λlisted μ a w j hI' hj hjd k hk=> ?_) _ _ _ _ _ rfl;have hji:=hbi hI' hj hjd;subst hji;have hE:cm μ (cE e (cV o)) a.tmps:=hI'.look hS hj ho' λt v hv=>kA hv;unfold wpOpIn;simp only[hoo];rw[c5 (λs _ _ v hv=>hE s v hv) hw];simp only[if_true];refine⟨λ_ _=>fM,?_⟩;have hRl:R P μ ({h with log:=[]}:Heap) w:=hI'.rel.congr rfl rfl;obtain⟨_,nd,args',ha,hcase⟩:=yz hRl hE c3 hop;rw[Oper.semAt_eq _ _ _ nd];have key:nh P (gQ P μ ({h with log:=[]}:Heap) w (.ret v) h2) ((execOp a.eval oo).run P w):=by
         obtain⟨g1,g2⟩:=hC _ _ _ _ _ hcall rfl μ w args' hRl ha;rcases hcase with⟨g,e1,e2⟩|⟨l,k,e1,e2,e3⟩
         ·rw[e2];exact g1 g e1
         ·rw[e3];exact g2 l k e1 e2
        have hA:=(eS.all hT.aV n).iX _ _ _ _ _ hcall rfl;refine iL key (λv' w' hq=> ?_) (λch w' hq=> ?_) (λw' hq=> ?_)
        ·obtain⟨μ',k1,k2,k3⟩:=hq;have k3:St μ h w μ' h2 w':=k3.nK rfl rfl;subst hk;rw[←c2];exact hD _ _ _ _ _ _ _ _ _ _ h1 ops nt μ0 h0 w0 a0 _ μ' _ w' (j::done) rd Q hcs hS hnt (hI'.bar hS hj ho' hm' (by rw[c2];exact c1) (by rw[hI'.tm];exact hnt) k1 (k2.congr rfl rfl) (k3.iu rfl) hA.next (λb hb hl=>hA.same b hb hb hl) hrs) hord hQ
        ·obtain⟨μ',k1,_⟩:=hq;exact k1.elim
        ·obtain⟨μ',k1,_⟩:=hq;exact k1.elim
       ·cases h1
      ·rename_i v h2 hcall;cases h1;refine hI.run hS hcs hnt ho hfin (λlisted μ a w j hI' hj hjd k hk=> ?_) _ _ _ _ _ rfl;have hji:=hbi hI' hj hjd;subst hji;have hE:cm μ (cE e (cV o)) a.tmps:=hI'.look hS hj ho' λt v hv=>kA hv;unfold wpOpIn;simp only[hoo];rw[c5 (λs _ _ v hv=>hE s v hv) hw];simp only[if_true];refine⟨λ_ _=>fM,?_⟩;have hRl:R P μ ({h with log:=[]}:Heap) w:=hI'.rel.congr rfl rfl;obtain⟨_,nd,args',ha,hcase⟩:=yz hRl hE c3 hop;rw[Oper.semAt_eq _ _ _ nd];have key:nh P (gQ P μ ({h with log:=[]}:Heap) w (.panic v) h2) ((execOp a.eval oo).run P w):=by
        obtain⟨g1,g2⟩:=hC _ _ _ _ _ hcall rfl μ w args' hRl ha;rcases hcase with⟨g,e1,e2⟩|⟨l,k,e1,e2,e3⟩
        ·rw[e2];exact g1 g e1
        ·rw[e3];exact g2 l k e1 e2
       refine iL key (λv' w' hq=> ?_) (λch w' hq=> ?_) (λw' hq=> ?_)
       ·obtain⟨μ',k1,_⟩:=hq;exact k1.elim
       ·obtain⟨μ',k1,k2,k3⟩:=hq;exact hQ _ _ _ ⟨μ',k1,k2.congr rfl rfl,(hI'.st.trans (k3.nK rfl rfl) hI'.nx0).iu rfl,(λt v hv=>by cases hv),hI'.tm,hI'.df⟩
       ·obtain⟨μ',k1,_⟩:=hq;exact k1.elim
      ·cases h1
     ·cases h1
   ·cases h1
  ·cases h1
theorem mA.ok(hT:ew P T){n:Nat}(hD:mA P T n):Fz P T n:=by
 intro base as ord bf e h x e' h' h1 hb ops nt μ w a rd lo ds id hcs hdo hnt hR hE hDR _ hlo;obtain⟨d1,d2,d3,d4,hS⟩:=Ab (jH hcs).1 hdo;refine wpIn_region_any hT.mixed ?_;obtain⟨r1,r2⟩:=hR.world (w':={w with drawn:=w.drawn+1}) rfl;have hno:∀i,¬Lst (Array.replicate ops.size false) i:=λi=>by
  unfold Lst;simp[Array.getD_eq_getD_getElem?,Array.getElem?_replicate];split<;>simp
 have hI:Inv P ops as bf base μ h w a (Array.replicate ops.size false) μ a {w with drawn:=w.drawn+1} [] ord [] e h:=
  ⟨by simp,λi hi=>(hno i hi).elim,λi hi=>(by cases hi),λi m p hi=>(hno i hi).elim,d4,λj hj=>(by cases hj),λj m p hj=>(by cases hj),λj hj=>(by cases hj),λj hj=> .inr (d3 j (by simpa using hj)),λj hj=>by simpa using d2 j hj,
   λr hr=>(by cases hr),λr hr=>(by cases hr),r1,r2,Nat.le_refl _,hb,hR.big,λt v hv=> .inr (hE t v hv),rfl,rfl⟩
 have hu:unl ops (Array.replicate ops.size false)=ops.size:=by
  unfold unl;rw[List.filter_eq_self.2]
  ·simp
  ·intro j _;have:=hno j;unfold Lst at this;simpa using this
 have:=hD _ _ _ _ _ _ _ _ _ _ h1 ops nt μ h w a _ μ a _ [] rd (Post P μ h w lo a.tmps.size x e' ds h') hcs hS hnt hI trivial (λex a' w' hp=> ?_)
 ·rw[hu]at this;exact this
 ·obtain⟨μ',k0,k1,k2,k3,k4,k5⟩:=hp;exact⟨μ',k0,k1,k2,k3,by rw[k5];exact hDR.step k2 (k2.mono hR),k4⟩
end Go.A
end
section
namespace Go.A
variable {P:Program} {T:Nat->Option af} {μ:Mu} {h:Heap} {w:World} {e:Env} {a:Act} {base:Nat}
theorem R.GL{h1 h2:Heap}(hg:∀b,h2.get b=h1.get b)(hn:h2.next=h1.next)(hR:R P μ h1 w):R P μ h2 w:=
 ⟨by rw[hn];exact hR.big,λg o h1 h2=>hR.j8 g o h1 (by rw[←hg];exact h2),λb o hb=>hR.obj b o (by rw[←hg];exact hb),λb o hb=>by rw[hn];exact hR.lt b o (by rw[←hg];exact hb),
  λb k hb=>by rw[hn];exact hR.dom b k hb,λb b' o o' k k' hne hb hb'=>hR.jP b b' o o' k k' hne (by rw[←hg];exact hb) (by rw[←hg];exact hb')⟩
theorem Wr.GL{h1 h2:Heap}(hg:∀b,h2.get b=h1.get b){r:Nat}(hw:Wr μ h2 r):Wr μ h1 r:=by
 obtain⟨b,o,k,q1,q2⟩:=hw;exact⟨b,o,k,by rw[←hg];exact q1,q2⟩
theorem R.forget{μ0 μ1:Mu}{h0 h1:Heap}{w0 w1:World}(hR0:R P μ0 h0 w0)(hR1:R P μ1 h1 w1)(hS:St μ0 h0 w0 μ1 h1 w1)(hA:AS h0.next h0 h1)(hl:h1.log=[]):
 R P μ0 h0 w1/\St μ0 h0 w0 μ0 h0 w1:=by
 obtain⟨μ2,q1,_,q3,_⟩:=GJ hR0 hR1 hS hA (v:= .bool true) (v':= .bool true) (.bool true);have hgc:gcA h0 h1 (.bool true)={h1 with b8:=nM (h1.next-h0.next) h1.b8,next:=h0.next}:=by
  unfold gcA;rw[hl];rfl
 have hn:(gcA h0 h1 (.bool true)).next=h0.next:=by rw[hgc]
 have hget:∀b,h0.get b=(gcA h0 h1 (.bool true)).get b:=λb=>by
  rw[hgc];rw[show({h1 with b8:=nM (h1.next-h0.next) h1.b8,next:=h0.next}:Heap).get b=if b<h0.next then h1.get b else none from GI hR0 hA b];split
  ·rename_i hb;exact(hA.same b hb hb (by rw[hl];rfl)).symm
  ·rename_i hb;cases hq:h0.get b with
   |none=>rfl
   |some o=>exact(hb (hR0.lt b o hq)).elim
 have hμ:μ2=μ0:=funext λb=>by
  by_cases hb:b<h0.next
  ·exact q3.ext b hb
  ·have e1:μ2 b=none:=by
    cases hq:μ2 b with
    |none=>rfl
    |some k=>have:=(q1.dom b k hq).1;omega
   have e2:μ0 b=none:=by
    cases hq:μ0 b with
    |none=>rfl
    |some k=>exact(hb (hR0.dom b k hq).1).elim
   rw[e1,e2]
 subst hμ;exact⟨q1.GL hget hn.symm,⟨q3.ext,q3.le,q3.keep,λr hr hw=>q3.wr r hr (hw.GL hget),q3.loops,q3.same⟩⟩
theorem lI{m:Nat}{es:List (Value×Value)}(hm:h.get m=some (.map es))(b:Nat):(roM h m es).get b=if b=m then some (.tw es)else h.get b:=by
 have:(roM h m es).get b=if b=m then(h.get m).map (λ_=> .tw es)else h.get b:=rV _ _ _ _
 rw[this];split
 ·rw[hm];rfl
 ·rfl
theorem Wr.Oa{m:Nat}{es:List (Value×Value)}(hm:h.get m=some (.map es)){r:Nat}(hw:Wr μ (roM h m es) r):Wr μ h r:=by
 obtain⟨b,o,k,q1,q2,q3,q4⟩:=hw;rw[lI hm]at q1;split at q1
 ·cases q1;cases q3
 ·exact⟨b,o,k,q1,q2,q3,q4⟩
theorem R.toRo(hR:R P μ h w){m:Nat}{es:List (Value×Value)}(hm:h.get m=some (.map es)):R P μ (roM h m es) w:=by
 refine⟨hR.big,λg o h1 h2=> ?_,λb o hb=> ?_,λb o hb=> ?_,hR.dom,λb b' o o' k k' hne hb hb' l1 l2 m1 m2 hr=> ?_⟩
 ·rw[lI hm]at h2;split at h2
  ·rename_i e;subst e;cases h2;obtain⟨k,a,b,c,_⟩:=hR.j8 g _ h1 hm;refine⟨k,a,b,c,λ_ _ cc t fz hc=> ?_⟩;obtain⟨ents,clock,z1,_⟩:=hR.obj g _ hm k a;rw[hc]at z1;cases z1
  ·exact hR.j8 g o h1 h2
 ·rw[lI hm]at hb;split at hb
  ·rename_i e;subst e;cases hb;have q:=hR.obj b _ hm;exact q
  ·exact hR.obj b o hb
 ·rw[lI hm]at hb;split at hb
  ·rename_i e;subst e;cases hb;exact hR.lt b _ hm
  ·exact hR.lt b o hb
 ·rw[lI hm]at hb hb';split at hb
  ·rename_i e1;subst e1;cases hb;rw[if_neg (Ne.symm hne)]at hb';have:=hR.jP b b' _ o' k k' hne hm hb' rfl l2 m1 m2 hr;cases this.1
  ·split at hb'
   ·rename_i e2;subst e2;cases hb';have:=hR.jP b b' o _ k k' hne hb hm l1 rfl m1 m2 hr;cases this.2
   ·exact hR.jP b b' o o' k k' hne hb hb' l1 l2 m1 m2 hr
theorem R.Oa{w0:World}(hR0:R P μ h w0){m:Nat}{es:List (Value×Value)}(hm:h.get m=some (.map es))(hR:R P μ (roM h m es) w):R P μ h w:=by
 have hg:∀b o,h.get b=some o->b≠m->(roM h m es).get b=some o:=λb o hb hne=>by rw[lI hm,if_neg hne];exact hb
 have hgm:(roM h m es).get m=some (.tw es):=by rw[lI hm,if_pos rfl]
 refine⟨hR.big,λg o h1 h2=> ?_,λb o hb=> ?_,hR0.lt,hR.dom,hR0.jP⟩
 ·by_cases e:g=m
  ·subst e;rw[hm]at h2;cases h2;obtain⟨k,a,b,c,_⟩:=hR.j8 g _ h1 hgm;exact⟨k,a,b,c,λq=>by cases q⟩
  ·exact hR.j8 g o h1 (hg g o h2 e)
 ·by_cases e:b=m
  ·subst e;rw[hm]at hb;cases hb;have q:=hR.obj b _ hgm;exact q
  ·exact hR.obj b o (hg b o hb e)
theorem R.dead(hR:R P μ h w){r:Nat}(hr:r<w.heap.size):R P (upd μ h.next ⟨r,0,0,0⟩) (h.push .dead) w/\St μ h w (upd μ h.next ⟨r,0,0,0⟩) (h.push .dead) w:=by
 have hno:∀k',μ h.next=some k'→False:=λk' h'=>Nat.lt_irrefl _ (hR.dom _ _ h').1
 have hm:∀b k',μ b=some k'→upd μ h.next ⟨r,0,0,0⟩ b=some k':=λb k' hb=>by
  unfold upd;rw[if_neg];exact hb;intro e;subst e;exact hno _ hb
 have hbig:=hR.big;refine⟨⟨Nat.le_succ_of_le hbig,λg q hg hq=> ?_,λb o' hb=> ?_,λb o' hb=> ?_,λb k' hb=> ?_,λb b' o1 o2 k1 k2 hne hb hb' l1 l2 m1 m2 hr=> ?_⟩,⟨λb hb=> ?_,Nat.le_refl _,λr hr _=>rfl,λr hr hwr=> ?_,λr L hl=>⟨L,hl, .refl L⟩, .refl w⟩⟩
 ·rw[Heap.di,if_neg (by omega)]at hq;obtain⟨k1,g1,g2,g3,gx⟩:=hR.j8 g q hg hq;exact⟨k1,hm _ _ g1,g2,g3,gx⟩
 ·rw[Heap.di]at hb;split at hb
  ·cases hb;trivial
  ·rename_i e;exact OR.mono hm (by unfold upd;rw[if_neg e]) (λk' hk'=>rfl) (hR.obj b o' hb)
 ·rw[Heap.di]at hb;split at hb
  ·rename_i e;subst e;exact Nat.lt_succ_self _
  ·exact Nat.lt_succ_of_lt (hR.lt b o' hb)
 ·unfold upd at hb;split at hb
  ·rename_i e;subst e;cases hb;exact⟨Nat.lt_succ_self _,hr⟩
  ·have:=hR.dom b k' hb;exact⟨Nat.lt_succ_of_lt this.1,this.2⟩
 ·rw[Heap.di]at hb hb';unfold upd at m1 m2;split at hb
  ·cases hb;cases l1
  ·rename_i e1;split at hb'
   ·cases hb';cases l2
   ·rename_i e2;rw[if_neg e1]at m1;rw[if_neg e2]at m2;exact hR.jP b b' o1 o2 k1 k2 hne hb hb' l1 l2 m1 m2 hr
 ·unfold upd;rw[if_neg (by omega)]
 ·obtain⟨b,o,k,g1,g2,g3,g4,g5⟩:=hwr;rw[Heap.di]at g1;split at g1
  ·cases g1;cases g2
  ·rename_i e;unfold upd at g4;rw[if_neg e]at g4;exact⟨b,o,k,g1,g2,g3,g4,g5⟩
theorem R.zo(hR:R P μ h w){r:Nat}(hr:∀b k,μ b=some k->k.r≠r){w':World}(hs:w'.heap.size=w.heap.size)(hw:∀r',r'≠r->w'.heap[r']? =w.heap[r']?):R P μ h w':=
 ⟨hR.big,λg o h1 h2=>let⟨k,a,b,c,x⟩:=hR.j8 g o h1 h2;⟨k,a,b,c,x.get (hw _ (hr _ _ a))⟩,λb o hb=>OR.mono (λ_ _ h=>h) rfl (λk hk=>hw _ (hr _ _ hk)) (hR.obj b o hb),hR.lt,λb k hb=>⟨(hR.dom b k hb).1,by have:=(hR.dom b k hb).2;omega⟩,hR.jP⟩
theorem lG{op:Op}{ao:AOp}(hc:fT P op=some ao):
 (∀x,ao= .lU x->∃t kt et,op= .range t x/\P.underlying t=some (.map kt et)/\aC P x=true)/\(∀x s,ao= .next x s->op= .next x s)/\(∀x i,ao= .extract x i->op= .extract x i)/\(∀x,ao= .entry x->op= .entry x):=by
 unfold fT at hc;split at hc
 ·rename_i hall;cases op<;>(try dsimp only at hc)
  case range t x=>
   split at hc
   ·cases hc;exact⟨λ_ h=>(by cases h),λ_ _ h=>(by cases h),λ_ _ h=>(by cases h),λ_ h=>(by cases h)⟩
   ·rename_i kt et hd;cases hc;exact⟨λ_ h=>(by cases h;exact⟨_,_,_,rfl,hd,by simpa[Op.operands]using hall⟩),λ_ _ h=>(by cases h),λ_ _ h=>(by cases h),λ_ h=>(by cases h)⟩
   ·cases hc
  case next x s=>cases hc;exact⟨λ_ h=>(by cases h),λ_ _ h=>(by cases h;rfl),λ_ _ h=>(by cases h),λ_ h=>(by cases h)⟩
  case extract x s=>cases hc;exact⟨λ_ h=>(by cases h),λ_ _ h=>(by cases h),λ_ _ h=>(by cases h;rfl),λ_ h=>(by cases h)⟩
  case entry x=>cases hc;exact⟨λ_ h=>(by cases h),λ_ _ h=>(by cases h),λ_ _ h=>(by cases h),λ_ h=>(by cases h;rfl)⟩
  all_goals
   repeat' split at hc
   all_goals first
    |contradiction
    |(cases hc;done)
    |(cases hc;exact⟨λ_ h=>(by cases h),λ_ _ h=>(by cases h),λ_ _ h=>(by cases h),λ_ h=>(by cases h)⟩)
    |(obtain⟨_,_,rfl⟩:=ec hc;exact⟨λ_ h=>(by cases h),λ_ _ h=>(by cases h),λ_ _ h=>(by cases h),λ_ h=>(by cases h)⟩)
 ·cases hc
theorem nF{nt:Nat}{ops:Array Oper}:∀{l:List Oper} {as as0:List bg} {ao:bg},bY P nt ops l=some as->vr as=some (as0,ao)→
 ∃l0 o,l=l0++[o]/\bY P nt ops l0=some as0/\bY P nt ops [o]=some [ao]
 |[],as,as0,ao,h1,h2=>by simp only[bY]at h1;cases h1;cases h2
 |o::os,as,as0,ao,h1,h2=>by
  cases as with
  |nil=>cases h2
  |cons a as=>
   obtain⟨c1,c2,c3,c4,_⟩:=gN h1;have hone:∀os' as',bY P nt ops os'=some as'→bY P nt ops (o::os')=some (a::as'):=λos' as' hh=>by
    simp only[bY]at h1⊢;rw[if_pos c1]at h1⊢;rw[c3,hh];rw[c3,c4]at h1;dsimp only at h1⊢;cases hg:o.guard with
    |none=>rw[hg]at h1;dsimp only at h1⊢;simp only[Option.some.injEq,List.cons.injEq,and_true]at h1⊢;exact h1
    |some gb=>
     rw[hg]at h1;dsimp only at h1⊢;cases hj:(ops[gb.1]?).bind (·.dst)with
     |none=>rw[hj]at h1;dsimp only at h1;cases h1
     |some t=>rw[hj]at h1;dsimp only at h1⊢;simp only[Option.some.injEq,List.cons.injEq,and_true]at h1⊢;exact h1
   cases as with
   |nil=>
    cases h2;have:os=[]:=by
     cases os with
     |nil=>rfl
     |cons o2 os2=>
      simp only[bY]at c4;repeat' split at c4
      all_goals cases c4
    subst this;exact⟨[],o,rfl,rfl,h1⟩
   |cons b bs=>
    simp only[vr]at h2;split at h2
    ·rename_i l' y hu;cases h2;obtain⟨l0,o',e1,e2,e3⟩:=nF c4 hu;exact⟨o::l0,o',by rw[e1];rfl,hone _ _ e2,e3⟩
    ·cases h2
theorem zA{F:Fence}{n:Nat}{o:Oper}{a:Act}{K K':Act->World->Prop}{Q Q':Exit->Act->World->Prop}(hk:∀a w,K a w->K' a w)(hq:∀e a w,e≠ .normal->Q e a w->Q' e a w){r:Result Next}(hh:o.uponIn F n P a K Q r):
 o.uponIn F n P a K' Q' r:=by
 have hl:LetsOut Q->LetsOut Q':=λ⟨a,w,h⟩=>⟨a,w,hq _ _ _ (by simp) h⟩;cases r with
 |ok x w'=>
  cases x<;>simp only[Oper.uponIn]at hh⊢ <;>
   first
    |exact hk _ _ hh
    |exact⟨hh.1,CallsIn.mono hh.2 (λe w'' he=>by cases e<;>first|exact hk _ _ he|exact hq _ _ _ (by simp) he|exact hl he)⟩
    |exact⟨hh.1,RowsIn.mono hh.2 (λ_ _ he=>hk _ _ he)⟩
    |exact⟨hh.1,RoundIn.mono hh.2 (λe w'' he=>by cases e<;>first|exact hk _ _ he|exact hq _ _ _ (by simp) he|exact hl he)⟩
 |halt x w'=>cases x<;>simp only[Oper.uponIn]at hh⊢ <;>first|exact hh|exact hq _ _ _ (by simp) hh
theorem jl{F:Fence}{n:Nat}{ops:Array Oper}{Q:Exit->Act->World->Prop}:∀(l l2:List Nat) (a:Act) (w:World),
 wpOpsIn F n P ops (Exit.then (wpOpsIn F n P ops Q l2) Q) l a w->wpOpsIn F n P ops Q (l++l2) a w
 |[],_,_,_,h=>h
 |i::l,l2,a,w,h=>by
  simp only[wpOpsIn,List.cons_append]at h⊢;split at h
  ·exact jl l l2 _ _ h
  ·rename_i o ho;split at h
   ·rename_i hw;rw[if_pos hw];exact⟨h.1,zA (λa w=>jl l l2 a w) (λe a w hne hq=>by cases e<;>first|exact(hne rfl).elim|exact hq) h.2⟩
   ·rename_i hw;rw[if_neg hw];exact⟨h.1,jl l l2 _ _ h.2⟩
theorem oA{nt:Nat}{rd:Option Nat}{ops:Array Oper}{Q:Exit->Act->World->Prop}{i:Nat}{l:List Nat}{o:Oper}{os:List Oper}{d:Nat}{ao:AOp}{as:List bg}(hget:ops[i]? =some o)(hc:bY P nt ops (o::os)=some (⟨some d,ao,none⟩::as))
 {v:Value}{w':World}(hd:∀c,o.op≠ .defer c)(hr:(execOp a.eval o).run P w= .ok (.value v) w')(h:wpOpsIn (Fw rd) 0 P ops Q l (a.put (some d) v) w'):wpOpsIn (Fw rd) 0 P ops Q (i::l) a w:=by
 obtain⟨c1,c2,c3,c4,c5⟩:=gN hc;have hw:Region.wanted o (yielded ops a.tmps)=true:=c5 (e:=[]) (μ:=λ_=>none) (λ_ _ hh=>by cases hh) rfl;simp only[wpOpsIn,hget,hw,if_true];refine⟨λ_ _=>fM,?_⟩;rw[Oper.semAt_eq _ _ _ hd,hr,Oper.uponIn_value];have:o.dst=some d:=c2.symm;rw[this];exact h
theorem n9{d:Nat}{v:Value}(hd:d<a.tmps.size):(a.put (some d) v).eval (.tmp d)=v:=by
 show((a.put (some d) v).tmps).getD d undef=v;rw[fZ];simp[Array.getD,hd]
theorem Cw{nt it nx mo:Nat}{k:List Nat}{c:Code}{rd:Option Nat}{Q:Exit->Act->World->Prop}(hc:fP P nt c (.region [⟨some nx, .next (.tmp it) false,none⟩,⟨some mo, .extract (.tmp nx) 0,none⟩] k))(hnt:nt<=a.tmps.size)
 {r:Nat}(hit:a.eval (.tmp it)= .pointer (some ⟨r,0,none⟩)){b:Bool}{l:List Value}{w':World}(hrun:∀ty,(Instr.next (.pointer (some ⟨r,0,none⟩)) false ty).run P w= .ok (.tuple (.bool b::l).toArray) w')
 (h:mo<nt->nx<nt->Q .normal ((a.put (some nx) (.tuple (.bool b::l).toArray)).put (some mo) (.bool b)) w'):c.wpIn (Fw rd) 0 P Q a w:=by
 obtain⟨id,ops,rfl,hcs⟩:=hc.inv;refine wpIn_region ?_;cases hl:ops.toList with
 |nil=>rw[hl]at hcs;simp[bY]at hcs
 |cons o1 l1=>
  rw[hl]at hcs;obtain⟨c1,c2,c3,c4,_⟩:=gN hcs;cases l1 with
  |nil=>simp[bY]at c4
  |cons o2 l2=>
   obtain⟨d1,d2,d3,d4,_⟩:=gN c4;have:l2=[]:=by
    cases l2 with
    |nil=>rfl
    |cons o3 l3=>
     simp only[bY]at d4;repeat' split at d4
     all_goals cases d4
   subst this;have hsz:ops.size=2:=by
    have:=congrArg List.length hl;simpa using this
   have g0:ops[0]? =some o1:=by
    have:ops.toList[0]? =some o1:=by rw[hl];rfl
    simpa using this
   have g1:ops[1]? =some o2:=by
    have:ops.toList[1]? =some o2:=by rw[hl];rfl
    simpa using this
   have e1:o1.op= .next (.tmp it) false:=(lG c3).2.1 _ _ rfl
   have e2:o2.op= .extract (.tmp nx) 0:=(lG d3).2.2.1 _ _ rfl;have hd1:nx<nt:=by
    have:o1.dst=some nx:=c2.symm;rw[this]at c1;simpa[j4,Nat.blt_eq]using c1
   have hd2:mo<nt:=by
    have:o2.dst=some mo:=d2.symm;rw[this]at d1;simpa[j4,Nat.blt_eq]using d1
   rw[hsz,show List.range 2=[0,1]from rfl];refine oA g0 hcs (λc hh=>by rw[e1]at hh;cases hh) (v:= .tuple (.bool b::l).toArray) (w':=w') ?_ ?_
   ·simp only[execOp,e1,hit];simp[Sem.run_bind,hrun]
   ·refine oA g1 c4 (λc hh=>by rw[e2]at hh;cases hh) (v:= .bool b) (w':=w') ?_ (h hd2 hd1);simp only[execOp,e2];rw[n9 (Nat.lt_of_lt_of_le hd1 hnt)];simp[Instr.extract]
end Go.A
end
section
namespace Go.A
variable {P:Program} {T:Nat->Option af} {μ:Mu} {h:Heap} {w:World} {e:Env} {a:Act} {base:Nat}
open Go.ChangeMaps (setBlock)
theorem xU:∀{e:Env} {t:Nat} {v:Value},geT e t=some v->(t,v)∈e
 |(k,u)::e,t,v,hq=>by
  simp only[geT,cond_eq_ite,beq_eq,decide_eq_true_eq]at hq;split at hq
  ·rename_i hk;subst hk;cases hq;exact List.mem_cons_self
  ·exact List.mem_cons_of_mem _ (xU hq)
theorem zy{e2:Env}:∀{e:Env},E9 e2 e=true->∀t v,(t,v)∈e->geT e2 t=some v
 |(k,u)::e,hs,t,v,hq=>by
  simp only[E9]at hs;split at hs
  ·rename_i v' hv';simp only[cond_eq_ite,Bool.if_false_right,Bool.and_eq_true,decide_eq_true_eq]at hs;rcases List.mem_cons.1 hq with hh|hh
   ·cases hh;rw[hv',ri hs.1]
   ·exact zy hs.2 t v hh
  ·cases hs
theorem yK{eo:Env}:∀{e2:Env},yJ eo e2=true->∀t v,(t,v)∈e2->flat v=true∨geT eo t=some v
 |(k,u)::e2,hs,t,v,hq=>by
  simp only[yJ,cond_eq_ite]at hs;split at hs
  ·rename_i hf;rcases List.mem_cons.1 hq with hh|hh
   ·cases hh;exact .inl hf
   ·exact yK hs t v hh
  ·split at hs
   ·rename_i v' hv';split at hs
    ·rename_i hsm;rcases List.mem_cons.1 hq with hh|hh
     ·cases hh;exact .inr (by rw[hv',ri hsm])
     ·exact yK hs t v hh
    ·cases hs
   ·cases hs
theorem vl:∀{e2 e3:Env},vk e2 e3=true->e2=e3
 |[],[],_=>rfl
 |[],_::_,hs=>by simp[vk]at hs
 |_::_,[],hs=>by simp[vk]at hs
 |(t,v)::e,(t',v')::e',hs=>by
  simp only[vk,cond_eq_ite,beq_eq,decide_eq_true_eq]at hs;split at hs
  ·rename_i ht;subst ht;split at hs
   ·rename_i hv;rw[ri hv,vl hs]
   ·cases hs
  ·cases hs
def ng(nxt:Nat)(e e2:Env)(x:br):Prop:=(x= .normal∨x= .exit nxt)/\E9 e2 e=true
def M7(nxt:Nat)(eo e2:Env)(x:br)(r:Option (br×Env)):Prop:=(x= .ret∨∃i,x= .exit i/\i≠nxt)/\yJ eo e2=true/\r=some (x,e2)
def Rnd(fo fe:Env->Heap->Option (br×Env×Dfs×Heap))(pr:Nat)(k2:List Nat)(e:Env)(h:Heap)(C:br->Env->Prop)(p:Value×Value):Prop:=
 ∃e1 h1 x e2 h2,fo ((pr, .tuple #[p.1,p.2])::e) h=some (.normal,e1,[],h1)/\fe (cE e1 k2) h1=some (x,e2,[],h2)/\h2.log=[]/\C x e2
theorem Rnd.mono{fo fe:Env->Heap->Option (br×Env×Dfs×Heap)}{pr:Nat}{k2:List Nat}{C C':br->Env->Prop}{p:Value×Value}(hc:∀x e,C x e->C' x e)(hr:Rnd fo fe pr k2 e h C p):Rnd fo fe pr k2 e h C' p:=
 let⟨e1,h1,x,e2,h2,q1,q2,q3,q4⟩:=hr;⟨e1,h1,x,e2,h2,q1,q2,q3,hc _ _ q4⟩
theorem vO{fo fe:Env->Heap->Option (br×Env×Dfs×Heap)}{nxt pr:Nat}{k2:List Nat}{e eo:Env}{h:Heap}:∀{es:List (Value×Value)} {r:Option (br×Env)},pG fo fe nxt pr k2 e eo h es=some r→
 (∀p∈es,Rnd fo fe pr k2 e h (λx e2=>ng nxt e e2 x∨M7 nxt eo e2 x r) p)/\((∀p∈es,Rnd fo fe pr k2 e h (λx e2=>ng nxt e e2 x) p)->r=none)
 |[],r,hr=>by cases hr;exact⟨λp hp=>by simp at hp,λ_=>rfl⟩
 |(k,v)::es,r,hr=>by
  simp only[pG]at hr;split at hr
  ·rename_i e1 h1 hq1;split at hr
   ·rename_i x e2 h2 hq2;split at hr
    ·rename_i hl;split at hr
     ·rename_i r0 hr0;obtain⟨i1,i2⟩:=vO hr0;have mk:∀C:br->Env->Prop,C x e2->Rnd fo fe pr k2 e h C (k,v):=λC hC=>⟨e1,h1,x,e2,h2,hq1,hq2,hl,hC⟩;have unmk:∀C:br->Env->Prop,Rnd fo fe pr k2 e h C (k,v)->C x e2:=λC hC=>by
       obtain⟨e1',h1',x',e2',h2',g1,g2,_,g4⟩:=hC;rw[hq1]at g1;cases g1;rw[hq2]at g2;cases g2;exact g4
      have cont:ng nxt e e2 x->r0=r->(∀p∈(k,v)::es,Rnd fo fe pr k2 e h (λx e2=>ng nxt e e2 x∨M7 nxt eo e2 x r) p)/\((∀p∈(k,v)::es,Rnd fo fe pr k2 e h (λx e2=>ng nxt e e2 x) p)->r=none):=λhc hrr=>by
       subst hrr;refine⟨λp hp=> ?_,λhall=>i2 λp hp=>hall p (List.mem_cons_of_mem _ hp)⟩;rcases List.mem_cons.1 hp with hh|hh
       ·subst hh;exact mk _ (.inl hc)
       ·exact i1 p hh
      have out:(x= .ret∨∃i,x= .exit i/\i≠nxt)->yJ eo e2=true->r=some (x,e2)->(r0=none∨r0=r)->(∀p∈(k,v)::es,Rnd fo fe pr k2 e h (λx e2=>ng nxt e e2 x∨M7 nxt eo e2 x r) p)/\((∀p∈(k,v)::es,Rnd fo fe pr k2 e h (λx e2=>ng nxt e e2 x) p)->r=none):=λhx ho hr1 hr2=>by
       refine⟨λp hp=> ?_,λhall=> ?_⟩
       ·rcases List.mem_cons.1 hp with hh|hh
        ·subst hh;exact mk _ (.inr ⟨hx,ho,hr1⟩)
        ·refine(i1 p hh).mono λx' e' hC=> ?_;rcases hC with hC|hC
         ·exact .inl hC
         ·rcases hr2 with hr2|hr2
          ·rw[hr2]at hC;cases hC.2.2
          ·rw[hr2]at hC;exact .inr hC
       ·have:=unmk _ (hall (k,v) List.mem_cons_self);rcases hx with rfl|⟨i,rfl,hi⟩
        ·rcases this.1 with q|q<;>cases q
        ·rcases this.1 with q|q
         ·cases q
         ·cases q;exact(hi rfl).elim
      unfold MQ at hr;split at hr
      ·simp only[cond_eq_ite,Option.ite_none_right_eq_some]at hr;exact cont ⟨.inl rfl,hr.1⟩ (by injection hr.2)
      ·cases hr
      ·rename_i i;simp only[cond_eq_ite,beq_eq,decide_eq_true_eq]at hr;split at hr
       ·rename_i hi;subst hi;simp only[Option.ite_none_right_eq_some]at hr;exact cont ⟨.inr rfl,hr.1⟩ (by injection hr.2)
       ·rename_i hi;split at hr
        ·rename_i ho;split at hr
         ·cases hr;exact out (.inr ⟨i,rfl,hi⟩) ho rfl (.inl rfl)
         ·simp only[Option.ite_none_right_eq_some,Bool.and_eq_true,decide_eq_true_eq]at hr;obtain⟨⟨g1,g2⟩,g3⟩:=hr;have:=vl g2;subst this;subst g1;injection g3 with g3
          exact out (.inr ⟨i,rfl,hi⟩) ho g3.symm (.inr g3)
         ·cases hr
        ·cases hr
      ·simp only[cond_eq_ite,Option.ite_none_right_eq_some]at hr;obtain⟨ho,hr⟩:=hr;split at hr
       ·cases hr;exact out (.inl rfl) ho rfl (.inl rfl)
       ·simp only[Option.ite_none_right_eq_some]at hr;obtain⟨g2,g3⟩:=hr;have:=vl g2;subst this;injection g3 with g3
        exact out (.inl rfl) ho g3.symm (.inr g3)
       ·cases hr
     ·cases hr
    ·cases hr
   ·cases hr
  ·cases hr
theorem MR.at{es:List (Value×Value)}{ms:List MapEntry}(hm:MR μ es ms):∀(i:Nat) (en:MapEntry),ms[i]? =some en->∃k v,es[i]? =some (k,v)/\VR μ k en.key/\VR μ v en.val:=by
 induction hm with
 |nil=>intro i en hi;simp at hi
 |cons h1 h2 _ ih=>
  intro i en hi;cases i with
  |zero=>simp at hi;subst hi;exact⟨_,_,rfl,h1,h2⟩
  |succ i=>exact ih i en (by simpa using hi)
theorem AS.low{b b':Nat}{h1 h2:Heap}(hA:AS b' h1 h2)(hb:b<=b'):AS b h1 h2:=
 ⟨hA.next,hA.keys,λx hx=>hA.mono x (Nat.lt_of_lt_of_le hx hb),λx hx=>hA.same x (Nat.lt_of_lt_of_le hx hb)⟩
theorem rX{e:Env}:∀{l:List Nat} {t:Nat} {v:Value},geT (cE e l) t=some v->t∈l
 |y::l,t,v,hq=>by
  simp only[cE]at hq;split at hq
  ·simp only[geT,cond_eq_ite,beq_eq,decide_eq_true_eq]at hq;split at hq
   ·rename_i hy;subst hy;exact List.mem_cons_self
   ·exact List.mem_cons_of_mem _ (rX hq)
  ·exact List.mem_cons_of_mem _ (rX hq)
theorem cm.uS{d:Nat}{v:Value}(hE:cm μ e a.tmps)(hd:geT e d=none):cm μ e (a.put (some d) v).tmps:=by
 intro t u hu;obtain⟨u',q1,q2⟩:=hE t u hu;refine⟨u',?_,q2⟩;rw[fZ];have:d≠t:=λhe=>by subst he;rw[hd]at hu;cases hu
 simp[this,q1]
theorem DR.GZ{lo:Nat}{ds:Dfs}{ms:List Deferred}(hd:DR μ h w lo ds ms){w':World}(hw:∀(r:Nat) (x:Option (List Deferred)),w.heap[r]? =some (Obj.deferred x)->w'.heap[r]? =some (Obj.deferred x)):DR μ h w' lo ds ms:=by
 induction hd with
 |nil=>exact .nil
 |cons h1 h2 h3 _ ih=>exact .cons h1 h2 h3 ih
 |mark h1 h0 h2 h3 _ ih=>exact .mark h1 h0 (hw _ _ h2) h3 ih
theorem DR.back{μ':Mu}{h':Heap}{lo:Nat}{ms:List Deferred}(hR:R P μ h w)(hd:DR μ' h' w lo [] ms):DR μ h w lo [] ms:=by
 generalize hds:([]:Dfs)=ds at hd;induction hd with
 |nil=>exact .nil
 |cons h1 h2 h3 _ ih=>cases hds
 |mark h1 h0 h2 h3 _ ih=>
  refine .mark h1 h0 h2 (λ⟨b,o,k,g1,g2,g3,g4,g5⟩=> ?_) (ih hds);have hor:=hR.obj b o g1;cases o with
  |dead=>cases g2
  |cells vs own sz=>obtain⟨_,c,el,fz,z1,_⟩:=hor k g4;rw[g5,h2]at z1;cases z1
  |map es=>obtain⟨_,_,z1,_⟩:=hor k g4;rw[g5,h2]at z1;cases z1
  |tw es=>obtain⟨_,_,z1,_⟩:=hor k g4;rw[g5,h2]at z1;cases z1
  |loop _ _ _ _ _ _=>obtain⟨_,z1,_⟩:=hor k g4;rw[g5,h2]at z1;cases z1
  |j7 _ _=>have z1:=(hor k g4).2;rw[g5,h2]at z1;cases z1
theorem St.T4{w':World}{m:Nat}{es:List (Value×Value)}(hm:h.get m=some (.map es))(s:St μ (roM h m es) w μ (roM h m es) w'):St μ h w μ h w':=
 ⟨λ_ _=>rfl,s.le,λr hr hn=>s.keep r hr λq=>hn (q.Oa hm),λ_ _ q=>q,s.loops,s.same⟩
theorem St.zo{μ0:Mu}{h0:Heap}{w0 w':World}(s:St μ0 h0 w0 μ h w){r:Nat}(hr:w0.heap.size<=r)(hs:w'.heap.size=w.heap.size)(hw:∀r',r'≠r->w'.heap[r']? =w.heap[r']?)(hsm:Same w w'):St μ0 h0 w0 μ h w':=
 ⟨s.ext,by have:=s.le;omega,λr' h1 h2=>(hw r' (by omega)).trans (s.keep r' h1 h2),s.wr,λr' L hl=>by
  have hlt:r'<w0.heap.size:=(Array.getElem?_eq_some_iff.1 hl).1;obtain⟨L',q1,q2⟩:=s.loops r' L hl;exact⟨L',(hw r' (by omega)).trans q1,q2⟩,s.same.trans hsm⟩
structure Py (P:Program) (μ0:Mu) (h0:Heap) (wI:World) (μI:Mu) (hI:Heap) (lo sz it r bm clock:Nat) (eo:Env) (ents:Array MapEntry) (es:List (Value×Value)) (C:Value×Value->Prop) (seen:Array Nat) (c0:Nat) (a:Act) (w:World):Prop where
 size:a.tmps.size=sz
 it:a.tmps[it]? =some (.pointer (some ⟨r,0,none⟩))
 env:cm μ0 eo a.tmps
 dr:DR μ0 h0 w lo [] a.defers
 rel:R P μ0 h0 w
 st:St μI hI wI μ0 h0 w
 iter:w.heap[r]? =some (.mapIter (some bm) clock seen c0)
 map:w.heap[bm]? =some (.map ents clock)
 c0:clock<=c0
 done:∀(i:Nat) (en:MapEntry) (p:Value×Value),ents.toList[i]? =some en->es[i]? =some p->seen.contains en.born=true->C p
theorem getElem?_lt_size{α:Type}{a:Array α}{i:Nat}{x:α}(h:a[i]? =some x):i<a.size:=(Array.getElem?_eq_some_iff.1 h).1
theorem Je(hT:ew P T){n:Nat}{μ0:Mu}{h0:Heap}{m:Nat}{es:List (Value×Value)}{w2 w5:World}{μ2:Mu}{h1 h2:Heap}{r:Nat}(hm:h0.get m=some (.map es))(hR:R P μ0 h0 w2)(hrs:r<w2.heap.size)
 (hA1:AS (h0.next+1) ((roM h0 m es).push .dead) h1)(hA2:AS (h0.next+1) h1 h2)(hl:h2.log=[])(hR2:R P μ2 h2 w5)(hS:St (upd μ0 h0.next ⟨r,0,0,0⟩) ((roM h0 m es).push .dead) w2 μ2 h2 w5):
 R P μ0 h0 w5/\St μ0 h0 w2 μ0 h0 w5/\(∀x,x<w2.heap.size->¬Wr μ0 (roM h0 m es) x->w5.heap[x]? =w2.heap[x]?)/\(∀b k,μ0 b=some k->μ2 b=some k):=by
 have d:=(hR.toRo hm).dead hrs;have hS':St μ0 (roM h0 m es) w2 μ2 h2 w5:=d.2.trans hS (Nat.le_succ _);have hA:AS (roM h0 m es).next (roM h0 m es) h2:=(AS.push _ _ _).trans ((hA1.trans hA2).low (Nat.le_succ _))
 obtain⟨q1,q2⟩:=R.forget (hR.toRo hm) hR2 hS' hA hl;refine⟨R.Oa hR hm q1,q2.T4 hm,q2.keep,hS'.mono (hR.toRo hm)⟩
theorem KE(hT:ew P T){n:Nat}(hO:sL P T n)(hE:lM P T n){μ0 μI:Mu}{h0 hI:Heap}{wI:World}{lo sz it r bm clock nx mo out nxt pr m nt:Nat}{km:Blk}{eo:Env}{ents:Array MapEntry}{es:List (Value×Value)}{rnd rd:Option Nat}
 {ops2:List bg}{k k2:List Nat}{body:aQ}{res:Option (br×Env)}{Q:Exit->Act->World->Prop}{c:Code}
 (hres:pG (λe h=>gh T n (h0.next+1) rnd ops2 e [] h) (λe h=>ct T n (h0.next+1) rnd body e [] h) nxt pr k2 (itE it h0 eo) eo ((roM h0 m es).push .dead) es=some res)
 (hm:h0.get m=some (.map es))(hkm:μ0 m=some km)(hbm:km.r=bm)(hMR:MR μ0 es ents.toList)(hB:oU ents.toList clock)(hfree:∀b k,μ0 b=some k->k.r≠r)(hrI:wI.heap.size<=r)(hn:hI.next<=h0.next)
 (hc:fP P nt c (.seq (.region [⟨some nx, .next (.tmp it) false,none⟩,⟨some mo, .extract (.tmp nx) 0,none⟩] k) (.seq (.cond (.tmp mo) .skip (.exit out)) (.block nxt (.seq (.region (⟨some pr, .entry (.tmp it),none⟩::ops2) k2) body)))))
 (hnt:nt<=sz)(hnm:nx≠mo)(hin:it≠nx)(him:it≠mo)(hkeep:geT eo nx=none/\geT eo mo=none)(hrd:RdR μ0 rnd rd)(hlo:lo<=wI.heap.size)
 (hQn:res=none->∀a w,Post P μI hI wI lo sz .normal eo [] h0 .normal a w->Q (.exit out) a w)
 (hQx:∀i e2,res=some (.exit i,e2)->∀a w,Post P μI hI wI lo sz (.exit i) e2 [] h0 (.exit i) a w->Q (.exit i) a w)
 (hQr:∀e2,res=some (.ret,e2)->∀a w,Post P μI hI wI lo sz .ret e2 [] h0 .ret a w->Q .ret a w):
 ∀(d:Nat) (seen:Array Nat) (c0:Nat) (a:Act) (w:World),(leftOf ents seen).size<d→
  Py P μ0 h0 wI μI hI lo sz it r bm clock eo ents es (Rnd (λe h=>gh T n (h0.next+1) rnd ops2 e [] h) (λe h=>ct T n (h0.next+1) rnd body e [] h) pr k2 (itE it h0 eo) ((roM h0 m es).push .dead) (λx e2=>ng nxt (itE it h0 eo) e2 x)) seen c0 a w→
  c.roundsIn (Fw rd) 0 P Q d a w:=by
 obtain⟨hres1,hres2⟩:=vO hres;obtain⟨cs,cz,rfl,hcs,hcz⟩:=hc.inv;obtain⟨cc,cb,rfl,hcc,hcb⟩:=hcz.inv;obtain⟨cx,cy,rfl,_,hcx,hcy⟩:=hcc.inv;have hcx':cx= .skip∨∃l,cx= .label l:=hcx.inv;have:cy= .exit out:=hcy.inv;subst this;obtain⟨cq,rfl,hcq⟩:=hcb.inv;obtain⟨ca,cbody,rfl,hca,hcbody⟩:=hcq.inv;intro d;induction d with
 |zero=>intro seen c0 a w hd;omega
 |succ d ih=>
  intro seen c0 a w hd hi;have hitE:a.eval (.tmp it)= .pointer (some ⟨r,0,none⟩):=by
   show a.tmps.getD it undef=_;rw[Array.getD_eq_getD_getElem?,hi.it];rfl
  refine wpIn_seq ?_;have hbne:bm≠r:=λhh=>hfree m km hkm (hbm.trans hh);have hold:∀x∈ents.toList,x.born<clock:=λx hx=>hB.2 _ (List.mem_map_of_mem hx);have hne0:∀v,cm μ0 eo (a.put (some nx) v).tmps:=λv=>hi.env.uS hkeep.1;rcases run_next_at (P:=P) w 0 r bm clock c0 seen ents clock hi.iter hi.map hold hi.c0 with⟨h0',_⟩|_
  ·
   have hrun:∀ty,(Instr.next (.pointer (some ⟨r,0,none⟩)) false ty).run P w= .ok (.tuple (.bool false::[]).toArray) w:=λty=>by
    rcases run_next_at (P:=P) w ty r bm clock c0 seen ents clock hi.iter hi.map hold hi.c0 with⟨_,q⟩|⟨en,hen,_⟩
    ·exact q
    ·have:(leftOf ents seen).toList=[]:=by
      rw[←List.length_eq_zero_iff];simpa using h0'
     rw[this]at hen;simp at hen
   refine Cw hcs (by rw[hi.size];exact hnt) hitE hrun λhmo hnx=> ?_;have hsz2:nx<(a.put (some nx) (.tuple (.bool false::[]).toArray)).tmps.size/\mo<(a.put (some nx) (.tuple (.bool false::[]).toArray)).tmps.size:=by
    rw[dy,hi.size];omega
   refine wpIn_seq (wpIn_cond_false (n9 hsz2.2) (wpIn_exit ?_));refine hQn (hres2 λp hp=> ?_) _ _ ⟨μ0,trivial,hi.rel,hi.st,(hne0 _).uS hkeep.2,?_,?_⟩
   ·obtain⟨i,hlt,hpi⟩:=List.mem_iff_getElem.1 hp;have hl:es.length=ents.toList.length:=hMR.length;have hlt':i<ents.toList.length:=by omega
    refine hi.done i ents.toList[i] p (List.getElem?_eq_getElem hlt') (by rw[List.getElem?_eq_getElem hlt,hpi]) ?_;exact all_seen ents seen h0' _ (List.getElem_mem _)
   ·rw[put_defers,put_defers];exact hi.dr
   ·rw[dy,dy];exact hi.size
  ·
   rename_i hround;obtain⟨en,hen,w1,hw1,hrun1⟩:=hround;have hmem:=mem_left hen;have hrun:∀ty,(Instr.next (.pointer (some ⟨r,0,none⟩)) false ty).run P w= .ok (.tuple (.bool true::[en.key,en.val]).toArray) (setBlock w1 r (.mapIter (some bm) clock (seen.push en.born) clock)):=λty=>hrun1;have hrs:r<w.heap.size:=getElem?_lt_size hi.iter;have hw1h:w1.heap=w.heap:=by rcases hw1 with rfl|rfl<;>rfl
   have hw1s:Same w w1:=by rcases hw1 with rfl|rfl<;>exact⟨rfl,rfl,rfl,by first|exact Nat.le_refl _|exact Nat.le_add_right _ _⟩
   generalize hw2:setBlock w1 r (.mapIter (some bm) clock (seen.push en.born) clock)=w2 at hrun;have g1:w2.heap.size=w.heap.size:=by rw[←hw2];simp[setBlock,hw1h]
   have g2:∀r',r'≠r->w2.heap[r']? =w.heap[r']? :=λr' hne=>by
    rw[←hw2];simp[setBlock,hw1h,Array.getElem?_setIfInBounds,Ne.symm hne]
   have g3:w2.heap[r]? =some (.mapIter (some bm) clock (seen.push en.born) clock):=by
    rw[←hw2];simp[setBlock,hw1h,Array.getElem?_setIfInBounds,hrs]
   have g4:Same w w2:=by rw[←hw2];exact⟨hw1s.os,hw1s.tape,hw1s.out,hw1s.drawn⟩
   clear hw2 hrun1 hw1s hw1h hw1;have R2:R P μ0 h0 w2:=hi.rel.zo hfree g1 g2;have S2:St μI hI wI μ0 h0 w2:=hi.st.zo hrI g1 g2 g4;have D2:DR μ0 h0 w2 lo [] a.defers:=hi.dr.GZ λr' x hx=>(g2 r' (λhh=>by rw[hh,hi.iter]at hx;cases hx)).trans hx;have hmap2:w2.heap[bm]? =some (.map ents clock):=(g2 _ hbne).trans hi.map;obtain⟨j,hj,hje⟩:=List.mem_iff_getElem.1 hmem.1;have hjs:ents.toList[j]? =some en:=by rw[List.getElem?_eq_getElem hj,hje]
   obtain⟨kk,vv,hp,hvk,hvv⟩:=hMR.at j en hjs;have hpm:(kk,vv)∈es:=List.mem_of_getElem? hp;obtain⟨e1,h1,x,e2,h2,q1,q2,q3,q4⟩:=hres1 _ hpm;refine Cw hcs (by rw[hi.size];exact hnt) hitE hrun λhmo hnx=> ?_;generalize ha2:(a.put (some nx) (.tuple (.bool true::[en.key,en.val]).toArray)).put (some mo) (.bool true)=a2;have z1:a2.tmps.size=sz:=by rw[←ha2,dy,dy];exact hi.size
   have z2:cm μ0 eo a2.tmps:=by rw[←ha2];exact(hne0 _).uS hkeep.2
   have z3:a2.defers=a.defers:=by rw[←ha2,put_defers,put_defers]
   have z4:a2.eval (.tmp mo)= .bool true:=by rw[←ha2];exact n9 (by rw[dy,hi.size];omega)
   have z5:a2.tmps[it]? =some (.pointer (some ⟨r,0,none⟩)):=by
    rw[←ha2,fZ,fZ];simp[Ne.symm hin,Ne.symm him,hi.it]
   clear ha2;have skipOk:∀{Q:Exit->Act->World->Prop} {a:Act} {w:World},Q .normal a w->cx.wpIn (Fw rd) 0 P Q a w:=λhq=>by
    rcases hcx' with rfl|⟨l,rfl⟩
    ·exact wpIn_skip hq
    ·exact wpIn_label hq
   refine wpIn_seq (wpIn_cond_true z4 (skipOk ?_));refine wpIn_block (wpIn_seq ?_);obtain⟨ida,opsa,rfl,hcsa⟩:=hca.inv;refine wpIn_region ?_;cases hl:opsa.toList with
   |nil=>rw[hl]at hcsa;simp[bY]at hcsa
   |cons o1 l1=>
    have hcsa':=hcsa;rw[hl]at hcsa';obtain⟨c1,c2,c3,c4,_⟩:=gN hcsa';have hsz:opsa.size=l1.length+1:=by
     have:=congrArg List.length hl;simpa using this
    have hget:opsa[0]? =some o1:=by
     have:opsa.toList[0]? =some o1:=by rw[hl];rfl
     simpa using this
    have eo1:o1.op= .entry (.tmp it):=(lG c3).2.2.2 _ rfl;have hpr:pr<nt:=by
     have:o1.dst=some pr:=c2.symm;rw[this]at c1;simpa[j4,Nat.blt_eq]using c1
    have hev2:a2.eval (.tmp it)= .pointer (some ⟨r,0,none⟩):=by
     show a2.tmps.getD it undef=_;rw[Array.getD_eq_getD_getElem?,z5];rfl
    rw[hsz,List.range_eq_range',List.range'_succ];refine oA hget hcsa' (λc hh=>by rw[eo1]at hh;cases hh) (v:= .tuple #[en.key,en.val]) (w':=w2) ?_ ?_
    ·simp only[execOp,eo1,hev2];have:=run_entry_at (P:=P) w2 r bm clock seen ents clock en g3 hmap2 hmem.1 hB.1;simp[Sem.run_bind,this]
    ·have dd:=(R2.toRo hm).dead (r:=r) (by omega);have hup:∀b k,μ0 b=some k->upd μ0 h0.next ⟨r,0,0,0⟩ b=some k:=dd.2.mono (R2.toRo hm)
     have E0:cm (upd μ0 h0.next ⟨r,0,0,0⟩) (itE it h0 eo) a2.tmps:=by
      intro t v hv;simp only[itE,geT,cond_eq_ite,beq_eq,decide_eq_true_eq]at hv;split at hv
      ·rename_i ht;subst ht;cases hv;exact⟨_,z5,VR.ptr (o:=0) (k:=⟨r,0,0,0⟩) (dY _ _ _)⟩
      ·exact(z2.mono hup) t v hv
     have E1:cm (upd μ0 h0.next ⟨r,0,0,0⟩) ((pr, .tuple #[kk,vv])::itE it h0 eo) (a2.put (some pr) (.tuple #[en.key,en.val])).tmps:=
      cm.put (dst:=some pr) E0 (by simpa[j4,Nat.blt_eq]using hpr) (by rw[z1];exact hnt) (VR.jZ (.cons (hvk.mono hup) (.cons (hvv.mono hup) .nil)))
     have hRd:RdR (upd μ0 h0.next ⟨r,0,0,0⟩) rnd rd:=hrd.mono hup;have D3:DR (upd μ0 h0.next ⟨r,0,0,0⟩) ((roM h0 m es).push .dead) w2 lo [] (a2.put (some pr) (.tuple #[en.key,en.val])).defers:=by
      rw[put_defers,z3];exact(DR.back (R2.toRo hm) D2).step dd.2 hup
     have hlo2:lo<=w2.heap.size:=by have:=hi.st.le;omega
     have hA1:=(eS.all hT.aV n).ops _ _ _ _ _ _ _ _ _ _ q1 (Nat.le_refl _);have hA2:=(eS.all hT.aV n).exec _ _ _ _ _ _ _ _ _ _ q2 hA1.next
     have ho:=hO _ _ _ _ _ _ _ _ _ _ q1 (Nat.le_refl _) opsa 1 l1.length nt _ w2 (a2.put (some pr) (.tuple #[en.key,en.val])) rd lo (by omega) (by rw[hl];simpa using c4) (by rw[dy,z1];exact hnt) dd.1 E1 D3 hRd hlo2;refine fK (λex a3 w3 hp=> ?_) _ _ _ ho;cases ex with
     |exit i=>obtain⟨_,g,_⟩:=hp;exact g.elim
     |goto l=>obtain⟨_,g,_⟩:=hp;exact g.elim
     |ret=>obtain⟨_,g,_⟩:=hp;exact g.elim
     |panic ch=>obtain⟨_,g,_⟩:=hp;exact g.elim
     |outgrown=>obtain⟨_,g,_⟩:=hp;exact g.elim
     |normal=>
      obtain⟨μ1,_,p2,p3,p4,p5,p6⟩:=hp;have hm1:=p3.mono dd.1;have p6':a3.tmps.size=sz:=by rw[p6,dy];exact z1
      have he:=hE _ _ _ _ _ _ _ _ _ _ q2 hA1.next cbody nt μ1 w3 a3 rd lo hcbody (by omega) p2 (p4.keep k2) p5 (hRd.mono hm1) (Nat.le_trans hlo2 p3.le)
      refine dX (λex a5 w5 hp5=> ?_) he;obtain⟨μ2,x1,x2,x3,x4,x5,x6⟩:=hp5.trans p3 hA1.next
      obtain⟨y1,y2,y3,y4⟩:=Je hT (n:=n) hm R2 (by omega) hA1 hA2 q3 x2 x3;have hwr:¬Wr μ0 (roM h0 m es) r:=λ⟨b,o,k',f1,f2,f3,f4,f5⟩=>hfree b k' f4 f5;have hwm:¬Wr μ0 (roM h0 m es) bm:=λ⟨b,o,k',f1,f2,f3,f4,f5⟩=>by
       rw[lI hm]at f1;split at f1
       ·cases f1;cases f3
       ·rename_i hbm';have:=hi.rel.jP b m o _ k' km hbm' f1 hm f2 rfl f4 hkm (f5.trans hbm.symm);cases this.2
      have hbs:bm<w2.heap.size:=getElem?_lt_size hmap2;have u7:w5.heap[r]? =some (.mapIter (some bm) clock (seen.push en.born) clock):=(y3 r (by omega) hwr).trans g3;have u8:w5.heap[bm]? =some (.map ents clock):=(y3 bm hbs hwm).trans hmap2;have u5:a5.tmps.size=sz:=x6.trans p6';have S5:St μI hI wI μ0 h0 w5:=S2.trans y2 hn;have D5:DR μ0 h0 w5 lo [] a5.defers:=DR.back y1 x5;have outE5:yJ eo e2=true->cm μ0 e2 a5.tmps:=λho t v hv=>by
       obtain⟨v',f1,f2⟩:=x4 t v hv;refine⟨v',f1,?_⟩;rcases yK ho t v (xU hv)with hf|hf
       ·rw[(VR.flat hf).2 _ f2];exact(VR.flat hf).1
       ·obtain⟨v0,_,f3⟩:=hi.env t v hf;exact f3.inj y4 f2▸f3
      have goOn:ng nxt (itE it h0 eo) e2 x->Py P μ0 h0 wI μI hI lo sz it r bm clock eo ents es (Rnd (λe h=>gh T n (h0.next+1) rnd ops2 e [] h) (λe h=>ct T n (h0.next+1) rnd body e [] h) pr k2 (itE it h0 eo) ((roM h0 m es).push .dead) (λx e2=>ng nxt (itE it h0 eo) e2 x)) (seen.push en.born) clock a5 w5:=λhcx=>by
       have hsub:=hcx.2;refine⟨u5,?_,λt v hv=> ?_,D5,y1,S5,u7,u8,Nat.le_refl _,λi en' p' hie hip hsn=> ?_⟩
       ·obtain⟨v',f1,f2⟩:=x4 it _ (zy hsub it _ List.mem_cons_self);cases f2 with
        |ptr hk=>
         rename_i k';rw[x3.ext h0.next (Nat.lt_succ_self _)]at hk;replace hk:upd μ0 h0.next ⟨r,0,0,0⟩ h0.next=some k':=hk
         rw[dY]at hk;cases hk;exact f1
       ·obtain⟨v',f1,f2⟩:=x4 t v (zy hsub t v (List.mem_cons_of_mem _ (xU hv)));obtain⟨v0,_,f3⟩:=hi.env t v hv;exact⟨v',f1,f3.inj y4 f2▸f3⟩
       ·rw[contains_push]at hsn;by_cases hse:seen.contains en'.born=true
        ·exact hi.done i en' p' hie hip hse
        ·have hbe:en'.born=en.born:=by
          simp only[Bool.not_eq_true]at hse;rw[hse]at hsn;simpa using hsn
         have hij:i=j:=by
          refine(List.getElem?_inj (l:=ents.toList.map (·.born)) ?_ hB.1).1 ?_
          ·rw[List.length_map];exact(List.getElem?_eq_some_iff.1 hie).1
          ·rw[List.getElem?_map,List.getElem?_map,hie,hjs];simp[hbe]
         subst hij;rw[hp]at hip;cases hip;exact⟨e1,h1,x,e2,h2,q1,q2,q3,hcx⟩
      have next:ng nxt (itE it h0 eo) e2 x->Code.roundsIn (Fw rd) 0 P (Code.seq cs (Code.seq (Code.cond (.tmp mo) cx (.exit out)) (Code.block nxt (Code.seq (Code.region ida opsa false) cbody)))) Q d a5 w5:=λhcx=>
       ih _ _ _ _ (by have:=left_shrinks ents seen en hen;omega) (goOn hcx)
      rcases q4 with hcx|⟨hx,ho,hr⟩
      ·have nx5:=next hcx
       rcases hcx.1 with rfl|rfl
       ·cases ex with
        |normal=>exact nx5
        |_=>exact x1.elim
       ·cases ex with
        |exit i=>
         have:nxt=i:=x1;subst this;simp only[Exit.then,Exit.inBlock,if_true];exact nx5
        |_=>exact x1.elim
      ·have E5:=outE5 ho;rcases hx with rfl|⟨i,rfl,hine⟩
       ·cases ex with
        |ret=>exact hQr e2 hr _ _ ⟨μ0,trivial,y1,S5,E5,D5,u5⟩
        |_=>exact x1.elim
       ·cases ex with
        |exit i'=>
         have:i=i':=x1;subst this;simp only[Exit.then,Exit.inBlock,if_neg hine];exact hQx i e2 hr _ _ ⟨μ0,rfl,y1,S5,E5,D5,u5⟩
        |_=>exact x1.elim
theorem gK{e:Env}{l:List Nat}{t:Nat}(h:t ∉ l):geT (cE e l) t=none:=by
 cases hq:geT (cE e l) t with
 |none=>rfl
 |some v=>exact(h (rX hq)).elim
theorem Co(hT:ew P T){n:Nat}(hO:sL P T n)(hE:lM P T n):∀base rnd ops it ox keep out nxt pr ops2 k2 body e ds h x e' ds' h',ct T (n+1) base rnd (.rangeMap ops it ox keep out nxt pr ops2 k2 body) e ds h=some (x,e',ds',h')->base<=h.next→
 ∀c nt μ w (a:Act) rd lo,fP P nt c (.rangeMap ops it ox keep out nxt pr ops2 k2 body)->nt<=a.tmps.size->R P μ h w->cm μ e a.tmps->DR μ h w lo ds a.defers->RdR μ rnd rd->lo<=w.heap.size->c.wpIn (Fw rd) 0 P (Post P μ h w lo a.tmps.size x e' ds' h') a w:=by
 intro base rnd ops it ox keep out nxt pr ops2 k2 body e ds h x e' ds' h' h1 hb c nt μ w a rd lo hc hnt hR hEn hD hrd hlo;simp only[ct]at h1;obtain⟨cy,cz,opsf,nx,mo,k,keep1,rfl,hcy,hu,hcz,hnm,hin,him,hkeep⟩:=hc.inv;obtain⟨id,opsc,rfl,hcs⟩:=hcy.inv;refine wpIn_seq (wpIn_region ?_);obtain⟨l0,o,hl,hc0,hco⟩:=nF hcs hu;have hsz:opsc.size=l0.length+1:=by
  have:=congrArg List.length hl;simpa using this
 have hget:opsc[l0.length]? =some o:=by
  have:opsc.toList[l0.length]? =some o:=by rw[hl];simp
  simpa using this
 rw[hsz,List.range_succ,List.range_eq_range'];refine jl _ _ _ _ ?_;have run:∀x e' ds' h',gh T n base rnd ops e ds h=some (x,e',ds',h')->wpOpsIn (Fw rd) 0 P opsc (Post P μ h w lo a.tmps.size x e' ds' h') (List.range' 0 l0.length) a w:=λx e' ds' h' hq=>
  hO _ _ _ _ _ _ _ _ _ _ hq hb opsc 0 l0.length nt μ w a rd lo (by omega) (by rw[hl];simpa using hc0) hnt hR hEn hD hrd hlo
 split at h1
 ·rename_i e0 ds0 h0 hq;have hA:=(eS.all hT.aV n).ops _ _ _ _ _ _ _ _ _ _ hq hb;refine fK (λex a3 w3 hp=> ?_) _ _ _ (run _ _ _ _ hq);cases ex with
  |exit i=>obtain⟨_,g,_⟩:=hp;exact g.elim
  |goto l=>obtain⟨_,g,_⟩:=hp;exact g.elim
  |ret=>obtain⟨_,g,_⟩:=hp;exact g.elim
  |panic ch=>obtain⟨_,g,_⟩:=hp;exact g.elim
  |outgrown=>obtain⟨_,g,_⟩:=hp;exact g.elim
  |normal=>
   obtain⟨μ1,_,p2,p3,p4,p5,p6⟩:=hp;have hm1:=p3.mono hR;have hco':=hco;obtain⟨c1,c2,c3,_,_⟩:=gN hco';obtain⟨ty,kt,et,eo,hty,hxc⟩:=(lG c3).1 _ rfl;have hitn:it<nt:=by
    have:o.dst=some it:=c2.symm;rw[this]at c1;simpa[j4,Nat.blt_eq]using c1
   have hits:it<a3.tmps.size:=by omega
   obtain⟨cq,rfl,hcq⟩:=hcz.inv;obtain⟨cl,rfl,hcl⟩:=hcq.inv;have hkx:it ∉ keep/\nx ∉ keep/\mo ∉ keep:=⟨λq=>(hkeep _ q).1 rfl,λq=>(hkeep _ q).2.1 rfl,λq=>(hkeep _ q).2.2 rfl⟩;split at h1
   ·cases h1
   ·split at h1
    ·
     rename_i hx;cases h1;have g:=bQ p2 p4 hxc hx;generalize hev:a3.eval ox=xv at g;cases g;refine oA hget hco (λc hh=>by rw[eo]at hh;cases hh) (v:= .pointer (some ⟨w3.heap.size,0,none⟩)) (w':=w3.alloc (.mapIter none 0 #[] 0)) ?_ ?_
     ·simp only[execOp,eo,hev];simp[Sem.run_bind,run_range_nilMap w3 ty kt et hty]
     ·obtain⟨j1,j2⟩:=p2.GZ (w':=w3.alloc (.mapIter none 0 #[] 0)) rfl;have hit2:(a3.put (some it) (.pointer (some ⟨w3.heap.size,0,none⟩))).eval (.tmp it)= .pointer (some ⟨w3.heap.size,0,none⟩):=n9 hits;refine wpIn_block (wpIn_loop_rounds 1 ?_);rw[roundsIn_succ];obtain⟨ccs,ccz,rfl,hccs,hccz⟩:=hcl.inv;obtain⟨cc,cb,rfl,hcc,hcb⟩:=hccz.inv;obtain⟨cx,cy',rfl,_,hcx,hcy'⟩:=hcc.inv;have:cy'= .exit out:=hcy'.inv;subst this;refine wpIn_seq ?_;refine Cw hccs (by rw[dy];omega) hit2 (b:=false) (l:=[]) (λt=>run_next_nilMap w3 t 0 0 #[]) λhmo hnx=> ?_;refine wpIn_seq (wpIn_cond_false (n9 (by rw[dy,dy];omega)) (wpIn_exit ?_));simp only[Exit.then,Exit.inBlock,if_true];refine⟨μ1,trivial,j1,p3.trans j2 hA.next,(((p4.keep keep).uS (gK hkx.1)).uS (gK hkx.2.1)).uS (gK hkx.2.2),?_,?_⟩
      ·rw[put_defers,put_defers,put_defers];exact p5.step j2 (λ_ _ h=>h)
      ·rw[dy,dy,dy];exact p6
    ·
     rename_i m hx;split at h1
     ·rename_i es hmg;obtain⟨rfl,rfl⟩:=Da h1;have g:=bQ p2 p4 hxc hx;generalize hev:a3.eval ox=xv at g;cases g with
      |map hkm=>
       rename_i km;obtain⟨ents,clock,z1,z2,z3⟩:=p2.obj m _ hmg km hkm;refine oA hget hco (λc hh=>by rw[eo]at hh;cases hh) (v:= .pointer (some ⟨w3.heap.size,0,none⟩)) (w':=w3.alloc (.mapIter (some km.r) clock #[] clock)) ?_ ?_
       ·simp only[execOp,eo,hev];simp[Sem.run_bind,run_range_map w3 ty kt et km.r ents clock hty z1]
       ·obtain⟨j1,j2⟩:=p2.GZ (w':=w3.alloc (.mapIter (some km.r) clock #[] clock)) rfl;have hfree:∀b k,μ1 b=some k->k.r≠w3.heap.size:=λb k hb=>by have:=(p2.dom b k hb).2;omega
        have hkms:=(p2.dom m km hkm).2;generalize hres:pG (λe h=>gh T n (h'.next+1) rnd ops2 e [] h) (λe h=>ct T n (h'.next+1) rnd body e [] h) nxt pr k2 (itE it h' (cE e0 keep)) (cE e0 keep) ((roM h' m es).push .dead) es=R1 at h1;cases R1 with
        |none=>cases h1
        |some res=>
         refine wpIn_block (wpIn_loop_rounds ((leftOf ents #[]).size+1) ?_);refine KE hT hO hE (wI:=w) (μI:=μ) (hI:=h) (lo:=lo) (sz:=a.tmps.size) hres hmg hkm rfl z2 z3 hfree p3.le hA.next hcl hnt hnm hin him ⟨gK hkx.2.1,gK hkx.2.2⟩ (hrd.mono hm1) hlo ?_ ?_ ?_ _ #[] clock _ _ (Nat.lt_succ_self _) ?_
         ·intro hr a' w' hp;subst hr;cases h1;simp only[Exit.then,Exit.inBlock,if_true];exact hp
         ·intro i e2 hr a' w' hp;subst hr;simp only[Gw,cond_eq_ite,beq_eq,decide_eq_true_eq]at h1;split at h1
          ·rename_i hio;cases h1;simp only[Exit.then,Exit.inBlock,if_pos hio];obtain⟨μ',q1,q2⟩:=hp;exact⟨μ',trivial,q2⟩
          ·rename_i hio;cases h1;simp only[Exit.then,Exit.inBlock,if_neg hio];exact hp
         ·intro e2 hr a' w' hp;subst hr;cases h1;simp only[Exit.then,Exit.inBlock];exact hp
         ·refine⟨by rw[dy];exact p6,?_,(p4.keep keep).uS (gK hkx.1),?_,j1,p3.trans j2 hA.next,?_,?_,Nat.le_refl _,λi en p _ _ hs=> ?_⟩
          ·rw[fZ];simp[hits]
          ·rw[put_defers];exact p5.step j2 (λ_ _ h=>h)
          ·exact heap_alloc_new _ _
          ·exact(heap_alloc_old _ _ hkms).trans z1
          ·simp at hs
     ·cases h1
    ·cases h1
 ·rename_i hne;refine fK (λex a3 w3 hp=> ?_) _ _ _ (run _ _ _ _ h1);cases ex with
  |normal=>have:=hp.normal;subst this;exact(hne _ _ _ h1).elim
  |_=>exact hp
end Go.A
end
section
namespace Go.A
variable {P:Program} {T:Nat->Option af}
structure qd (P:Program) (T:Nat->Option af) (n:Nat):Prop where
 exec:lM P T n
 loop:rK P T n
 ops:sL P T n
 draw:mA P T n
 iX:oE P T n
 call:rJ P T n
 unw:vK P T n
 defer:qe P T n
 gX:oI P T n
 lT:rL P T n
theorem qd.zero:qd P T 0 where
 exec:=λ_ _ _ _ _ _ _ _ _ _ h=>by simp[ct]at h
 loop:=λ_ _ _ _ _ _ _ _ _ _ h=>by simp[ct]at h
 ops:=λ_ _ _ _ _ _ _ _ _ _ h=>by simp[gh]at h
 draw:=λ_ _ _ _ _ _ _ _ _ _ h=>by simp[eH]at h
 iX:=λ_ _ _ _ _ h=>by simp[fN]at h
 call:=λ_ _ _ _ _ h=>by simp[iV]at h
 unw:=λ_ _ _ _ _ _ _ _ h=>by simp[nA]at h
 defer:=λ_ _ _ _ _ _ h=>by simp[jW]at h
 gX:=λ_ _ _ _ _ _ _ _ _ h=>by simp[ir]at h
 lT:=λ_ _ _ _ _ _ _ _ _ h=>by simp[jo]at h
theorem qd.succ(hT:ew P T){n:Nat}(ih:qd P T n):qd P T (n+1):=
 have hL:=rK.succ hT ih.exec ih.loop
 {exec:=lM.Rc hT ih.exec ih.ops (ih.draw.ok hT) hL (Co hT ih.ops ih.exec) (Lt hT ih.call)
  loop:=hL
  ops:=sL.succ hT ih.ops ih.iX
  draw:=mA.succ hT ih.draw ih.iX
  iX:=oE.succ hT ih.exec ih.call
  call:=rJ.succ hT ih.exec ih.unw
  unw:=vK.succ hT ih.unw ih.defer
  defer:=qe.succ hT ih.gX
  gX:=oI.succ hT ih.gX ih.lT
  lT:=rL.succ hT ih.lT}
theorem qd.all(hT:ew P T):∀n,qd P T n
 |0=> .zero
 |n+1=> .succ hT (qd.all hT n)
theorem Bs(hT:ew P T){n f:Nat}{args:List Value}{h:Heap}{res:Res}{h':Heap}(h1:iV T n f args h=some (res,h'))(hl:h.log=[]){μ:Mu}{w:World}{args':List Value}(hR:R P μ h w)(ha:LR μ args args'):
 nh P (gQ P μ h w res h') ((callFunc f args'.toArray).run P w):=(qd.all hT n).call _ _ _ _ _ h1 hl _ _ _ hR ha
theorem nj(hT:ew P T){n f:Nat}{args:List Value}{h:Heap}{res:Res}{h':Heap}(h1:iV T n f args h=some (res,h'))(hl:h.log=[])(hf:gT (T f)=false){μ:Mu}{w:World}{args':List Value}(hR:R P μ h w)(ha:LR μ args args'):
 Calls P f args'.toArray w (gQ P μ h w res h'):=by
 have:=Bs hT h1 hl hR ha;rw[jf hT hf]at this;exact callsIn_wide.1 this
end Go.A
end
