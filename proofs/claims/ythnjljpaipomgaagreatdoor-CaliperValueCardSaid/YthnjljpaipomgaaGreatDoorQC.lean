/- The runs of the machine are sound. -/
import Derived.Test.YthnjljpaipomgaaGreatDoorQB
import Derived.RangeFuncLeaves
import Derived.RangeFuncCalls
import Derived.RecoverIn
import Derived.LoopNIn
import Derived.Scope
import Derived.OrdersIn
import Derived.Maps.RangeRun
set_option linter.all false
section
namespace Go.A
variable {P:Program} {μ:Mu} {h:Heap} {w:World} {e:Env} {a:Act} {base:Nat}
def kindOk(ao:AOp):cU->Prop
 | .val _ _=>True
 | .call _ _ _=>∃f as,ao= .call f as
 | .jI _ _=>∃f as,ao= .jI f as
 | .panic _ _=>∃x,ao= .tB x
 | .recover=>ao= .recover
variable{out:cU}
theorem kQ{a:AOp}{x:Option (Value×Heap)}(h1:fH x=some out):kindOk a out:=by
 cases x with
 |none=>cases h1
 |some p=>cases h1;trivial
theorem mh{b:AOp}(h1:aop h base e b=some out):kindOk b out:=by
 cases b;case call f as=>
  cases out<;>first|trivial|exact⟨_,_,rfl⟩|skip
  all_goals
   simp only[aop]at h1;split at h1
   ·unfold pG at h1;repeat' split at h1
    all_goals cases h1
   ·cases h1
 case jI f as=>
  cases out<;>first|trivial|exact⟨_,_,rfl⟩|skip
  all_goals
   simp only[aop]at h1;repeat' split at h1
   all_goals cases h1
 case tB x=>
  cases out<;>first|trivial|exact⟨_,rfl⟩|skip
  all_goals
   obtain⟨v,_,a⟩:=aA h1;split at a<;>cases a
 case recover=>cases h1;rfl
 case mov=>obtain⟨v,_,a⟩:=aA h1;cases a;trivial
 case box=>obtain⟨v,_,a⟩:=aA h1;cases a;trivial
 case iK=>obtain⟨v,_,a⟩:=aA h1;cases a;trivial
 case un=>obtain⟨v,_,a⟩:=aA h1;obtain⟨v,_,a⟩:=aA a;cases a;trivial
 case load=>obtain⟨v,_,a⟩:=aA h1;obtain⟨v,_,a⟩:=aA a;cases a;trivial
 case conv=>obtain⟨v,_,a⟩:=aA h1;exact kQ a
 case store=>
  obtain⟨v,_,a⟩:=aA h1;obtain⟨v,_,a⟩:=aA a;split at a<;>cases a;trivial
 case cg=>
  obtain⟨v,_,a⟩:=aA h1;split at a<;>cases a;trivial
 case bin op x y=>
  cases op;case num=>
   obtain⟨v,_,a⟩:=aA h1;obtain⟨v,_,a⟩:=aA a;obtain⟨v,_,a⟩:=aA a;cases a;trivial
  case beq=>simp only[aop]at h1;split at h1<;>cases h1;trivial
  case nil=>
   obtain⟨v,_,a⟩:=aA h1;obtain⟨v,_,a⟩:=aA a;split at a<;>cases a;trivial
  case agg=>
   obtain⟨v,_,a⟩:=aA h1;obtain⟨v,_,a⟩:=aA a;split at a
   ·split at a<;>cases a;trivial
   ·cases a
 case pick=>
  simp only[aop]at h1;split at h1
  ·obtain⟨v,_,a⟩:=aA h1;cases a;trivial
  ·obtain⟨v,_,a⟩:=aA h1;cases a;trivial
  ·cases h1
 case slice k x lo hi mx=>
  cases k<;>cases mx<;>simp only[aop]at h1
  ·repeat' split at h1
   all_goals first|(cases h1;done)|skip
   simp only[cond_eq_ite,dk]at h1;obtain⟨_,h1⟩:=h1;cases h1;trivial
  ·cases h1
  all_goals
   split at h1
   ·exact kQ h1
   ·cases h1
 case len k x=>
  match k with
  |0=>simp only[aop]at h1;split at h1<;>cases h1;trivial
  |1=>simp only[aop]at h1;split at h1<;>cases h1;trivial
  |k+2=>
   simp only[aop]at h1;split at h1
   ·cases h1;trivial
   ·split at h1<;>cases h1;trivial
   ·cases h1
 case append=>
  simp only[aop]at h1;split at h1
  ·split at h1
   ·exact kQ h1
   ·cases h1
  ·cases h1
 case kG=>
  simp only[aop]at h1;split at h1
  ·split at h1
   ·simp only[cond_eq_ite,dk]at h1;exact kQ h1.2
   ·cases h1
  ·cases h1
 case next x s=>
  cases s
  ·cases h1
  ·simp only[aop]at h1;repeat' split at h1
   all_goals first|(cases h1;done)|skip
   simp only[cond_eq_ite]at h1;split at h1<;>cases h1<;>trivial
 case dB=>simp only[aop]at h1;repeat' split at h1
          all_goals first|(cases h1;done)|(simp only[cond_eq_ite,dk]at h1;obtain⟨_,h1⟩:=h1;cases h1;trivial)
 case aQ=>simp only[aop]at h1;repeat' split at h1
          all_goals first|(cases h1;done)|(simp only[cond_eq_ite,dk]at h1;obtain⟨_,h1⟩:=h1;cases h1;trivial)
 case j9=>cases h1;trivial
 case new=>cases h1;trivial
 case mkMap=>cases h1;trivial
 all_goals
  revert h1;simp only[aop,cond_eq_ite];intro h1;repeat' split at h1
  all_goals first
   |(cases h1;done)
   |(cases h1;trivial)
   |(obtain⟨v,_,a⟩:=aA h1;cases a;trivial)
   |(exact kQ h1)
variable{o:Oper}{v:Value}{h':Heap}
theorem SS(q:R P μ h w)(u:cK μ e a.tmps){F:AOp}{c:Call}(D:o.op= .call c)(g:gO P o.op=some F)(h1:aop h base e F=some (.val v h')):
 Ran P μ h w base ((execOp a.eval o).run P w) v h':=by
 unfold gO at g;split at g
 ·rename_i hall;rw[D]at g hall;dsimp only at g;cases hcal:c.callee with
  |value f=>
   rw[hcal]at g;cases g;simp only[aop]at h1;split at h1
   ·unfold pG at h1;repeat' split at h1
    all_goals cases h1
   ·cases h1
  |invoke r nm=>rw[hcal]at g;cases g
  |builtin b=>
   rw[hcal]at g;dsimp only at g;have j:c.args.toList.all (aH P)=true:=by
    simp only[Op.operands,Call.operands,hcal,xj,List.all_append,ed]at hall;exact hall.2
   have E:∃G,(execOp a.eval o).run P w=(builtin b c.argTypes o.type G (c.args.map a.eval)).run P w:=⟨_,by
    simp[execOp,D,resolve,hcal,invoke];rfl⟩
   obtain⟨G,E⟩:=E;rw[E];have p:∀{x:Operand},c.args.toList=[x]->(c.args.map a.eval)[0]? =some (a.eval x)/\aH P x=true:=λ{x} i=>by
    rw[i]at j;refine⟨?_,by simpa using j⟩;rw[←Array.getElem?_toList,Array.toList_map,i];rfl
   have l:∀{x y:Operand},c.args.toList=[x,y]->(c.args.map a.eval)[0]? =some (a.eval x)/\(c.args.map a.eval)[1]? =some (a.eval y)/\aH P x=true/\aH P y=true:=λ{x y} i=>by
    rw[i]at j;refine⟨?_,?_,by simpa using j⟩
    ·rw[←Array.getElem?_toList,Array.toList_map,i];rfl
    ·rw[←Array.getElem?_toList,Array.toList_map,i];rfl
   have A:∀{x:TypeId},c.argTypes.toList=[x]->c.argTypes[0]? =some x:=λ{x} i=>by rw[←Array.getElem?_toList,i];rfl
   have B:∀{x y:TypeId},c.argTypes.toList=[x,y]->c.argTypes[0]? =some x/\c.argTypes[1]? =some y:=λ{x y} i=>by
    rw[←Array.getElem?_toList,←Array.getElem?_toList,i];exact⟨rfl,rfl⟩
   split at g
   ·rename_i t x ht i;have:=A ht;have:=p i;split at g
    ·cases g;exact cV (EM (ts:=c.argTypes) (ty:=o.type) (xs:=c.args.map a.eval) q u (A ht) (p i).1 (.inl ⟨rfl,by assumption⟩) (p i).2 h1) (by simp[builtin])
    ·cases g;exact cV (EM (ts:=c.argTypes) (ty:=o.type) (xs:=c.args.map a.eval) q u (A ht) (p i).1 (.inr (.inl ⟨rfl,_,by assumption⟩)) (p i).2 h1) (by simp[builtin])
    ·cases g;exact cV (EM (ts:=c.argTypes) (ty:=o.type) (xs:=c.args.map a.eval) q u (A ht) (p i).1 (.inr (.inr ⟨rfl,_,_,by assumption⟩)) (p i).2 h1) (by simp[builtin])
    ·cases g;exact cV (zR (ts:=c.argTypes) (ty:=o.type) (xs:=c.args.map a.eval) q (A ht) (p i).1 (.inl ⟨_,by assumption⟩) h1) (by simp[builtin])
    ·split at g
     ·cases g;exact cV (zR (ts:=c.argTypes) (ty:=o.type) (xs:=c.args.map a.eval) q (A ht) (p i).1 (.inr ⟨_,_,by assumption,by assumption⟩) h1) (by simp[builtin])
     ·cases g
    ·cases g
   ·rename_i t x ht i;split at g
    ·cases g;exact cV (SP (ts:=c.argTypes) (ty:=o.type) (xs:=c.args.map a.eval) q u (A ht) (p i).1 (by assumption) (p i).2 h1) (by simp[builtin])
    ·cases g
   ·rename_i st xt s x ht i;split at g
    ·split at g
     ·rename_i z b n hz hb C;split at g
      ·rename_i hcc;cases g;exact cV (EJ (ts:=c.argTypes) (ty:=o.type) (xs:=c.args.map a.eval) q u (B ht).1 (B ht).2 (l i).1 (l i).2.1 (by assumption) (by assumption) C hb hz hcc.2.2.2 hcc.1 hcc.2.1 hcc.2.2.1 (l i).2.2.1 (l i).2.2.2 h1) (by simp[builtin])
      ·cases g
     ·cases g
    ·rename_i el xd hni hst hxt;split at g
     ·rename_i n b z C hb hz;split at g
      ·rename_i hcc;cases g;exact cV (Ia (ts:=c.argTypes) (ty:=o.type) (xs:=c.args.map a.eval) q u (B ht).1 (B ht).2 (l i).1 (l i).2.1 (by assumption) (by assumption) (λk H=>hni k H) C hb hz hcc.1 hcc.2.1 hcc.2.2.1 (l i).2.2.1 (l i).2.2.2 h1) (by simp[builtin])
      ·cases g
     ·cases g
    ·cases g
   ·rename_i dt xt d s ht i;split at g
    ·obtain⟨n,C,rfl⟩:=ew g;exact cV (Pc (ts:=c.argTypes) (ty:=o.type) (xs:=c.args.map a.eval) q u (B ht).1 (l i).1 (l i).2.1 (by assumption) C (l i).2.2.1 (l i).2.2.2 h1) (by simp[builtin])
    ·cases g
   ·split at g
    ·rename_i h2;cases g;exact cV (zT (ts:=c.argTypes) (ty:=o.type) (mx:=true) q u j h2 h1) (by simp[builtin])
    ·cases g
   ·split at g
    ·rename_i h2;cases g;exact cV (zT (ts:=c.argTypes) (ty:=o.type) (mx:=false) q u j h2 h1) (by simp[builtin])
    ·cases g
   ·rename_i mt xt m k ht i;split at g
    ·split at g
     ·rename_i hl;cases g;exact cV (Ic (ts:=c.argTypes) (ty:=o.type) (xs:=c.args.map a.eval) q u (B ht).1 (l i).1 (l i).2.1 (by assumption) hl (l i).2.2.1 (l i).2.2.2 h1) (by simp[builtin])
     ·cases g
    ·cases g
   ·rename_i t x ht i;split at g
    ·split at g
     ·rename_i z hz;split at g
      ·rename_i hs;cases g;exact cV (LS (ts:=c.argTypes) (ty:=o.type) (xs:=c.args.map a.eval) q u (A ht) (p i).1 (by assumption) hz hs (p i).2 h1) (by simp[builtin])
      ·cases g
     ·cases g
    ·cases g
   ·cases g;cases h1
   ·cases g
 ·cases g
variable{f:AOp}
theorem Gk(i:R P μ h w)(g:cK μ e a.tmps)(j:gO P o.op=some f)(h1:aop h base e f=some (.val v h')):
 Ran P μ h w base ((execOp a.eval o).run P w) v h':=by
 by_cases b:∃c,o.op= .call c
 ·obtain⟨c,b⟩:=b;exact SS i g b j h1
 ·exact SR i g j h1 λc d=>b ⟨c,d⟩
variable{op:Op}
theorem jH{e:AOp}(a:gO P op=some e):
 (∀f as,e= .call f as->∃c,op= .call c/\c.callee= .value f/\c.args.toList=as/\aH P f=true/\as.all (aH P)=true)∧
 (∀f as,e= .jI f as->∃c,op= .defer c/\c.callee= .value f/\c.args.toList=as/\aH P f=true/\as.all (aH P)=true)∧
 (∀x,e= .tB x->op= .panic x/\aH P x=true)/\(e= .recover->∃c,op= .call c/\c.callee= .builtin .recover):=by
 unfold gO at a;split at a
 ·rename_i hall;have l:∀(c:Call) (f:Operand),c.callee= .value f->c.operands.toList.all (aH P)=true->aH P f=true/\c.args.toList.all (aH P)=true:=λc f d i=>by
   simp only[Call.operands,d,xj,List.all_append,ed]at i;exact⟨by simpa using i.1,i.2⟩
  cases op<;>(try dsimp only at a)
  case call c=>
   split at a
   ·rename_i f d;cases a;obtain⟨j,k⟩:=l c f d hall;refine⟨λg as h=> ?_,λg as h=>(by cases h),λx h=>(by cases h),λh=>(by cases h)⟩;cases h;exact⟨c,rfl,d,rfl,j,k⟩
   ·cases a
   ·rename_i b hb;repeat' split at a
    all_goals first
     |(cases a;done)
     |(cases a;exact⟨λ_ _ h=>(by cases h),λ_ _ h=>(by cases h),λ_ h=>(by cases h),λ_=>⟨c,rfl,hb⟩⟩)
     |(cases a;exact⟨λ_ _ h=>(by cases h),λ_ _ h=>(by cases h),λ_ h=>(by cases h),λh=>(by cases h)⟩)
     |(obtain⟨_,_,rfl⟩:=ew a;exact⟨λ_ _ h=>(by cases h),λ_ _ h=>(by cases h),λ_ h=>(by cases h),λh=>(by cases h)⟩)
  case defer c=>
   split at a
   ·rename_i f d;cases a;obtain⟨j,k⟩:=l c f d hall;refine⟨λg as h=>(by cases h),λg as h=> ?_,λx h=>(by cases h),λh=>(by cases h)⟩;cases h;exact⟨c,rfl,d,rfl,j,k⟩
   ·cases a
  case panic x=>
   cases a;refine⟨λg as h=>(by cases h),λg as h=>(by cases h),λx h=> ?_,λh=>(by cases h)⟩;cases h;exact⟨rfl,by simpa[Op.operands]using hall⟩
  all_goals
   repeat' split at a
   all_goals first
    |contradiction
    |(cases a;done)
    |(cases a;exact⟨λ_ _ h=>(by cases h),λ_ _ h=>(by cases h),λ_ h=>(by cases h),λh=>(by cases h)⟩)
    |(obtain⟨_,_,rfl⟩:=ew a;exact⟨λ_ _ h=>(by cases h),λ_ _ h=>(by cases h),λ_ h=>(by cases h),λh=>(by cases h)⟩)
 ·cases a
variable{fn:Fn}
theorem Ba(y:R P μ h w)(x:cK μ e a.tmps){u:AOp}(B:gO P o.op=some u){args:List Value}(h1:aop h base e u=some (.call fn args h')):
 h'=h/\(∀c,o.op≠ .defer c)/\∃args',LR μ args args'∧((∃g,fn= .func g/\(execOp a.eval o).run P w=(callFunc g args'.toArray).run P w)∨
  (∃l k,fn= .yield l/\μ l=some k/\(execOp a.eval o).run P w=(Instr.yield k.r args'.toArray).run P w)):=by
 obtain⟨f,as,rfl⟩:=mh h1;obtain⟨c,d,i,rfl,C,s⟩:=(jH B).1 f as rfl;simp only[aop]at h1;split at h1
 ·rename_i fv av hfv hav;have p:=bW y x C hfv;have v:=tV y x s hav;have q:(c.args.map a.eval).toList=c.args.toList.map a.eval:=by simp
  generalize hev:a.eval f=fv' at p;unfold pG at h1;split at h1
  ·rename_i g first cap
   cases h1;obtain⟨A,j,n,rfl,m,t,z⟩:=p.pH;cases m;refine⟨rfl,(λn b=>by rw[d]at b;cases b),(j.toList++(c.args.toList.map a.eval++n.toList)),?_, .inl ⟨g,rfl,?_⟩⟩
   ·rw[dI,dI];exact t.append (v.append z)
   ·have:(j.toList++(c.args.toList.map a.eval++n.toList)).toArray=j++c.args.map a.eval++n:=by apply eD;simp
    rw[this];simp[execOp,d,resolve,i,hev,Deferred.ofValue,invoke]
  ·rename_i l first cap
   split at h1
   ·rename_i hcap;cases h1;obtain⟨A,j,n,rfl,m,t,z⟩:=p.pH;cases m with
    |yield hk=>
     rename_i k;refine⟨rfl,(λn b=>by rw[d]at b;cases b),(j.toList++c.args.toList.map a.eval),?_, .inr ⟨l,k,rfl,hk,?_⟩⟩
     ·rw[dI];exact t.append v
     ·have:(j.toList++c.args.toList.map a.eval).toArray=j++c.args.map a.eval:=by apply eD;simp
      rw[this];simp[execOp,d,resolve,i,hev,Deferred.ofValue,invoke]
   ·cases h1
  ·cases h1
 ·cases h1
theorem Pd(n:R P μ h w)(m:cK μ e a.tmps){k:AOp}(s:gO P o.op=some k){f:Value}{args:List Value}(h1:aop h base e k=some (.jI f args)):
 ∃g first cap first' cap' args',f= .func (.func g) first cap/\LR μ first.toList first'.toList/\LR μ cap.toList cap'.toList/\LR μ args args'∧
  (execOp a.eval o).run P w= .ok (.defer {target:= .fn (.func g) cap',args:=first'++args'.toArray}) w:=by
 obtain⟨f,as,rfl⟩:=mh h1;obtain⟨c,j,b,rfl,t,d⟩:=(jH s).2.1 f as rfl;simp only[aop]at h1;split at h1
 ·rename_i g first cap av hfv hav
  cases h1;have l:=bW n m t hfv;have r:=tV n m d hav;generalize hev:a.eval f=fv' at l;obtain⟨x,p,q,rfl,i,u,v⟩:=l.pH;cases i;refine⟨g,first,cap,p,q,_,rfl,u,v,r,?_⟩;have:c.args.map a.eval=(c.args.toList.map a.eval).toArray:=by apply eD;simp
  simp[execOp,j,resolve,b,hev,Deferred.ofValue,this]
 ·cases h1
theorem L4(j:R P μ h w)(i:cK μ e a.tmps)(k:gO P o.op=some f)(h1:aop h base e f=some (.panic v h')):
 h'=h/\∃v',VR μ v v'∧(execOp a.eval o).run P w= .halt (.panic v') w:=by
 obtain⟨x,rfl⟩:=mh h1;obtain⟨c,l⟩:=(jH k).2.2.1 x rfl;obtain⟨m,d,b⟩:=aA h1;have g:=bW j i l d;split at b
 ·cases b;generalize hev:a.eval x=xv' at g;refine⟨rfl,xv',g,?_⟩;cases g;simp[execOp,c,hev,Instr.panic,goPanic,Result.andThen]
 ·cases b
theorem ER(g:gO P o.op=some f)(h1:aop h base e f=some .recover):(execOp a.eval o).run P w= .ok .recover w:=by
 have:=mh h1;obtain⟨c,d,b⟩:=(jH g).2.2.2 this;simp[execOp,d,resolve,b,invoke,builtin]
variable{h1:Heap}
theorem R.congr{a:Heap}(c:R P μ h1 w)(ho:h1.cm=a.cm)(f:h1.next=a.next):R P μ a w:=by
 have e:∀b,a.get b=h1.get b:=λb=>by simp[Heap.get,ho]
 exact⟨f▸c.big,λg o h1 a=>c.lR g o h1 (e g▸a),λb o d=>c.obj b o (e b▸d),λb o d=>f▸c.lt b o (e b▸d),λb k d=>f▸c.dom b k d,
  λb i o l k j h h1 a=>c.kT b i o l k j h (e b▸h1) (e i▸a)⟩
theorem Wr.congr{a:Heap}(ho:h1.cm=a.cm){r:Nat}(d:Wr μ h1 r):Wr μ a r:=by
 obtain⟨b,o,k,c,x⟩:=d;exact⟨b,o,k,by simpa[Heap.get,ho]using c,x⟩
theorem St.ja{b:Heap}{μ0:Mu}{a:Heap}{w0:World}(s:St μ0 a w0 μ h1 w)(ho:h1.cm=b.cm):St μ0 a w0 μ b w:=
 ⟨s.ext,s.le,s.keep,λr c d=>s.wr r c (d.congr ho.symm),s.loops,s.same⟩
variable{μ':Mu}{w':World}
theorem St.pq{a:Heap}(s:St μ h1 w μ' h' w')(ho:h1.cm=a.cm)(f:h1.next=a.next):St μ a w μ' h' w':=
 ⟨λb e=>s.ext b (f▸e),s.le,λr c d=>s.keep r c λq=>d (q.congr ho),λr c d=>(s.wr r c d).congr ho,s.loops,s.same⟩
theorem lX:∀(l:List (Nat×bM)) (a n:Nat) (m:List (Nat×bM)),l.map (·.1)=dA a n->∀b,b<a->fA (l++m) b=fA m b
 |[],a,n,m,_,b,_=>rfl
 |(k,o)::l,a,0,m,h,b,_=>by simp[dA]at h
 |(k,o)::l,a,n+1,m,h,b,hb=>by
  simp only[pD,dA,List.cons.injEq]at h;obtain⟨h1,h2⟩:=h;simp only[wc,fA,cond_eq_ite,beq_eq,decide_eq_true_eq];rw[if_neg (by omega)];exact lX l a n m h2 b hb
theorem CL:∀(l:List (Nat×bM)) (b:Nat) (o:bM),fA l b=some o->b∈l.map (·.1)
 |(k,q)::l,b,o,h=>by
  simp only[fA,cond_eq_ite,beq_eq,decide_eq_true_eq]at h;split at h
  ·rename_i e;simp[e]
  ·have:=CL l b o h;simp at this⊢;exact .inr this
theorem CX:∀(l:List (Nat×bM)) (b:Nat),b∈l.map (·.1)->∃o,fA l b=some o
 |(k,q)::l,b,h=>by
  simp only[fA,cond_eq_ite,beq_eq,decide_eq_true_eq];by_cases e:k=b
  ·exact⟨q,by simp[e]⟩
  ·simp only[pD,ui]at h;rcases h with h|h
   ·exact absurd h.symm e
   ·obtain⟨o,ho⟩:=CX l b h;exact⟨o,by simp[e,ho]⟩
variable{c:Heap}
theorem Kj(i:R P μ c w)(h:AS c.next c h1)(b:Nat):fA (nH (h1.next-c.next) h1.cm) b=if b<c.next then h1.get b else none:=by
 unfold nH;rw[aW];have g:=h.keys;have e:(h1.cm.take (h1.next-c.next)).map (·.1)=dA c.next (h1.next-c.next):=by
  rw[GT,g];have:∀a n,(dA a n).length=n:=λa n=>by induction n<;>simp[dA, *]
  exact List.take_left' (this _ _)
 have d:(h1.cm.drop (h1.next-c.next)).map (·.1)=c.cm.map (·.1):=by
  rw[List.map_drop,g];have:∀a n,(dA a n).length=n:=λa n=>by induction n<;>simp[dA, *]
  exact List.drop_left' (this _ _)
 by_cases hb:b<c.next
 ·rw[if_pos hb];have:=lX _ _ _ (h1.cm.drop (h1.next-c.next)) e b hb;rw[rv]at this;exact this.symm
 ·rw[if_neg hb];cases hg:fA (h1.cm.drop (h1.next-c.next)) b with
  |none=>rfl
  |some o=>
   have:=CL _ _ _ hg;rw[d]at this;obtain⟨j,f⟩:=CX _ _ this;exact absurd (i.lt b j f) hb
theorem zC{h:Heap}{base:Nat}:∀{l:List Nat},fI h base l=true->∀b,fF l b=true->b<base→
 (∃vs own sz,h.get b=some (.cells vs own sz)/\cZ vs=true)∨(∃es,h.get b=some (.map es)/\jf (es.map (·.1))=true/\jf (es.map (·.2))=true)∨h.get b=some .dead∨(∃s pos,h.get b=some (.lN s pos))
 |[],_,b,hb,_=>by cases hb
 |x::l,hc,b,hb,hlt=>by
  rw[mb]at hb;simp only[fI,cond_eq_ite,blt_eq,decide_eq_true_eq,ed]at hc;by_cases hx:x=b
  ·subst hx;rw[if_pos hlt]at hc;split at hc
   ·rename_i vs own sz hg;split at hc
    ·rename_i hs;exact .inl ⟨_,_,_,hg,hs⟩
    ·cases hc
   ·rename_i es hg;split at hc
    ·rename_i hs;exact .inr (.inl ⟨_,hg,hs.1,hs.2⟩)
    ·cases hc
   ·rename_i hg;exact .inr (.inr (.inl hg))
   ·rename_i s pos hg;exact .inr (.inr (.inr ⟨s,pos,hg⟩))
   ·cases hc
  ·have hb:fF l b=true:=by simpa[hx]using hb
   have:fI h base l=true:=by
    split at hc
    ·split at hc
     ·split at hc
      ·exact hc
      ·cases hc
     ·split at hc
      ·exact hc
      ·cases hc
     ·exact hc
     ·exact hc
     ·cases hc
    ·exact hc
   exact zC this b hb hlt
def uK(μ:Mu)(n:Nat):Mu:=λb=>if b<n then μ b else none
theorem MR.flat{es:List (Value×Value)}{ms:List MapEntry}(b:MR μ es ms){μ':Mu}(h1:jf (es.map (·.1))=true)(a:jf (es.map (·.2))=true):MR μ' es ms:=by
 induction b with
 |nil=>exact .nil
 |cons q1 q2 _ ih=>
  simp only[pD,jf,cond_eq_ite]at h1 a;split at h1
  ·rename_i f1;split at a
   ·rename_i f2;refine .cons ?_ ?_ (ih h1 a)
    ·rw[(VR.flat f1).2 _ q1];exact(VR.flat f1).1
    ·rw[(VR.flat f2).2 _ q2];exact(VR.flat f2).1
   ·cases a
  ·cases h1
variable{μ1:Mu}{es:List (Value×Value)}
theorem MR.back(c:∀b k,μ b=some k->μ1 b=some k){ms ms':List MapEntry}(h1:MR μ es ms)(a:MR μ1 es ms'):MR μ es ms':=by
 induction h1 generalizing ms' with
 |nil=>cases a;exact .nil
 |cons q1 q2 _ ih=>cases a with
  |cons p1 p2 p3=>exact .cons (q1.inj c p1▸q1) (q2.inj c p2▸q2) (ih p3)
theorem BD:∀{vs:List Value},cZ vs=true->∀i,i<vs.length->mL (gv vs i)=true
 |[],_,i,hi=>by simp at hi
 |v::vs,h,i,hi=>by
  simp only[cZ,cond_eq_ite]at h;split at h
  ·rename_i hv;cases i with
   |zero=>exact hv
   |succ i=>exact BD h i (by simpa using hi)
  ·cases h
variable{v':Value}
theorem Kk{m:Heap}{w0 U:World}{μ0:Mu}(w:R P μ0 m w0)(x:R P μ1 h1 U)(A:St μ0 m w0 μ1 h1 U)(I:AS m.next m h1)(Q:VR μ1 v v'):
 ∃μ2,R P μ2 (gcA m h1 v) U/\VR μ2 v v'∧St μ0 m w0 μ2 (gcA m h1 v) U/\AS m.next m (gcA m h1 v):=by
 unfold gcA;cases hc:(cE v&&fI h1 m.next h1.log)with
 |false=>exact⟨μ1,x,Q,A,I⟩
 |true=>
  simp only[ed]at hc;obtain⟨O,Y⟩:=hc;simp only[cond_true];have N:=A.mono w;have l:∀b,({h1 with cm:=nH (h1.next-m.next) h1.cm,next:=m.next}:Heap).get b=if b<m.next then h1.get b else none:=λb=>Kj w I b
  have d:∀b k,uK μ1 m.next b=some k->b<m.next/\μ1 b=some k:=λb k f=>by
   unfold uK at f;split at f
   ·exact⟨by assumption,f⟩
   ·cases f
  have E:∀b k,μ0 b=some k->uK μ1 m.next b=some k:=λb k f=>by
   unfold uK;rw[if_pos (w.dom b k f).1];exact N b k f
  have C:∀b k,uK μ1 m.next b=some k->μ0 b=some k:=λb k f=>by
   obtain⟨G,y⟩:=d b k f;rw[←A.ext b G];exact y
  refine⟨uK μ1 m.next,⟨w.big,λg o hg T=> ?_,λb o f=> ?_,λb o f=> ?_,λb k f=> ?_,λb b' o o' k k' ae f B l1 l2 m1 m2=> ?_⟩,?_,⟨λb f=> ?_,A.le,A.keep,λr hr hw=> ?_,A.loops,A.same⟩,⟨bl _,?_,λb f Z=>I.mono b f Z,λb f hn Z=> ?_⟩⟩
  ·rw[l]at T;split at T
   ·rename_i hlt;obtain⟨k,G,y⟩:=x.lR g o hg T;exact⟨k,by unfold uK;rw[if_pos hlt];exact G,y⟩
   ·cases T
  ·rw[l]at f;split at f
   ·rename_i hlt;have q:=x.obj b o f;cases hlog:fF h1.log b with
    |true=>
     rcases zC Y b hlog hlt with⟨vs,own,sz,u,J⟩|⟨es,u,J,X⟩|u|⟨s,pos,u⟩
     ·rw[f]at u;cases u;intro k j;obtain⟨z0,c,V,W,z1,z2,z3,z4,z5⟩:=q k (d b k j).2;refine⟨z0,c,V,W,z1,z2,z3,λi M=> ?_,z5⟩;obtain⟨v',y1,H⟩:=z4 i M;have hs:=BD J i M;exact⟨v',y1,by rw[(VR.mL hs).2 _ H];exact(VR.mL hs).1⟩
     ·rw[f]at u;cases u;intro k j;obtain⟨p,h,z1,z2,S⟩:=q k (d b k j).2;exact⟨p,h,z1,z2.flat J X,S⟩
     ·rw[f]at u;cases u;trivial
     ·rw[f]at u;cases u;intro k j;exact q k (d b k j).2
    |false=>
     have K:=I.same b hlt hlt hlog;rw[f]at K;have D:=w.obj b o K.symm;cases o with
     |cells vs own sz=>
      intro k j;obtain⟨z0,c,V,W,z1,z2,z3,z4,z5⟩:=q k (d b k j).2;obtain⟨_,c0,_,_,_,_,_,y4,_⟩:=D k (C b k j);refine⟨z0,c,V,W,z1,z2,z3,λi M=> ?_,z5⟩;obtain⟨v1,p1,p2⟩:=z4 i M;obtain⟨v0,G,y⟩:=y4 i M;exact⟨v1,p1,(y.inj N p2▸y).mono E⟩
     |map es=>
      intro k j;obtain⟨p,h,z1,z2,S⟩:=q k (d b k j).2;obtain⟨F,z,y1,H,_⟩:=D k (C b k j);exact⟨p,h,z1,(H.back N z2).mono E,S⟩
     |qX es=>
      intro k j;obtain⟨p,h,z1,z2,S⟩:=q k (d b k j).2;obtain⟨F,z,y1,H,_⟩:=D k (C b k j);exact⟨p,h,z1,(H.back N z2).mono E,S⟩
     |loop e ps asg body st iN=>
      intro k j;obtain⟨L,z1,z2,z3⟩:=q k (d b k j).2;obtain⟨L0,y1,H,_⟩:=D k (C b k j);refine⟨L,z1,λt v Q=> ?_,z3⟩;obtain⟨v1,p1,p2⟩:=z2 t v Q;obtain⟨v0,G,y⟩:=H t v Q;exact⟨v1,p1,(y.inj N p2▸y).mono E⟩
     |lN s pos=>intro k j;exact q k (d b k j).2
     |dead=>trivial
   ·cases f
  ·rw[l]at f;split at f
   ·assumption
   ·cases f
  ·obtain⟨G,y⟩:=d b k f;exact⟨G,(x.dom b k y).2⟩
  ·rw[l]at f B;split at f
   ·split at B
    ·exact x.kT b b' o o' k k' ae f B l1 l2 (d b k m1).2 (d b' k' m2).2
    ·cases B
   ·cases f
  ·rw[(VR.cE O).2 _ Q];exact(VR.cE O).1
  ·unfold uK;rw[if_pos f];exact A.ext b f
  ·obtain⟨b,o,k,u,J,X,g4,g5⟩:=hw;rw[l]at u;split at u
   ·exact A.wr r hr ⟨b,o,k,u,J,X,(d b k g4).2,g5⟩
   ·cases u
  ·simp only[ul,dA,vd];have j:=I.keys;unfold nH;rw[aW,List.map_drop,j];have:∀a n,(dA a n).length=n:=λa n=>by induction n<;>simp[dA, *]
   exact List.drop_left' (this _ _)
  ·rw[l,if_pos hn];exact I.same b f hn Z
theorem oE(base:Nat):∀(m l:List Nat) (b:Nat),fF (aB base l m) b=(fF l b||(decide (b<base)&&fF m b))
 |[],l,b=>by simp[aB,fF]
 |x::m,l,b=>by
  simp only[aB,cond_eq_ite,blt_eq];rw[oE base m,mb];by_cases hx:x<base
  ·by_cases hl:fF l x=true
   ·by_cases hb:x=b
    ·subst hb;simp[hx,hl]
    ·simp[hx,hl,hb]
   ·by_cases hb:x=b
    ·subst hb;simp[hx,hl,mb]
    ·simp[hx,hl,hb,mb]
  ·by_cases hb:x=b
   ·subst hb;simp[hx]
   ·simp[hx,hb]
theorem AS.call(d:AS h.next {h with log:=[]} c)(hb:base<=h.next):AS base h {c with log:=aB base h.log c.log}where
 next:=d.next
 keys:=d.keys
 mono:=λb _ a=>by rw[oE,a];rfl
 same:=λb e f a=>by
  rw[oE]at a;simp only[qr,pC,decide_eq_false_iff_not]at a;exact d.same b f f (by rcases a.2 with q|q;exact absurd e q;exact q)
def Fw(rd:Option Nat):Fence:={fn:=λ_=>True,depth:=none,alive:=false,round:=rd}
def RdR(μ:Mu):Option Nat->Option Nat->Prop
 |none,rd=>rd=none
 |some l,rd=>∃k,μ l=some k/\rd=some k.r
theorem RdR.mono(e:∀b k,μ b=some k->μ' b=some k){r a:Option Nat}(h:RdR μ r a):RdR μ' r a:=by
 cases r with
 |none=>exact h
 |some l=>obtain⟨k,c,d⟩:=h;exact⟨k,e _ _ c,d⟩
inductive DR (μ:Mu) (h:Heap) (w:World) (lo:Nat):Dfs->List Deferred->Prop
 |nil:DR μ h w lo [] []
 |cons {g first cap first' cap' args args' ds ms}:LR μ first.toList first'.toList->LR μ cap.toList cap'.toList->LR μ args args'→DR μ h w lo ds ms→
  DR μ h w lo ((.func (.func g) first cap,args)::ds) ({target:= .fn (.func g) cap',args:=first'++args'.toArray}::ms)
 |mark {r ds ms}:lo<=r->(∀r' as,({target:= .collected r',args:=as}:Deferred)∈ms->r'<r)->w.heap[r]? =some (.deferred (some []))->¬Wr μ h r->DR μ h w lo ds ms->DR μ h w lo ds ({target:= .collected r,args:= #[]}::ms)
variable{lo:Nat}
theorem DR.step{d:Dfs}{ms:List Deferred}(s:St μ h w μ' h' w')(c:∀b k,μ b=some k->μ' b=some k)(e:DR μ h w lo d ms):DR μ' h' w' lo d ms:=by
 induction e with
 |nil=>exact .nil
 |cons h1 h2 h3 _ ih=>exact .cons (h1.mono c) (h2.mono c) (h3.mono c) ih
 |mark h1 h0 h2 h3 _ ih=>
  have a:=(Array.getElem?_eq_some_iff.1 h2).1;exact .mark h1 h0 ((s.keep _ a h3).trans h2) (λq=>h3 (s.wr _ a q)) ih
theorem DR.marks{b:Dfs}{ms:List Deferred}(c:DR μ h w lo b ms):∀r as,({target:= .collected r,args:=as}:Deferred)∈ms->r<w.heap.size:=by
 induction c with
 |nil=>intro r as a;cases a
 |cons _ _ _ _ ih=>
  intro r as a;rcases List.mem_cons.1 a with h|h
  ·injection h with h1 h2;cases h1
  ·exact ih r as h
 |mark _ _ h2 _ _ ih=>
  intro r as a;rcases List.mem_cons.1 a with h|h
  ·injection h with h1 h3;injection h1 with h1;subst h1;exact(Array.getElem?_eq_some_iff.1 h2).1
  ·exact ih r as h
def XR(μ:Mu):bk->Exit->Prop
 | .normal, .normal=>True
 | .exit i, .exit j=>i=j
 | .ret, .ret=>True
 | .panic v, .panic chain=>∃v',chain=[{v:=v',recovered:=false}]/\VR μ v v'
 |_,_=>False
def Post(P:Program)(μ0:Mu)(h0:Heap)(w0:World)(lo sz:Nat)(x:bk)(e':Env)(ds':Dfs)(h':Heap):Exit->Act->World->Prop:=λex a' w'=>
 ∃μ',XR μ' x ex/\R P μ' h' w'∧St μ0 h0 w0 μ' h' w'∧cK μ' e' a'.tmps/\DR μ' h' w' lo ds' a'.defers/\a'.tmps.size=sz
theorem Post.trans{μ0 μ1:Mu}{b h1:Heap}{w0 e:World}{lo sz:Nat}{x:bk}{e':Env}{a:Dfs}{h':Heap}(s:St μ0 b w0 μ1 h1 e)(f:b.next<=h1.next){d:Exit}{c:Act}{w':World}
 (g:Post P μ1 h1 e lo sz x e' a h' d c w'):Post P μ0 b w0 lo sz x e' a h' d c w':=by
 obtain⟨μ',h,i,j,k⟩:=g;exact⟨μ',h,i,s.trans j f,k⟩
theorem gQ(a:Act)(dst:Option Tmp)(v:Value):(a.put dst v).tmps=match dst with|some d=>a.tmps.setIfInBounds d v|none=>a.tmps:=by
 cases dst<;>rfl
theorem dK(a:Act)(dst:Option Tmp)(v:Value):(a.put dst v).tmps.size=a.tmps.size:=by
 cases dst<;>simp[Act.put]
theorem put_defers(a:Act)(dst:Option Tmp)(v:Value):(a.put dst v).defers=a.defers:=by cases dst<;>rfl
variable{nt:Nat}{dst:Option Nat}
theorem cK.put(c:cK μ e a.tmps)(d:lJ nt dst=true)(f:nt<=a.tmps.size)(g:VR μ v v'):cK μ (bN e dst v) (a.put dst v').tmps:=by
 cases dst with
 |none=>exact c
 |some t=>
  simp only[lJ,ub]at d;intro x y b;simp only[bN,geT,cond_eq_ite,beq_eq,decide_eq_true_eq]at b;rw[gQ];simp only[gy];split at b
  ·rename_i e;subst e;cases b;exact⟨v',by simp[show t<a.tmps.size by omega],g⟩
  ·rename_i hne;obtain⟨j,h,i⟩:=c x y b;exact⟨j,by simp[hne,h],i⟩
theorem cK.keep{t:Array Value}(a:cK μ e t):∀(l:List Nat),cK μ (bD e l) t
 |[]=>λx v hv=>by cases hv
 |y::l=>by
  simp only[bD];split
  ·rename_i v hv;intro x u hu;simp only[geT,cond_eq_ite,beq_eq,decide_eq_true_eq]at hu;split at hu
   ·rename_i e;subst e;cases hu;exact a _ _ hv
   ·exact(cK.keep a l) x u hu
  ·exact cK.keep a l
def Wx(μ:Mu):Res->Ending->Prop
 | .ret v, .returned v'=>VR μ v v'
 | .panic v, .panicked chain=>∃v',chain=[{v:=v',recovered:=false}]/\VR μ v v'
 |_,_=>False
def gU(P:Program)(μ0:Mu)(h0:Heap)(w0:World)(res:Res)(h':Heap):Ending->World->Prop:=λen w'=>∃μ',Wx μ' res en/\R P μ' h' w'∧St μ0 h0 w0 μ' h' w'
def oQ(P:Program)(Rp:Ending->World->Prop):Result Next->Prop
 | .ok (.value v) w'=>Rp (.returned v) w'
 | .ok (.enter f args) w'=>CallsIn Fence.wide 0 P f args w' Rp
 | .ok (.row row args) w'=>RowsIn Fence.wide 0 P row args w' λv w''=>Rp (.returned v) w''
 | .ok (.round l f tmps assign body) w'=>RoundIn Fence.wide 0 P l f tmps assign body w' Rp
 | .halt (.panic v) w'=>Rp (.panicked [{v,recovered:=false}]) w'
 |_=>False
variable{next:Act->World->Prop}{Q:Exit->Act->World->Prop}
theorem jo{g:Option Nat}{d:Ending->World->Prop}{r:Result Next}(hr:oQ P d r)
 (h1:∀v b,d (.returned v) b→next (a.put o.dst v) b)(h:∀chain b,d (.panicked chain) b→Q (.panic chain) a b)(j:∀b,¬d .outgrown b):o.uponIn (Fw g) 0 P a next Q r:=by
 have i:∀e b,d e b→(match(motive:=Ending->World->Prop) e,b with
  | .returned v,w''=>next (a.put o.dst v) w''
  | .panicked chain,w''=>Q (.panic chain) a w''
  | .outgrown,_=>LetsOut Q):=λe b f=>by
  cases e with
  |returned v=>exact h1 v b f
  |panicked c=>exact h c b f
  |outgrown=>exact(j b f).elim
 cases r with
 |ok n b=>
  cases n<;>first|exact hr.elim|skip
  ·exact h1 _ _ hr
  ·exact⟨(λq=>by cases q),CallsIn.mono (F:=Fw g) hr i⟩
  ·exact⟨(λq=>by cases q),RoundIn.mono (F:=Fw g) hr i⟩
  ·exact⟨(λq=>by cases q),RowsIn.mono (F:=Fw g) hr λv b f=>h1 v b f⟩
 |halt hl b=>
  cases hl<;>first|exact hr.elim|exact h _ _ hr
def Rm(base:Nat)(h:Heap):cU->Prop
 | .val _ h'=>AS base h h'
 |_=>True
variable{size:Nat}
theorem Fo{a:Option Addr}{len cap:Nat}{lo hi mx:Option Operand}(h1:iM h e size a len cap lo hi mx=some (v,h')):AS base h h':=by
 unfold iM at h1;simp only[cond_eq_ite]at h1;repeat' split at h1
 all_goals first
  |(cases h1;done)
  |(cases h1;exact .refl _ _)
  |(cases h1;exact .push _ _ _)
variable{n:Nat}
theorem vT{a:Nat}{s:Value}{b:List Value}(h1:jj h base size a s b n=some (v,h')):AS base h h':=by
 unfold jj at h1;simp only[cond_eq_ite]at h1;repeat' split at h1
 all_goals first
  |(cases h1;done)
  |(cases h1;exact .refl _ _)
  |(cases h1;exact .push _ _ _)
  |(cases h1;exact .wr _ _ _ _)
  |(cases h1;exact(AS.wr _ _ _ _).trans (.push _ _ _))
variable{x:Value}
theorem JV{c:Cv}(h1:qZ h c x=some (v,h')):AS base h h':=by
 unfold qZ at h1;repeat' split at h1
 all_goals first
  |(cases h1;done)
  |(cases h1;exact .refl _ _)
  |(cases h1;exact .push _ _ _)
theorem ID(h1:sB h base n v x=some h'):AS base h h':=by
 unfold sB at h1;simp only[cond_eq_ite]at h1;repeat' split at h1
 all_goals first
  |(cases h1;done)
  |(cases h1;exact .wr _ _ _ _)
theorem qv{x:Option (Value×Heap)}(h1:fH x=some out)(a:∀v h',x=some (v,h')->AS base h h'):Rm base h out:=by
 cases x with
 |none=>cases h1
 |some p=>cases h1;exact a _ _ rfl
theorem RD{d:AOp}(h1:aop h base e d=some out):Rm base h out:=by
 cases d
 case call=>have:=mh h1;cases out<;>first|trivial|(obtain⟨f,as,b⟩:=this;cases b;done)|skip
            simp only[aop]at h1;split at h1
            ·unfold pG at h1;repeat' split at h1
             all_goals cases h1
            ·cases h1
 case jI=>
  simp only[aop]at h1;repeat' split at h1
  all_goals cases h1
  trivial
 case tB=>
  obtain⟨v,_,a⟩:=aA h1;split at a<;>cases a
  trivial
 case recover=>cases h1;trivial
 case mov=>obtain⟨v,_,a⟩:=aA h1;cases a;exact .refl _ _
 case box=>obtain⟨v,_,a⟩:=aA h1;cases a;exact .push _ _ _
 case iK=>obtain⟨v,_,a⟩:=aA h1;cases a;exact .refl _ _
 case un=>obtain⟨v,_,a⟩:=aA h1;obtain⟨v,_,a⟩:=aA a;cases a;exact .refl _ _
 case load=>obtain⟨v,_,a⟩:=aA h1;obtain⟨v,_,a⟩:=aA a;cases a;exact .refl _ _
 case conv=>obtain⟨v,_,a⟩:=aA h1;exact qv a λv c b=>JV b
 case store=>
  obtain⟨v,_,a⟩:=aA h1;obtain⟨v,_,a⟩:=aA a;split at a
  ·rename_i b;cases a;exact ID b
  ·cases a
 case cg=>
  obtain⟨v,_,a⟩:=aA h1;split at a<;>cases a;exact .refl _ _
 case bin op x y=>
  cases op;case num=>
   obtain⟨v,_,a⟩:=aA h1;obtain⟨v,_,a⟩:=aA a;obtain⟨v,_,a⟩:=aA a;cases a;exact .refl _ _
  case beq=>simp only[aop]at h1;split at h1<;>cases h1;exact .refl _ _
  case nil=>
   obtain⟨v,_,a⟩:=aA h1;obtain⟨v,_,a⟩:=aA a;split at a<;>cases a;exact .refl _ _
  case agg=>
   obtain⟨v,_,a⟩:=aA h1;obtain⟨v,_,a⟩:=aA a;split at a
   ·split at a<;>cases a;exact .refl _ _
   ·cases a
 case pick=>
  simp only[aop]at h1;split at h1
  ·obtain⟨v,_,a⟩:=aA h1;cases a;exact .refl _ _
  ·obtain⟨v,_,a⟩:=aA h1;cases a;exact .refl _ _
  ·cases h1
 case slice k x lo hi mx=>
  cases k<;>cases mx<;>simp only[aop]at h1
  ·repeat' split at h1
   all_goals first|(cases h1;done)|skip
   simp only[cond_eq_ite,dk]at h1;obtain⟨_,h1⟩:=h1;cases h1;exact .refl _ _
  ·cases h1
  all_goals
   split at h1
   ·exact qv h1 λv c b=>Fo b
   ·cases h1
 case len k x=>
  match k with
  |0=>simp only[aop]at h1;split at h1<;>cases h1;exact .refl _ _
  |1=>simp only[aop]at h1;split at h1<;>cases h1;exact .refl _ _
  |k+2=>
   simp only[aop]at h1;split at h1
   ·cases h1;exact .refl _ _
   ·split at h1<;>cases h1;exact .refl _ _
   ·cases h1
 case append=>
  simp only[aop]at h1;split at h1
  ·split at h1
   ·exact qv h1 λv c b=>vT b
   ·cases h1
  ·cases h1
 case kG=>
  simp only[aop]at h1;split at h1
  ·split at h1
   ·simp only[cond_eq_ite,dk]at h1;exact qv h1.2 λv c b=>vT b
   ·cases h1
  ·cases h1
 case next x s=>
  cases s
  ·cases h1
  ·simp only[aop]at h1;repeat' split at h1
   all_goals first|(cases h1;done)|skip
   simp only[cond_eq_ite]at h1;split at h1<;>cases h1
   ·exact .wr _ _ _ _
   ·exact .refl _ _
 case dB=>simp only[aop]at h1;repeat' split at h1
          all_goals first|(cases h1;done)|(simp only[cond_eq_ite,dk]at h1;obtain⟨_,h1⟩:=h1;cases h1;exact .refl _ _)
 case aQ=>simp only[aop]at h1;repeat' split at h1
          all_goals first|(cases h1;done)|(simp only[cond_eq_ite,dk]at h1;obtain⟨_,h1⟩:=h1;cases h1;exact .refl _ _)
 case j9=>cases h1;exact .refl _ _
 case new=>cases h1;exact .push _ _ _
 case mkMap=>cases h1;exact .push _ _ _
 all_goals
  revert h1;simp only[aop,cond_eq_ite];intro h1;repeat' split at h1
  all_goals first
   |(cases h1;done)
   |(cases h1;exact .refl _ _)
   |(cases h1;exact .push _ _ _)
   |(cases h1;exact .wr _ _ _ _)
   |(obtain⟨v,_,a⟩:=aA h1;cases a;exact .refl _ _)
variable{T:Nat->Option aq}
def aF(T:Nat->Option aq):Prop:=∀f p args h v h',T f=some (.lD p)->p args h=some (v,h')->h.log=[]->AS h.next h h'
structure eO (T:Nat->Option aq) (n:Nat):Prop where
 exec:∀base rnd c e ds h x e' ds' h',cC T n base rnd c e ds h=some (x,e',ds',h')->base<=h.next->AS base h h'
 ops:∀base rnd ops e ds h x e' ds' h',fZ T n base rnd ops e ds h=some (x,e',ds',h')->base<=h.next->AS base h h'
 draw:∀base ops order before rs e h x e' h',dU T n base ops order before rs e h=some (x,e',h')->base<=h.next->AS base h h'
 iZ:∀fn args h r h',gG T n fn args h=some (r,h')->h.log=[]->AS h.next h h'
 call:∀f args h r h',iJ T n f args h=some (r,h')->h.log=[]->AS h.next h h'
 unw:∀results ds pan e h h1 r h',nE T n results ds pan e h h1=some (r,h')->AS h.next h h1->AS h.next h h'
 defer:∀g args pan h pan' h',jF T n g args pan h=some (pan',h')->h.log=[]->AS h.next h h'
 gp:∀base c e pan h x e' pan' h',gH T n base c e pan h=some (x,e',pan',h')->base<=h.next->AS base h h'
 kj:∀base ops e pan h x e' pan' h',iO T n base ops e pan h=some (x,e',pan',h')->base<=h.next->AS base h h'
theorem AS.gc'(f:AS c.next c h1)(v:Value):AS c.next c (gcA c h1 v):=by
 unfold gcA;cases hc:(cE v&&fI h1 c.next h1.log)with
 |false=>exact f
 |true=>
  simp only[cond_true];have d:∀a n,(dA a n).length=n:=λa n=>by induction n<;>simp[dA, *]
  have i:=f.keys;refine⟨bl _,?_,λb g h=>f.mono b g h,λb g j h=> ?_⟩
  ·simp only[ul,dA,vd];unfold nH;rw[aW,List.map_drop,i];exact List.drop_left' (d _ _)
  ·have e:(h1.cm.take (h1.next-c.next)).map (·.1)=dA c.next (h1.next-c.next):=by
    rw[GT,i];exact List.take_left' (d _ _)
   have:=lX _ _ _ (h1.cm.drop (h1.next-c.next)) e b g;rw[rv]at this;show fA (nH _ _) b=_;unfold nH;rw[aW,←this];exact f.same b g j h
theorem eO.zero:eO T 0:=by
 constructor<;>intros<;>rename_i h1 _<;>first|(simp[cC]at h1;done)|(simp[fZ]at h1;done)|(simp[dU]at h1;done)|(simp[gG]at h1;done)|(simp[iJ]at h1;done)|(simp[nE]at h1;done)|(simp[jF]at h1;done)|(simp[gH]at h1;done)|(simp[iO]at h1;done)
theorem oZ{a:AOp}(h1:aop h base e a=some (.val v h')):AS base h h':=RD h1
theorem NX{a:AOp}{args:List Value}(h1:aop h base e a=some (.call fn args h')):h'=h:=by
 obtain⟨f,as,rfl⟩:=mh h1;simp only[aop]at h1;split at h1
 ·unfold pG at h1;repeat' split at h1
  all_goals cases h1
  all_goals rfl
 ·cases h1
theorem JF{b:AOp}(h1:aop h base e b=some (.panic v h')):h'=h:=by
 obtain⟨x,rfl⟩:=mh h1;obtain⟨v,_,a⟩:=aA h1;split at a<;>cases a
 rfl
theorem pI(h:Heap)(l:Nat)(o:bM)(b:Nat):({h with cm:=iS h.cm l o}:Heap).get b=if b=l then(h.get l).map (λ_=>o)else h.get b:=tW _ _ _ _
variable{e' e0:Env}
theorem F2{out:Nat}{b:Heap}{r:Option (Option (bk×Env))}{x:bk}{a:Dfs}(h1:Hl out e0 b r=some (x,e',a,h')):a=[]/\h'=b:=by
 unfold Hl at h1;split at h1
 ·cases h1;exact⟨rfl,rfl⟩
 ·simp only[cond_eq_ite]at h1;split at h1<;>cases h1<;>exact⟨rfl,rfl⟩
 ·cases h1;exact⟨rfl,rfl⟩
 ·cases h1
theorem eO.succ(V:aF T)(q:eO T n):eO T (n+1):=by
 constructor;case exec=>
  intro base S c e J h x K O B j m;cases c<;>simp only[cC]at j
  case skip=>cases j;exact .refl _ _
  case exit=>cases j;exact .refl _ _
  case ret=>cases j;exact .refl _ _
  case region ops keep=>
   split at j
   ·rename_i k;cases j;exact q.ops _ _ _ _ _ _ _ _ _ _ k m
   ·exact q.ops _ _ _ _ _ _ _ _ _ _ j m
  case draw ops order before keep=>
   split at j
   ·rename_i k;cases j;exact q.draw _ _ _ _ _ _ _ _ _ _ k m
   ·rename_i k;cases j;exact q.draw _ _ _ _ _ _ _ _ _ _ k m
   ·cases j
  case seq a b=>
   split at j
   ·rename_i k;have s:=q.exec _ _ _ _ _ _ _ _ _ _ k m;exact s.trans (q.exec _ _ _ _ _ _ _ _ _ _ j (gd m s.next))
   ·exact q.exec _ _ _ _ _ _ _ _ _ _ j m
  case cond c a b=>
   split at j
   ·exact q.exec _ _ _ _ _ _ _ _ _ _ j m
   ·exact q.exec _ _ _ _ _ _ _ _ _ _ j m
   ·cases j
  case block id b=>
   split at j
   ·rename_i k;have s:=q.exec _ _ _ _ _ _ _ _ _ _ k m;simp only[cond_eq_ite]at j;split at j<;>cases j<;>exact s
   ·exact q.exec _ _ _ _ _ _ _ _ _ _ j m
  case loop b=>
   split at j
   ·rename_i k;have s:=q.exec _ _ _ _ _ _ _ _ _ _ k m;exact s.trans (q.exec _ _ _ _ _ _ _ _ _ _ j (gd m s.next))
   ·exact q.exec _ _ _ _ _ _ _ _ _ _ j m
  case scope b=>exact q.exec _ _ _ _ _ _ _ _ _ _ j m
  case rangeFunc f ps asg body=>
   simp only[cond_eq_ite]at j;split at j
   ·split at j
    ·split at j
     ·cases j
     ·have u:AS base h (h.push (.loop e ps asg body 0 .normal)):= .push _ _ _;have G:base<=(h.push (.loop e ps asg body 0 .normal)).next:=gd m u.next
      split at j
      ·rename_i k;have s:=AS.call (h:=h.push (.loop e ps asg body 0 .normal)) (base:=base) (q.call _ _ _ _ _ k rfl) G;split at j
       ·split at j
        ·cases j
        ·cases j;exact(u.trans s).trans (.wr _ _ _ _)
       ·cases j
      ·rename_i k;cases j;exact u.trans (AS.call (h:=h.push (.loop e ps asg body 0 .normal)) (base:=base) (q.call _ _ _ _ _ k rfl) G)
      ·cases j
    ·cases j
   ·cases j
  case rangeMap ops it y keep out nxt pr ops2 k2 body=>
   split at j
   ·rename_i k;have s:=q.ops _ _ _ _ _ _ _ _ _ _ k m;split at j
    ·cases j
    ·split at j
     ·cases j;exact s
     ·split at j
      ·obtain⟨_,rfl⟩:=F2 j;exact s
      ·cases j
     ·cases j
   ·exact q.ops _ _ _ _ _ _ _ _ _ _ j m
 case ops=>
  intro base S ops e J h x K O B j m;cases ops with
  |nil=>simp only[fZ]at j;cases j;exact .refl _ _
  |cons o os=>
   simp only[fZ]at j;split at j
   ·exact q.ops _ _ _ _ _ _ _ _ _ _ j m
   ·split at j
    ·rename_i k;have s:=oZ k;exact s.trans (q.ops _ _ _ _ _ _ _ _ _ _ j (gd m s.next))
    ·rename_i L as hc k;have F:=NX k;rw[F]at j;split at j
     ·rename_i k;have s:=AS.call (h:=h) (base:=base) (q.iZ _ _ _ _ _ k rfl) m;exact s.trans (q.ops _ _ _ _ _ _ _ _ _ _ j (gd m s.next))
     ·rename_i k;cases j;exact AS.call (h:=h) (base:=base) (q.iZ _ _ _ _ _ k rfl) m
     ·cases j
    ·split at j
     ·cases j
     ·exact q.ops _ _ _ _ _ _ _ _ _ _ j m
    ·rename_i k;have:=JF k;subst this;cases j;exact .refl _ _
    ·cases j
   ·cases j
 case draw=>
  intro base ops order before rs e h x K B j m;cases order with
  |nil=>simp only[dU]at j;cases j;exact .refl _ _
  |cons i is=>
   simp only[dU]at j;split at j
   ·split at j
    ·exact q.draw _ _ _ _ _ _ _ _ _ _ j m
    ·simp only[cond_eq_ite]at j;split at j
     ·split at j
      ·rename_i k;have s:=oZ k;split at j
       ·rw[dk]at j;exact s.trans (q.draw _ _ _ _ _ _ _ _ _ _ j.2 (gd m s.next))
       ·split at j
        ·exact q.draw _ _ _ _ _ _ _ _ _ _ j m
        ·split at j
         ·split at j
          ·rename_i k;have s:=AS.call (h:=h) (base:=base) (oZ k) m;split at j
           ·exact s.trans (q.draw _ _ _ _ _ _ _ _ _ _ j (gd m s.next))
           ·cases j
          ·cases j
         ·cases j
      ·cases j
     ·split at j
      ·rename_i k;have s:=AS.call (h:=h) (base:=base) (oZ k) m;split at j
       ·exact s.trans (q.draw _ _ _ _ _ _ _ _ _ _ j (gd m s.next))
       ·cases j
      ·split at j
       ·rename_i k;have s:=AS.call (h:=h) (base:=base) (q.iZ _ _ _ _ _ k rfl) m;split at j
        ·exact s.trans (q.draw _ _ _ _ _ _ _ _ _ _ j (gd m s.next))
        ·cases j
       ·rename_i k;cases j;exact AS.call (h:=h) (base:=base) (q.iZ _ _ _ _ _ k rfl) m
       ·cases j
      ·cases j
    ·cases j
   ·cases j
 case iZ=>
  intro L z h r B j N;cases L<;>simp only[gG]at j<;>(try (cases j;done))
  case func f=>exact q.call _ _ _ _ _ j N
  case yield l=>
   split at j
   ·rename_i e ps asg body hg;split at j
    ·split at j
     ·rename_i e2 ds2 h2 hq1;have s:=q.exec _ _ _ _ _ _ _ _ _ _ hq1 (bl _);rw[cond_eq_ite]at j;split at j
      ·cases j
      ·have back:∀(t:Heap) (Y:Nat) (X:bk),AS h.next {h2 with cm:=iS h2.cm l (.loop e ps asg body 1 .normal)} t->∀o,(t.get l).isSome->AS h.next h (t.wr h.next l o):=λt Y X w o _=>by
        have E:=w.trans (.wr h.next t l o);have A:=s.next
        refine⟨gd A E.next,?_,λb m k=>E.mono b m (s.mono b m k),λb m H k=> ?_⟩
        ·rw[E.keys];show _++(iS h2.cm l _).map (·.1)=_;rw[lZ,s.keys,←List.append_assoc];show dA h2.next _++_++_=_
         have F:(t.wr h.next l o).next-h.next=(h2.next-h.next)+((t.wr h.next l o).next-h2.next):=by have:=E.next;have:h2.next<=(t.wr h.next l o).next:=this;omega
         rw[F,oq,show h.next+(h2.next-h.next)=h2.next by omega]
        ·have D:fF h2.log b=false:=by
          cases e:fF h2.log b with
          |false=>rfl
          |true=>rw[E.mono b m e]at k;cases k
         rw[E.same b m (hK H A) k,pI];split
         ·rename_i e;subst e;rw[Heap.EF]at k;simp[m]at k
         ·exact s.same b m H D
       have P:∀(t:Heap),AS h.next {h2 with cm:=iS h2.cm l (.loop e ps asg body 1 .normal)} t->(t.get l).isSome->AS h.next h {t with cm:=iS t.cm l (.loop e ps asg body 0 .normal)}:=λt w W=>by
        have A:=s.next
        have Q:h2.next<=t.next:=w.next
        refine⟨gd A Q,?_,λb m k=>w.mono b m (s.mono b m k),λb m H k=> ?_⟩
        ·show(iS t.cm l _).map (·.1)=_;rw[lZ,w.keys];show _++(iS h2.cm l _).map (·.1)=_;rw[lZ,s.keys,←List.append_assoc];show dA h2.next (t.next-h2.next)++_++_=dA h.next (t.next-h.next)++_
         have F:t.next-h.next=(h2.next-h.next)+(t.next-h2.next):=by omega
         rw[F,oq,show h.next+(h2.next-h.next)=h2.next by omega]
        ·have D:fF h2.log b=false:=by
          cases e:fF h2.log b with
          |false=>rfl
          |true=>rw[w.mono b m e]at k;cases k
         rw[pI];split
         ·rename_i e;subst e;obtain⟨o,U⟩:=Option.isSome_iff_exists.1 W;rw[U,hg];rfl
         ·rename_i e;have:=w.same b m (hK H A) k;rw[pI,if_neg e]at this;rw[this];exact s.same b m H D
       split at j
       ·rename_i t hq2;have w:=q.exec _ _ _ _ _ _ _ _ _ _ hq2 s.next
        split at j
        ·rename_i hg3;cases j;exact AS.gc' (P t w (by rw[hg3];rfl)) _
        ·cases j
       ·rename_i t hq2;have w:=q.exec _ _ _ _ _ _ _ _ _ _ hq2 s.next
        split at j
        ·rename_i hg3;cases j;exact back t 0 .normal w _ (by rw[hg3];rfl)
        ·cases j
       ·rename_i t hq2;have w:=q.exec _ _ _ _ _ _ _ _ _ _ hq2 s.next
        split at j
        ·rename_i hg3;cases j;exact back t 0 .normal w _ (by rw[hg3];rfl)
        ·cases j
       ·cases j
     ·cases j
    ·cases j
   ·cases j
 case call=>
  intro f z h r B j N;simp only[iJ]at j;split at j
  ·cases j
  ·rename_i p hT;split at j
   ·rename_i k;cases j;exact V _ _ _ _ _ _ hT k N
   ·cases j
  ·split at j
   ·rename_i k;exact q.unw _ _ _ _ _ _ _ _ j (q.exec _ _ _ _ _ _ _ _ _ _ k (bl _))
   ·cases j
   ·rename_i k;exact q.unw _ _ _ _ _ _ _ _ j (q.exec _ _ _ _ _ _ _ _ _ _ k (bl _))
   ·cases j
 case unw=>
  intro I J pan e h j r B v M;cases J with
  |nil=>
   simp only[nE]at v;split at v
   ·cases v;exact M
   ·split at v
    ·cases v;exact M.gc' _
    ·cases v
  |cons d J=>
   obtain⟨f,z⟩:=d;cases f<;>simp only[nE]at v<;>(try (cases v;done))
   rename_i L first cap
   cases L<;>simp only at v<;>(try (cases v;done))
   split at v
   ·rename_i k;exact q.unw _ _ _ _ _ _ _ _ v (M.trans (AS.call (q.defer _ _ _ _ _ _ k rfl) M.next))
   ·cases v
 case defer=>
  intro g z pan h C B j N;simp only[jF]at j;split at j
  ·split at j
   ·rename_i k;cases j;exact q.gp _ _ _ _ _ _ _ _ _ k (bl _)
   ·rename_i k;cases j;exact q.gp _ _ _ _ _ _ _ _ _ k (bl _)
   ·cases j
  ·cases j
 case gp=>
  intro base c e pan h x K C B j m;cases c<;>simp only[gH]at j<;>(try (cases j;done))
  case skip=>cases j;exact .refl _ _
  case ret=>cases j;exact .refl _ _
  case region ops keep=>
   split at j
   ·rename_i k;cases j;exact q.kj _ _ _ _ _ _ _ _ _ k m
   ·exact q.kj _ _ _ _ _ _ _ _ _ j m
  case seq a b=>
   split at j
   ·rename_i k;have s:=q.gp _ _ _ _ _ _ _ _ _ k m;exact s.trans (q.gp _ _ _ _ _ _ _ _ _ j (gd m s.next))
   ·exact q.gp _ _ _ _ _ _ _ _ _ j m
  case cond c a b=>
   split at j
   ·exact q.gp _ _ _ _ _ _ _ _ _ j m
   ·exact q.gp _ _ _ _ _ _ _ _ _ j m
   ·cases j
 case kj=>
  intro base ops e pan h x K C B j m;cases ops with
  |nil=>simp only[iO]at j;cases j;exact .refl _ _
  |cons o os=>
   simp only[iO]at j;split at j
   ·exact q.kj _ _ _ _ _ _ _ _ _ j m
   ·split at j
    ·rename_i k;have s:=oZ k;exact s.trans (q.kj _ _ _ _ _ _ _ _ _ j (gd m s.next))
    ·split at j
     ·exact q.kj _ _ _ _ _ _ _ _ _ j m
     ·exact q.kj _ _ _ _ _ _ _ _ _ j m
    ·cases j
   ·cases j
theorem eO.all(a:aF T):∀n,eO T n
 |0=> .zero
 |n+1=> .succ a (eO.all a n)
def Eg(μ:Mu):Option Value->FrameMode->Prop
 |none,u=>u= .returning
 |some v,u=>∃v',VR μ v v'∧u= .panicking [{v:=v',recovered:=false}]
def vK(μ:Mu):Option Value->FrameMode->Prop
 |some v,u=>∃v',VR μ v v'∧u= .panicking [{v:=v',recovered:=false}]
 |none,u=>u= .returning∨∃v',u= .panicking [{v:=v',recovered:=true}]
def mY(P:Program)(T:Nat->Option aq)(n:Nat):Prop:=∀base rnd ac e ds h x e' ds' h',cC T n base rnd ac e ds h=some (x,e',ds',h')->base<=h.next→
 ∀c nt μ w (a:Act) rd lo,gJ P nt c ac->nt<=a.tmps.size->R P μ h w->cK μ e a.tmps->DR μ h w lo ds a.defers->RdR μ rnd rd->lo<=w.heap.size->c.wpIn (Fw rd) 0 P (Post P μ h w lo a.tmps.size x e' ds' h') a w
def uD(P:Program)(T:Nat->Option aq)(n:Nat):Prop:=∀base rnd as e ds h x e' ds' h',fZ T n base rnd as e ds h=some (x,e',ds',h')->base<=h.next→
 ∀(ops:Array Oper) i m nt μ w (a:Act) rd lo,i+m<=ops.size->cB P nt ops ((ops.toList.drop i).take m)=some as->nt<=a.tmps.size->R P μ h w->cK μ e a.tmps->DR μ h w lo ds a.defers->RdR μ rnd rd->lo<=w.heap.size→
  wpOpsIn (Fw rd) 0 P ops (Post P μ h w lo a.tmps.size x e' ds' h') (List.range' i m) a w
def I7(P:Program)(T:Nat->Option aq)(n:Nat):Prop:=∀base as ord bf e h x e' h',dU T n base as ord bf [] e h=some (x,e',h')->base<=h.next→
 ∀(ops:Array Oper) nt μ w (a:Act) rd lo ds id,cB P nt ops ops.toList=some as->wm as ops.toList ord bf=true->nt<=a.tmps.size->R P μ h w->cK μ e a.tmps->DR μ h w lo ds a.defers->RdR μ (none:Option Nat) rd∨True->lo<=w.heap.size→
  (Code.region id ops true).wpIn (Fw rd) 0 P (Post P μ h w lo a.tmps.size x e' ds h') a w
def ql(P:Program)(T:Nat->Option aq)(n:Nat):Prop:=∀fn args h res h',gG T n fn args h=some (res,h')->h.log=[]->∀μ w args',R P μ h w->LR μ args args'→
 (∀g,fn= .func g->oQ P (gU P μ h w res h') ((callFunc g args'.toArray).run P w))/\(∀l k,fn= .yield l->μ l=some k->oQ P (gU P μ h w res h') ((Instr.yield k.r args'.toArray).run P w))
def tM(P:Program)(T:Nat->Option aq)(n:Nat):Prop:=∀f args h res h',iJ T n f args h=some (res,h')->h.log=[]->∀μ w args',R P μ h w->LR μ args args'→
 oQ P (gU P μ h w res h') ((callFunc f args'.toArray).run P w)
def zj(P:Program)(T:Nat->Option aq)(n:Nat):Prop:=∀results ds pan e h h1 res h',nE T n results ds pan e h h1=some (res,h')->AS h.next h h1→
 ∀(fn:Func) μ w μ1 w1 tmps mds u,DK P fn.results.toList=some results->R P μ h w->R P μ1 h1 w1->St μ h w μ1 h1 w1->cK μ1 e tmps->DR μ1 h1 w1 w.heap.size ds mds->Eg μ1 pan u→
  LeavesInM Fence.wide 0 P fn tmps (gU P μ h w res h') mds u w1
def sE(P:Program)(T:Nat->Option aq)(n:Nat):Prop:=∀g args pan h pan' h',jF T n g args pan h=some (pan',h')->h.log=[]->∀μ w args' u,R P μ h w->LR μ args args'→Eg μ pan u→
 CallsDIn Fence.wide 0 P g args'.toArray u w λen u' w'=>∃v μ',en= .returned v/\R P μ' h' w'∧St μ h w μ' h' w'∧Eg μ' pan' (settle u')
def qm(P:Program)(T:Nat->Option aq)(n:Nat):Prop:=∀base ac e pan h x e' pan' h',gH T n base ac e pan h=some (x,e',pan',h')->base<=h.next→
 ∀c nt μ w (a:Act) (c0:Frame) cs u,gJ P nt c ac->nt<=a.tmps.size->R P μ h w->cK μ e a.tmps->a.defers=[]->vK μ pan u→
  c.wpSIn Fence.wide 0 P (λex a' cs' w'=>∃μ' u',XR μ' x ex/\R P μ' h' w'∧St μ h w μ' h' w'∧cK μ' e' a'.tmps/\a'.defers=[]/\a'.tmps.size=a.tmps.size/\cs'={c0 with mode:=u'}::cs/\vK μ' pan' u') a ({c0 with mode:=u}::cs) w
def tO(P:Program)(T:Nat->Option aq)(n:Nat):Prop:=∀base as e pan h x e' pan' h',iO T n base as e pan h=some (x,e',pan',h')->base<=h.next→
 ∀(ops:Array Oper) i nt μ w (a:Act) (c0:Frame) cs u,i<=ops.size->cB P nt ops (ops.toList.drop i)=some as->nt<=a.tmps.size->R P μ h w->cK μ e a.tmps->a.defers=[]->vK μ pan u→
  wpOpsSIn Fence.wide 0 P ops (λex a' cs' w'=>∃μ' u',XR μ' x ex/\R P μ' h' w'∧St μ h w μ' h' w'∧cK μ' e' a'.tmps/\a'.defers=[]/\a'.tmps.size=a.tmps.size/\cs'={c0 with mode:=u'}::cs/\vK μ' pan' u')
   (List.range' i (ops.size-i)) a ({c0 with mode:=u}::cs) w
structure ez (P:Program) (T:Nat->Option aq):Prop where
 mixed:P.follows .mixedOrders=true
 code:∀f c rs,T f=some (.code c rs)->∃fn ks,P.funcs[f]? =some fn/\aM P fn ks=some (.code c rs)
 lD:∀f p args h v h',T f=some (.lD p)->p args h=some (v,h')->h.log=[]->AS h.next h h'∧∀μ w args',R P μ h w->LR μ args args'→oQ P (gU P μ h w (.ret v) h') ((callFunc f args'.toArray).run P w)
theorem ez.aF(g:ez P T):aF T:=λf p a h v b c d e=>(g.lD f p a h v b c d e).1
variable {μ:Mu} {h:Heap} {w:World} {e:Env} {a:Act} {base:Nat}
theorem tr{d:AOp}(a:gO P op=some d)(e:∀f as,d≠ .jI f as):∀c,op≠ .defer c:=by
 intro c b;subst b;unfold gO at a;split at a
 ·dsimp only at a;split at a
  ·cases a;exact e _ _ rfl
  ·cases a
 ·cases a
variable{os:List Oper}
theorem iD{ops:Array Oper}{d:aP}{as:List aP}(a:cB P nt ops (o::os)=some (d::as)):
 lJ nt o.dst=true/\d.dst=o.dst/\gO P o.op=some d.op/\cB P nt ops os=some as∧
 ∀{e:Env} {μ:Mu} {t:Array Value} {b:Bool},(∀s b0,d.guard=some (s,b0)->∀v,geT e s=some v->∃f,t[s]? =some f∧VR μ v f)->bA e d.guard=some b->Region.wanted o (yielded ops t)=b:=by
 simp only[cB]at a;split at a
 ·rename_i hd;split at a
  ·rename_i a2 as2 h1 h2;split at a
   ·rename_i hg;cases a;refine⟨hd,rfl,h1,h2,λ{e μ t b} _ c=> ?_⟩;cases c;simp[Region.wanted,hg]
   ·rename_i j b0 hg;split at a
    ·rename_i s hs;cases a;refine⟨hd,rfl,h1,h2,λ{e μ t b} i c=> ?_⟩;simp only[bA]at c;simp only[Region.wanted,hg,yielded,hs,Option.bind_some];split at c
     ·rename_i x hx;cases c;obtain⟨f,g,h⟩:=i s b0 rfl _ hx;cases h;simp[g]
     ·rename_i v hv hx;cases c;obtain⟨f,g,h⟩:=i s b0 rfl _ hx;simp only[g];cases h<;>first|rfl|exact(hv _ rfl).elim
     ·cases c
    ·cases a
  ·cases a
 ·cases a
theorem oO{ops:Array Oper}{c:aP}{as:List aP}(f:cB P nt ops (o::os)=some (c::as))(d:cK μ e a.tmps){b:Bool}(h:bA e c.guard=some b):
 Region.wanted o (yielded ops a.tmps)=b:=(iD f).2.2.2.2 (λs _ _ v g=>d s v g) h
theorem DH{i:Nat}(h:i<n):List.range' i (n-i)=i::List.range' (i+1) (n-(i+1)):=by
 rw[show n-i=(n-(i+1))+1 by omega,List.range'_succ]
theorem zF{ops:Array Oper}{i:Nat}(h:ops.toList.drop i=o::os):i<ops.size/\ops[i]? =some o/\ops.toList.drop (i+1)=os:=by
 have a:i<ops.toList.length:=by
  apply Classical.byContradiction;intro b;rw[List.drop_eq_nil_of_le (by omega)]at h;cases h
 rw[pB a]at h;injection h with h1 h2
 refine⟨by simpa using a,?_,h2⟩;have:ops.toList[i]? =some o:=by rw[bx a,h1]
 simpa using this
theorem xU{j:Option Nat}{r:Result Next}(hr:Ran P μ h w base r v h')
 (g:∀μ' c b,VR μ' v c→R P μ' h' b→St μ h w μ' h' b→next (a.put o.dst c) b):o.uponIn (Fw j) 0 P a next Q r:=by
 obtain⟨μ',c,b,i,d,e,f,_⟩:=hr;rcases i with rfl|⟨rfl,rfl⟩
 ·exact g _ _ _ d e f
 ·exact g _ _ _ d e f
variable{F:Fence}{K j:Act->World->Prop}
theorem DZ{g:Exit->Act->World->Prop}(d:∀a w,K a w->j a w)(f:∀e a w,Q e a w->g e a w){r:Result Next}(b:o.uponIn F n P a K Q r):
 o.uponIn F n P a j g r:=by
 have k:LetsOut Q->LetsOut g:=λ⟨a,w,h⟩=>⟨a,w,f _ _ _ h⟩;cases r with
 |ok x w'=>
  cases x<;>simp only[Oper.uponIn]at b⊢ <;>
   first
    |exact d _ _ b
    |exact⟨b.1,CallsIn.mono b.2 (λe i c=>by cases e<;>first|exact d _ _ c|exact f _ _ _ c|exact k c)⟩
    |exact⟨b.1,RowsIn.mono b.2 (λ_ _ c=>d _ _ c)⟩
    |exact⟨b.1,RoundIn.mono b.2 (λe i c=>by cases e<;>first|exact d _ _ c|exact f _ _ _ c|exact k c)⟩
 |halt x w'=>cases x<;>simp only[Oper.uponIn]at b⊢ <;>first|exact b|exact f _ _ _ b
theorem gz{F:Fence}{n:Nat}{ops:Array Oper}{Q c:Exit->Act->World->Prop}(b:∀e a w,Q e a w->c e a w):∀(l:List Nat) (a:Act) (w:World),wpOpsIn F n P ops Q l a w->wpOpsIn F n P ops c l a w
 |[],_,_,h=>b _ _ _ h
 |i::l,a,w,h=>by
  simp only[wpOpsIn]at h⊢;split at h
  ·exact gz b l _ _ h
  ·rename_i o ho;split at h
   ·rename_i hw;rw[if_pos hw];exact⟨h.1,DZ (λa w=>gz b l a w) b h.2⟩
   ·rename_i hw;rw[if_neg hw];exact⟨h.1,gz b l _ _ h.2⟩
theorem gF{a:Option Nat}{f:FuncId}:(Fw a).fn f:=trivial
theorem uD.succ(hT:ez P T)(hO:uD P T n)(hC:ql P T n):uD P T (n+1):=by
 intro base aE as e ds h x e' F h' d Z ops i m nt μ w a rd lo hi y A s r I Q aw;cases m with
 |zero=>
  simp only[xp,cB]at y;cases y;simp only[fZ]at d;cases d;exact⟨μ,trivial,s, .refl _ _ _,r,I,rfl⟩
 |succ m=>
  cases hdr:ops.toList.drop i with
  |nil=>
   have:=List.drop_eq_nil_iff.1 hdr;simp at this;omega
  |cons o os=>
   cases as with
   |nil=>
    rw[hdr]at y;simp only[xl,cB]at y;repeat' split at y
    all_goals cases y
   |cons ao as=>
    rw[hdr,xl]at y;obtain⟨bi,O,N⟩:=zF hdr;obtain⟨U,V,M,c4,_⟩:=iD y;rw[List.range'_succ];simp only[fZ]at d;simp only[wpOpsIn,O];rw[←N]at c4
    have X:∀{μ1:Mu} {j:Heap} {B:World} {C:Act} {H:Env} {G:Dfs},fZ T n base aE as H G j=some (x,e',F,h')->base<=j.next->h.next<=j.next->C.tmps.size=a.tmps.size->R P μ1 j B->St μ h w μ1 j B→
     cK μ1 H C.tmps->DR μ1 j B lo G C.defers->wpOpsIn (Fw rd) 0 P ops (Post P μ h w lo a.tmps.size x e' F h') (List.range' (i+1) m) C B:=by
     intro μ1 j B C H G p K q k4 k5 k6 k7 k8;have z:=k6.mono s;have:=hO _ _ _ _ _ _ _ _ _ _ p K ops (i+1) m nt μ1 B C rd lo (by omega) c4 (by omega) k5 k7 k8 (Q.mono z) (gd aw k6.le);rw[k4]at this;have mo:∀(l:List Nat) (C:Act) (B:World),wpOpsIn (Fw rd) 0 P ops (Post P μ1 j B lo a.tmps.size x e' F h') l C B->True:=λ_ _ _ _=>trivial;clear mo;exact gz (λ_ _ _ hp=>hp.trans k6 q) _ _ _ this
    split at d
    ·rename_i hw;rw[oO y r hw];simp only[rc,if_false];refine⟨λ_ _=>gF,?_⟩;refine X d Z (bl _) (dK _ _ _) s (.refl _ _ _) ?_ ?_
     ·rw[V];exact r.put U A (VR.cE (v:=undef) rfl).1
     ·rw[put_defers];exact I
    ·rename_i hw;rw[oO y r hw];simp only[if_true];refine⟨λ_ _=>gF,?_⟩;split at d
     ·rename_i v j b;rw[Oper.semAt_eq _ _ _ (tr M λf ae hf=>by rw[hf]at b;simp only[aop]at b;repeat' split at b;all_goals cases b)];have Y:=oZ b;refine xU (Gk s r M b) λμ' v' E p K q=> ?_;have z:=q.mono s;refine X d (gd Z Y.next) Y.next (dK _ _ _) K q ?_ ?_
      ·rw[V];exact(r.mono z).put U A p
      ·rw[put_defers];exact I.step q z
     ·rename_i fn args j b;obtain⟨rfl,nd,t,ha,J⟩:=Ba s r M b;rw[Oper.semAt_eq _ _ _ nd];have ar:R P μ ({j with log:=[]}:Heap) w:=s.congr rfl rfl;have S:∀L D,gG T n fn args {j with log:=[]}=some (L,D)->oQ P (gU P μ ({j with log:=[]}:Heap) w L D) ((execOp a.eval o).run P w):=λL D c=>by
       obtain⟨g1,g2⟩:=hC _ _ _ _ _ c rfl μ w t ar ha;rcases J with⟨g,H,e2⟩|⟨l,k,H,e2,e3⟩
       ·rw[e2];exact g1 g H
       ·rw[e3];exact g2 l k H e2
      split at d
      ·rename_i v D c;have Y:=(eO.all hT.aF n).iZ _ _ _ _ _ c rfl;have hn:j.next<=D.next:=Y.next
       refine jo (S _ _ c) (λv' E b=> ?_) (λch E b=> ?_) (λE b=> ?_)
       ·obtain⟨μ',p,K,q⟩:=b;have q:St μ j w μ' D E:=q.pq rfl rfl;have z:=q.mono s;refine X d (gd Z hn) hn (dK _ _ _) (K.congr rfl rfl) (q.ja rfl) ?_ ?_
        ·rw[V];exact(r.mono z).put U A p
        ·rw[put_defers];exact I.step (q.ja rfl) z
       ·obtain⟨μ',p,_⟩:=b;exact p.elim
       ·obtain⟨μ',p,_⟩:=b;exact p.elim
      ·rename_i v D c;cases d;refine jo (S _ _ c) (λv' E b=> ?_) (λch E b=> ?_) (λE b=> ?_)
       ·obtain⟨μ',p,_⟩:=b;exact p.elim
       ·obtain⟨μ',p,K,q⟩:=b;have q:St μ j w μ' D E:=q.pq rfl rfl;have z:=q.mono s;exact⟨μ',p,K.congr rfl rfl,q.ja rfl,r.mono z,I.step (q.ja rfl) z,rfl⟩
       ·obtain⟨μ',p,_⟩:=b;exact p.elim
      ·cases d
     ·rename_i f args b;split at d
      ·cases d
      ·have:rd=none:=Q;subst this;obtain⟨g,first,be,W,ba,t,rfl,l1,l2,l3,u⟩:=Pd s r M b;have:(Fw none).round=none:=rfl;rw[this,Oper.semAt_none,u];refine X d Z (bl _) (by rw[dK]) s (.refl _ _ _) ?_ ?_
       ·rw[V];exact cK.put (a:={a with defers:=_::a.defers}) r U A (VR.cE (v:=undef) rfl).1
       ·rw[put_defers];exact .cons l1 l2 l3 I
     ·rename_i v j b;obtain⟨rfl,v',p,u⟩:=L4 s r M b;cases d;rw[Oper.semAt_eq _ _ _ (tr M λf ae hf=>by rw[hf]at b;simp only[aop]at b;repeat' split at b;all_goals cases b),u];exact⟨μ,⟨v',rfl,p⟩,s, .refl _ _ _,r,I,rfl⟩
     ·cases d
    ·cases d
theorem FC{c:Code}(h:c.wpIn F n P (Exit.noGoto Q) a w):(Code.scope c).wpIn F n P Q a w:=by
 intro b k f r m p;have st1:step P (lone (b.atR a (.code (.scope c)::k)) f w)= .next (lone (b.atR a (.code c:: .inScope c::k)) f w):=step_lone_go (by simp[stepG,stepG.exec,Frame.atR])
 have st2:∀(a:Act) (w:World),step P (lone (b.atR a (.inScope c::k)) f w)= .next (lone (b.atR a k) f w):=λa w=>step_lone_go (by simp[stepG,stepG.exec,Frame.atR])
 have h0:(lone (b.atR a (.code (.scope c)::k)) f w).fenced P F:=fenced_calm m p rfl;obtain⟨e,i,j,g,d⟩:=h b (.inScope c::k) f r m p;cases e with
 |normal=>exact⟨.normal,i,j,g, .head h0 st1 (StepsIn.trans d (.one (fenced_calm m p rfl) (st2 _ _)))⟩
 |exit id'=>
  have s:exitTo id' (.inScope c::k)=exitTo id' k:=by simp[exitTo]
  exact⟨.exit id',i,j,g,λt o=> .head h0 st1 (d.1 t (by rw[s];exact o)),
   λq o=>let⟨k₁,h1,h2⟩:=d.2 q (by rw[s];exact o);⟨k₁,h1, .head h0 st1 h2⟩⟩
 |goto l=>exact g.elim
 |ret=>exact⟨_,i,j,g, .of_steps (.one h0 st1) d⟩
 |panic ch=>exact⟨_,i,j,g, .of_steps (.one h0 st1) d⟩
 |outgrown=>exact⟨_,i,j,g, .of_steps (.one h0 st1) d⟩
theorem gJ.inv{c:Code}{e:aN}(h:gJ P nt c e):
 match e with
 | .skip=>c= .skip∨∃l,c= .label l
 | .region as _=>∃id ops,c= .region id ops false/\cB P nt ops ops.toList=some as
 | .draw as ord bf _=>∃id ops,c= .region id ops true/\cB P nt ops ops.toList=some as/\wm as ops.toList ord bf=true
 | .seq a b=>∃x y,c= .seq x y/\gJ P nt x a/\gJ P nt y b
 | .cond o a b=>∃x y,c= .cond o x y/\aH P o=true/\gJ P nt x a/\gJ P nt y b
 | .block id b=>∃x,c= .block id x/\gJ P nt x b
 | .loop b=>∃x,c= .loop x/\gJ P nt x b
 | .scope b=>∃x,c= .scope x/\gJ P nt x b
 | .rangeFunc f ps a b=>∃pa x y,c= .rangeFunc f pa x y/\pa.toList=ps/\aH P f=true/\(∀t∈ps,t<nt)/\gJ P nt x a/\gJ P nt y b
 | .rangeMap ops0 it ox keep out nxt pr ops2 k2 body=>∃y z ops nx mo k wK,c= .seq y z/\gJ P nt y (.region ops wK)/\yq ops=some (ops0,⟨some it, .nq ox,none⟩)∧
  gJ P nt z (.block out (.loop (.seq (.region [⟨some nx, .next (.tmp it) false,none⟩,⟨some mo, .extract (.tmp nx) 0,none⟩] k) (.seq (.cond (.tmp mo) .skip (.exit out)) (.block nxt (.seq (.region (⟨some pr, .entry (.tmp it),none⟩::ops2) k2) body))))))∧
  nx≠mo/\it≠nx/\it≠mo/\(∀t∈keep,t≠it/\t≠nx/\t≠mo)
 | .exit id=>c= .exit id
 | .ret=>c= .ret:=by
 obtain⟨p,n,h⟩:=h;cases c<;>simp only[comp]at h<;>(try (cases h;done))
 case skip=>cases h;exact .inl rfl
 case label l=>cases h;exact .inr ⟨l,rfl⟩
 case scope b=>
  split at h
  ·cases h;exact⟨_,rfl,⟨_,_,by assumption⟩⟩
  ·cases h
 case exit=>cases h;rfl
 case ret=>cases h;rfl
 case region id ops d hold=>
  split at h
  ·split at h
   ·rename_i hd;split at h
    ·rename_i hk;cases h;exact⟨id,ops,by rw[hd],by assumption,hk⟩
    ·cases h
   ·rename_i hd;cases h;exact⟨id,ops,by simp[hd],by assumption⟩
  ·cases h
 case seq a b=>
  split at h
  ·rename_i a' ks1 hca;split at h
   ·rename_i b' ks2 hcb;injection h with h
    injection h with h h'
    unfold Vk at h;split at h
    ·rename_i c' hf;subst h;unfold fuse? at hf;split at hf
     ·unfold Rf at hf;split at hf
      ·split at hf
       ·rename_i hu hc;obtain⟨rfl,rfl,rfl,rfl,rfl,g,i,j⟩:=hc;cases hf;refine⟨_,_,_,_,_,_,_,rfl,⟨_,_,hca⟩,hu,⟨_,_,hcb⟩,g,i,j,λt m=> ?_⟩;have:=(List.mem_filter.1 m).2;simp only[beq_eq,Bool.not_eq_true',qr,decide_eq_false_iff_not]at this;exact⟨this.1.1,this.1.2,this.2⟩
       ·cases hf
      ·cases hf
     ·cases hf
    ·subst h;exact⟨_,_,rfl,⟨_,_,hca⟩,⟨_,_,hcb⟩⟩
   ·cases h
  ·cases h
 case cond o a b=>
  split at h
  ·split at h
   ·split at h
    ·cases h;exact⟨_,_,rfl,by assumption,⟨_,_,by assumption⟩,⟨_,_,by assumption⟩⟩
    ·cases h
   ·cases h
  ·cases h
 case block id b=>
  split at h
  ·cases h;exact⟨_,rfl,⟨_,_,by assumption⟩⟩
  ·cases h
 case loop b=>
  split at h
  ·cases h;exact⟨_,rfl,⟨_,_,by assumption⟩⟩
  ·cases h
 case rangeFunc f ps a b=>
  split at h
  ·rename_i hc;simp only[ed,zFS,ub]at hc;split at h
   ·split at h
    ·cases h;exact⟨ps,_,_,rfl,rfl,hc.1,hc.2,⟨_,_,by assumption⟩,⟨_,_,by assumption⟩⟩
    ·cases h
   ·cases h
  ·cases h
def tN(P:Program)(T:Nat->Option aq)(n:Nat):Prop:=∀base rnd ab e ds h x e' ds' h',cC T n base rnd (.loop ab) e ds h=some (x,e',ds',h')->base<=h.next→
 ∀c nt μ w (a:Act) rd lo,gJ P nt c ab->nt<=a.tmps.size->R P μ h w->cK μ e a.tmps->DR μ h w lo ds a.defers->RdR μ rnd rd->lo<=w.heap.size→
  c.roundsIn (Fw rd) 0 P (Post P μ h w lo a.tmps.size x e' ds' h') n a w
variable{sz:Nat}
theorem Post.map{a:Dfs}(keep:List Nat){c:Exit}{b:Act}(d:Post P μ h w lo sz .normal e' a h' c b w'):Post P μ h w lo sz .normal (bD e' keep) a h' c b w':=by
 obtain⟨μ',e,f,g,i,j⟩:=d;exact⟨μ',e,f,g,i.keep keep,j⟩
theorem Post.normal{x:bk}{a:Dfs}{b:Act}(c:Post P μ h w lo sz x e' a h' .normal b w'):x= .normal:=by
 obtain⟨μ',d,_⟩:=c;cases x<;>first|rfl|exact d.elim
variable {μ:Mu} {h:Heap} {w:World} {e:Env} {a:Act} {base:Nat}
theorem ej{c:Code}{b:Exit->Act->World->Prop}(d:∀e a w,Q e a w->b e a w)(h:c.wpIn F n P Q a w):c.wpIn F n P b a w:=Go.wpIn_mono h d
theorem ru{F:Fence}{n:Nat}{c:Code}{Q b:Exit->Act->World->Prop}(d:∀e a w,Q e a w->b e a w):∀(m:Nat) (a:Act) (w:World),c.roundsIn F n P Q m a w->c.roundsIn F n P b m a w
 |0,_,_,h=>h
 |m+1,a,w,h=>ej (λe a w q=>by cases e<;>first|exact ru d m _ _ q|exact d _ _ _ q) h
theorem tN.succ(F:ez P T)(B:mY P T n)(E:tN P T n):tN P T (n+1):=by
 intro base L M e N h x O D Q j o c t μ w a v s r m q k A g f;simp only[cC]at j;split at j
 ·rename_i e1 ds1 h2 hq;have z:=(eO.all F.aF n).exec _ _ _ _ _ _ _ _ _ _ hq o;have:=B _ _ _ _ _ _ _ _ _ _ hq o c t μ w a v s r m q k A g f;refine ej (λp y C b=> ?_) this;cases p with
  |normal=>
   obtain⟨μ',d,H,u,I,J,K⟩:=b;have G:=u.mono q;have:=E _ _ _ _ _ _ _ _ _ _ j (gd o z.next) c t μ' C y v s r (by omega) H I J (g.mono G) (gd f u.le);rw[K]at this;exact ru (λ_ _ _ b=>b.trans u z.next) _ _ _ this
  |exit i=>obtain⟨μ',d,_⟩:=b;exact d.elim
  |goto l=>obtain⟨μ',d,_⟩:=b;exact d.elim
  |ret=>obtain⟨μ',d,_⟩:=b;exact d.elim
  |panic ch=>obtain⟨μ',d,_⟩:=b;exact d.elim
  |outgrown=>obtain⟨μ',d,_⟩:=b;exact d.elim
 ·rename_i hne;have:=B _ _ _ _ _ _ _ _ _ _ j o c t μ w a v s r m q k A g f;refine ej (λp y C b=> ?_) this;cases p with
  |normal=>have:=b.normal;subst this;exact(hne _ _ _ j).elim
  |_=>exact b
theorem mY.V6(hT:ez P T)(Q:mY P T n)(hO:uD P T n)(V:I7 P T n)(hL:tN P T (n+1))
 (ae:∀base H ops it ox keep out nxt pr ops2 k2 body e M h x K v L,cC T (n+1) base H (.rangeMap ops it ox keep out nxt pr ops2 k2 body) e M h=some (x,K,v,L)→base≤h.next→
   ∀c C μ w (a:Act) A u,gJ P C c (.rangeMap ops it ox keep out nxt pr ops2 k2 body)->C<=a.tmps.size->R P μ h w->cK μ e a.tmps->DR μ h w u M a.defers->RdR μ H A->u<=w.heap.size->c.wpIn (Fw A) 0 P (Post P μ h w u a.tmps.size x K v L) a w)
 (Z:∀base H f ps asg body e M h x K v L,cC T (n+1) base H (.rangeFunc f ps asg body) e M h=some (x,K,v,L)→base≤h.next→
   ∀c C μ w (a:Act) A u,gJ P C c (.rangeFunc f ps asg body)->C<=a.tmps.size->R P μ h w->cK μ e a.tmps->DR μ h w u M a.defers->RdR μ H A->u<=w.heap.size->c.wpIn (Fw A) 0 P (Post P μ h w u a.tmps.size x K v L) a w):
 mY P T (n+1):=by
 intro base H ac e M h x K v L k G c C μ w a A u I r B d D s m;have hA:=eO.all hT.aF n;cases ac;case rangeFunc f ps asg body=>exact Z _ _ _ _ _ _ _ _ _ _ _ _ _ k G c C μ w a A u I r B d D s m
 case rangeMap ops it ox keep out nxt pr ops2 k2 body=>exact ae _ _ _ _ _ _ _ _ _ _ _ _ _ _ _ _ _ _ _ k G c C μ w a A u I r B d D s m
 case loop b=>
  obtain⟨y,rfl,J⟩:=I.inv;exact wpIn_loop_rounds _ (hL _ _ _ _ _ _ _ _ _ _ k G y C μ w a A u J r B d D s m)
 case skip=>
  have ar:c= .skip∨∃l,c= .label l:=I.inv;simp only[cC]at k;cases k;rcases ar with rfl|⟨l,rfl⟩
  ·exact wpIn_skip ⟨μ,trivial,B, .refl _ _ _,d,D,rfl⟩
  ·exact wpIn_label ⟨μ,trivial,B, .refl _ _ _,d,D,rfl⟩
 case scope b=>
  obtain⟨y,rfl,J⟩:=I.inv;simp only[cC]at k;refine FC (ej (λN S Y t=> ?_) (Q _ _ _ _ _ _ _ _ _ _ k G y C μ w a A u J r B d D s m));cases N with
  |goto l=>obtain⟨μ',E,_⟩:=t;cases x<;>exact E.elim
  |_=>exact t
 case exit i=>
  have:c= .exit i:=I.inv;subst this;simp only[cC]at k;cases k;exact wpIn_exit ⟨μ,rfl,B, .refl _ _ _,d,D,rfl⟩
 case ret=>
  have:c= .ret:=I.inv;subst this;simp only[cC]at k;cases k;exact wpIn_ret ⟨μ,trivial,B, .refl _ _ _,d,D,rfl⟩
 case region as keep=>
  obtain⟨id,ops,rfl,O⟩:=I.inv;simp only[cC]at k;refine wpIn_region ?_;have run:∀x K v L,fZ T n base H as e M h=some (x,K,v,L)->wpOpsIn (Fw A) 0 P ops (Post P μ h w u a.tmps.size x K v L) (List.range ops.size) a w:=λx K v L F=>by
   have:=hO _ _ _ _ _ _ _ _ _ _ F G ops 0 ops.size C μ w a A u (by omega) (by rw[py,gk (by simp)];exact O) r B d D s m;rw[←List.range_eq_range']at this;exact this
  split at k
  ·rename_i F;cases k;exact gz (λ_ _ _ t=>t.map keep) _ _ _ (run _ _ _ _ F)
  ·exact run _ _ _ _ k
 case draw as ord bf keep=>
  obtain⟨id,ops,rfl,O,W⟩:=I.inv;simp only[cC]at k;split at k
  ·rename_i F;cases k;exact ej (λ_ _ _ t=>t.map keep) (V _ _ _ _ _ _ _ _ _ F G ops C μ w a A u M id O W r B d D (.inr trivial) m)
  ·rename_i F;cases k;exact V _ _ _ _ _ _ _ _ _ F G ops C μ w a A u M id O W r B d D (.inr trivial) m
  ·cases k
 case seq p q=>
  obtain⟨y,z,rfl,J,hz⟩:=I.inv;simp only[cC]at k;refine wpIn_seq ?_;split at k
  ·rename_i e1 ds1 h2 F;have U:=hA.exec _ _ _ _ _ _ _ _ _ _ F G;refine ej (λN S Y t=> ?_) (Q _ _ _ _ _ _ _ _ _ _ F G y C μ w a A u J r B d D s m);cases N with
   |normal=>
    obtain⟨μ',E,X,q3,q4,q5,q6⟩:=t;have hm:=q3.mono B;have:=Q _ _ _ _ _ _ _ _ _ _ k (gd G U.next) z C μ' Y S A u hz (by omega) X q4 q5 (s.mono hm) (gd m q3.le);rw[q6]at this;exact ej (λ_ _ _ t=>t.trans q3 U.next) this
   |exit i=>obtain⟨μ',E,_⟩:=t;exact E.elim
   |goto l=>obtain⟨μ',E,_⟩:=t;exact E.elim
   |ret=>obtain⟨μ',E,_⟩:=t;exact E.elim
   |panic ch=>obtain⟨μ',E,_⟩:=t;exact E.elim
   |outgrown=>obtain⟨μ',E,_⟩:=t;exact E.elim
  ·rename_i hne;refine ej (λN S Y t=> ?_) (Q _ _ _ _ _ _ _ _ _ _ k G y C μ w a A u J r B d D s m);cases N with
   |normal=>have:=t.normal;subst this;exact(hne _ _ _ k).elim
   |_=>exact t
 case cond o p q=>
  obtain⟨y,z,rfl,ho,J,hz⟩:=I.inv;simp only[cC]at k;split at k
  ·rename_i F;have g:=bW B d ho F;generalize hev:a.eval o=ov at g;cases g;exact wpIn_cond_true hev (Q _ _ _ _ _ _ _ _ _ _ k G y C μ w a A u J r B d D s m)
  ·rename_i F;have g:=bW B d ho F;generalize hev:a.eval o=ov at g;cases g;exact wpIn_cond_false hev (Q _ _ _ _ _ _ _ _ _ _ k G z C μ w a A u hz r B d D s m)
  ·cases k
 case block id b=>
  obtain⟨y,rfl,J⟩:=I.inv;simp only[cC]at k;refine wpIn_block ?_;split at k
  ·rename_i i e1 ds1 h2 F;refine ej (λN S Y t=> ?_) (Q _ _ _ _ _ _ _ _ _ _ F G y C μ w a A u J r B d D s m);obtain⟨μ',E,X⟩:=t;cases N<;>first|exact E.elim|skip
   rename_i j;have aw:i=j:=E;subst aw;simp only[cond_eq_ite,beq_eq,decide_eq_true_eq]at k;simp only[Exit.inBlock];split at k
   ·rename_i hi;cases k;rw[if_pos hi];exact⟨μ',trivial,X⟩
   ·rename_i hi;cases k;rw[if_neg hi];exact⟨μ',rfl,X⟩
  ·rename_i hne;refine ej (λN S Y t=> ?_) (Q _ _ _ _ _ _ _ _ _ _ k G y C μ w a A u J r B d D s m);cases N with
   |exit i=>
    obtain⟨μ',E,X⟩:=t;cases x<;>first|exact E.elim|skip
    exact(hne _ _ _ _ k).elim
   |_=>exact t
theorem R.AO(d:R P μ h w){w':World}{j:Obj}(e:w'.heap=w.heap.push j)(i:Same w w':=by exact⟨rfl,rfl,rfl,by first|exact bl _|exact qt _ _⟩):R P μ h w'∧St μ h w μ h w':=by
 have s:=size_push e;refine⟨⟨d.big,λg o m n=>let⟨k,a,b,c,x⟩:=d.lR g o m n;⟨k,a,b,c,x.get (fk e _ (d.dom _ _ a).2)⟩,λb o f=>OR.mono (λ_ _ h=>h) rfl (λk p=>fk e _ (d.dom _ _ p).2) (d.obj b o f),d.lt,λb k f=>⟨(d.dom b k f).1,by have:=(d.dom b k f).2;omega⟩,d.kT⟩,
  ⟨λ_ _=>rfl,by omega,λr q _=>fk e r q,λ_ _ h=>h,λr L l=>⟨L,(fk e r (Array.getElem?_eq_some_iff.1 l).1).trans l, .refl L⟩,i⟩⟩
variable{l:Nat}{L:Loop}
theorem run_getLoop(a:w.heap[l]? =some (.loop L)):(Instr.getLoop l).run P w= .ok L w:=by
 simp only[Instr.getLoop,ey,fO a (by simp),b7,gR]
variable{rnd:Option Nat}{asg body:aN}
theorem J5{B:Option Nat}{C:Dfs}{ps:Array Tmp}{x y:Code}(fn:FuncId)(i:R P μ h w)(G:cK μ e a.tmps)(r:DR μ h w lo C a.defers)(m:RdR μ rnd B)(g:nr h rnd=true)(v:lo<=w.heap.size)
 (z:nt<=a.tmps.size)(A:∀t∈ps.toList,t<nt)(I:gJ P nt x asg)(J:gJ P nt y body):
 ∃l mark w1,(Instr.enterLoop fn a.tmps ps x y B).run P w= .ok (l,mark) w1/\R P (upd μ h.next ⟨l,0,0,0⟩) (h.push (.loop e ps.toList asg body 0 .normal)) w1∧
  St μ h w (upd μ h.next ⟨l,0,0,0⟩) (h.push (.loop e ps.toList asg body 0 .normal)) w1/\DR (upd μ h.next ⟨l,0,0,0⟩) (h.push (.loop e ps.toList asg body 0 .normal)) w1 lo C (mark++a.defers):=by
 have alloc:∀(w0:World) (d:Nat),R P μ h w0->St μ h w μ h w0->∀(L:Loop),L={state:= .ready,pending:=none,fn,tmps:=a.tmps,params:=ps,assign:=x,body:=y,defers:=d}→
  R P (upd μ h.next ⟨w0.heap.size,0,0,0⟩) (h.push (.loop e ps.toList asg body 0 .normal)) {w0 with heap:=w0.heap.push (.loop L)}∧
  St μ h w (upd μ h.next ⟨w0.heap.size,0,0,0⟩) (h.push (.loop e ps.toList asg body 0 .normal)) {w0 with heap:=w0.heap.push (.loop L)}:=λw0 d j u L f=>by
  obtain⟨n,c⟩:=j.alloc (w':={w0 with heap:=w0.heap.push (.loop L)}) (o:= .loop e ps.toList asg body 0 .normal) (k:=⟨w0.heap.size,0,0,0⟩) rfl rfl (λk q=>by
   rw[ek]at q;cases q;refine⟨L,by simp,?_,by rw[f],⟨nt,by rw[f];exact z,A,by rw[f];exact I,by rw[f];exact J⟩, .inl ⟨rfl,by rw[f],by rw[f],rfl⟩⟩;rw[f];exact G.mono λb T D=>by
    unfold upd;rw[if_neg];exact D;intro e;subst e;exact pp _ (j.dom _ _ D).1)
  exact⟨n,u.trans c (bl _)⟩
 cases rnd with
 |none=>
  have:B=none:=m;subst this;obtain⟨K,M⟩:=i.AO (w':={w with heap:=w.heap.push (.deferred (some []))}) rfl;obtain⟨n,c⟩:=alloc _ w.heap.size K M _ rfl;refine⟨_,[{target:= .collected w.heap.size,args:= #[]}],_,?_,n,c,?_⟩
  ·simp only[Instr.enterLoop,ey,run_newObj,b7,gR]
  ·refine .mark v (λN as H=>r.marks N as H) ?_ ?_ (r.step c (c.mono i))
   ·simp[Array.getElem?_push]
   ·intro ⟨b,o,k,O,Q,S,p,F⟩;unfold upd at p;split at p
    ·cases p;simp at F
    ·have:=(i.dom b k p).2;omega
 |some la=>
  obtain⟨k,q,rfl⟩:=m;simp only[nr]at g;split at g
  ·rename_i hg;obtain⟨E,s,_⟩:=i.obj la _ hg k q;obtain⟨n,c⟩:=alloc w E.defers i (.refl _ _ _) _ rfl;refine⟨_,[],_,?_,n,c,r.step c (c.mono i)⟩;simp only[Instr.enterLoop,ey,run_getLoop s,b7,gR];simp only[run_newObj,b7,gR,ey]
  ·cases g
theorem jP(e:ez P T){g:Nat}(b:gw (T g)=false)(args:Array Value)(w:World):(callFunc g args).run P w= .ok (.enter g args) w:=by
 unfold gw at b;split at b
 ·rename_i c rs hc;obtain⟨f,h,d,a⟩:=e.code g c rs hc;unfold aM at a;split at a
  ·rename_i body hb;split at a
   ·cases a
   ·rename_i hn;simp[callFunc,program,Sem.run,d,hb,hn]
  ·cases a
 ·cases b
theorem PJ(hT:ez P T)(hC:tM P T n):∀base D f ps m b e J h x Y z h',cC T (n+1) base D (.rangeFunc f ps m b) e J h=some (x,Y,z,h')->base<=h.next→
 ∀c nt μ w (a:Act) I H,gJ P nt c (.rangeFunc f ps m b)->nt<=a.tmps.size->R P μ h w->cK μ e a.tmps->DR μ h w H J a.defers->RdR μ D I->H<=w.heap.size->c.wpIn (Fw I) 0 P (Post P μ h w H a.tmps.size x Y z h') a w:=by
 intro base D f ps m b e J h x Y z h' k hb c nt μ w a I H X bo K S hD cj be;obtain⟨Q,cx,cy,rfl,rfl,hf,cd,hx,hy⟩:=X.inv;simp only[cC,cond_eq_ite]at k;split at k
 ·rename_i hra;split at k
  ·rename_i g first cap hfv
   split at k
   ·cases k
   ·rename_i s;have s:gw (T g)=false:=by simpa using s
    have gf:=bW K S hf hfv;generalize hev:a.eval f=fv' at gf;obtain⟨f',fa,fc,rfl,ba,l1,l2⟩:=gf.pH;cases ba;refine wpIn_rangeFunc (F:=Fw I) λfn _=> ?_;obtain⟨l,r,y,aE,q1,q2,q3⟩:=J5 fn K S hD cj hra be bo cd hx hy;have hm:=q2.mono K;let args':List Value:=fa.toList++([.func (.yield l) #[] #[]]++fc.toList);have A:LR (upd μ h.next ⟨l,0,0,0⟩) (dP first.toList (dP [.func (.yield h.next) #[] #[]] cap.toList)) args':=by
     rw[dI,dI];refine(l1.mono hm).append (.append (.cons ?_ .nil) (l2.mono hm));exact VR.Ki (.yield (ek _ _ _)) .nil .nil
    have cf:R P (upd μ h.next ⟨l,0,0,0⟩) ({h.push (.loop e Q.toList m b 0 .normal)with log:=[]}:Heap) y:=q1.congr rfl rfl;refine⟨l,r,y,{target:= .fn (.func g) fc,args:=fa++ #[.func (.yield l) #[] #[]]},y,g,args'.toArray,y,aE,?_,λ_ _=>gF,?_,λhq=>(by cases hq),?_⟩
    ·have aw:∀v:Value,a.eval (.const v)=v:=λ_=>rfl;simp[resolve,rangeCall,hev,Deferred.ofValue,aw]
    ·have:(fa++ #[.func (.yield l) #[] #[]])++fc=args'.toArray:=by apply eD;simp[args']
     simp only[invoke,this];exact jP hT s _ _
    ·have O:∀C hh,iJ T n g (dP first.toList (dP [.func (.yield h.next) #[] #[]] cap.toList)) {h.push (.loop e Q.toList m b 0 .normal)with log:=[]}=some (C,hh)→
      CallsIn Fence.wide 0 P g args'.toArray y (gU P (upd μ h.next ⟨l,0,0,0⟩) ({h.push (.loop e Q.toList m b 0 .normal)with log:=[]}:Heap) y C hh):=λC hh hq=>by
      have:=hC _ _ _ _ _ hq rfl _ _ _ cf A;rw[jP hT s]at this;exact this
     split at k
     ·rename_i v h2 hcall;have hA:=(eO.all hT.aF n).call _ _ _ _ _ hcall rfl;have cJ:h.next+1<=h2.next:=hA.next
      refine CallsIn.mono (F:=Fw I) (O _ _ hcall) λZ j hp=> ?_;obtain⟨μ',E,G,o⟩:=hp;cases Z with
      |outgrown=>exact E.elim
      |panicked ch=>exact E.elim
      |returned v'=>
       have o:St (upd μ h.next ⟨l,0,0,0⟩) (h.push (.loop e Q.toList m b 0 .normal)) y μ' h2 j:=o.pq rfl rfl;have V:St μ h w μ' h2 j:=q2.trans o (ti _);split at k
       ·rename_i le lps la lb st iN hg2;split at k
        ·cases k
        ·rename_i t;have t:st≠1:=by simpa[beq_eq]using t
         cases k;have hμ:μ' h.next=some ⟨l,0,0,0⟩:=by
          rw[o.ext h.next (go _)];exact ek _ _ _
         obtain⟨L,U,_,_,_,u⟩:=G.obj h.next _ hg2 _ hμ
         have bi:l<j.heap.size:=(G.dom _ _ hμ).2
         obtain⟨r1,r2⟩:=G.write (base:=base) (o':= .dead) (w':={j with heap:=j.heap.setIfInBounds l (.loop {L with state:= .exhausted})}) hg2 rfl rfl hμ (by simp)
          (fun r' ci=>by simp[gy,Ne.symm ci]) ⟨fun c el fz X=>(by rw[U]at X;cases X),fun L' N=>(by
            rw[U]at N;cases N;exact⟨{L with state:= .exhausted},by simp[gy,bi],⟨rfl,rfl,rfl,rfl,rfl,rfl⟩⟩)⟩ trivial
         have B:L.state≠ .busy:=by
          rcases u with⟨_,q,_⟩|⟨q,_⟩|⟨_,q,_⟩
          ·rw[q];simp
          ·exact(t q).elim
          ·rw[q];simp
         have p:(Instr.endLoop l).run P j= .ok L.pending {j with heap:=j.heap.setIfInBounds l (.loop {L with state:= .exhausted})}:=by
          have ar:(L.state==LoopState.busy)=false:=by
           cases hs:L.state<;>first|rfl|exact(B hs).elim
          simp only[Instr.endLoop,ey,run_getLoop U,b7,ar,rc,if_false];simp[setObj,Sem.run,U]
         have M:St μ h w μ' (Heap.wr {h2 with log:=aB base h.log h2.log} base h.next .dead) {j with heap:=j.heap.setIfInBounds l (.loop {L with state:= .exhausted})}:=by
          refine St.ja (h1:=h2.wr base h.next .dead) ?_ rfl;exact V.trans r2 (by omega)
         have bj:=M.mono K;have ae:DR μ' (Heap.wr {h2 with log:=aB base h.log h2.log} base h.next .dead) {j with heap:=j.heap.setIfInBounds l (.loop {L with state:= .exhausted})} H J (r++a.defers):=by
          have d1:=q3.step o (o.mono q1);have d2:=d1.step r2 (r2.mono G);exact d2.step (St.ja (h1:=h2.wr base h.next .dead) (.refl _ _ _) rfl) (λ_ _ h=>h)
         have d:∀ex,XR μ' x ex->Post P μ h w H a.tmps.size x e J (Heap.wr {h2 with log:=aB base h.log h2.log} base h.next .dead) ex {a with defers:=r++a.defers} {j with heap:=j.heap.setIfInBounds l (.loop {L with state:= .exhausted})}:=
          λex hx=>⟨μ',hx,r1.congr rfl rfl,M,S.mono bj,ae,rfl⟩
         revert d p;generalize({j with heap:=j.heap.setIfInBounds l (.loop {L with state:= .exhausted})}:World)=W;intro p d;refine⟨L.pending,W,p,?_⟩;rcases u with⟨_,_,q,q'⟩|⟨q,_⟩|⟨_,_,q⟩
         ·rw[q];subst q';exact d .normal trivial
         ·exact(t q).elim
         ·cases x with
          |normal=>rw[show L.pending=none from q];exact d .normal trivial
          |exit i=>rw[show L.pending=some (.exit i)from q];exact wpIn_exit (d (.exit i) rfl)
          |ret=>rw[show L.pending=some .ret from q];exact wpIn_ret (d .ret trivial)
          |panic v=>exact q.elim
       ·cases k
     ·rename_i v h2 hcall;cases k;refine CallsIn.mono (F:=Fw I) (O _ _ hcall) λZ j hp=> ?_;obtain⟨μ',E,G,o⟩:=hp;cases Z with
      |outgrown=>exact E.elim
      |returned v'=>exact E.elim
      |panicked ch=>
       have o:St (upd μ h.next ⟨l,0,0,0⟩) (h.push (.loop e Q.toList m b 0 .normal)) y μ' h2 j:=o.pq rfl rfl;have V:St μ h w μ' h2 j:=q2.trans o (ti _);exact⟨μ',E,G.congr rfl rfl,V.ja rfl,S.mono (V.mono K),(q3.step o (o.mono q1)).step (St.ja (h1:=h2) (.refl _ _ _) rfl) (λ_ _ h=>h),rfl⟩
     ·cases k
  ·cases k
 ·cases k
variable{ps:List Nat}
theorem Iv{a:Heap}(q:h.get l=some (.loop e ps asg body 0 .normal))(j:AS h.next h a)
 (i:AS h.next {a with cm:=iS a.cm l (.loop e ps asg body 1 .normal)} c)(s:(c.get l).isSome):AS h.next h {c with cm:=iS c.cm l (.loop e ps asg body 0 .normal)}:=by
 have g:=j.next
 have m:a.next<=c.next:=i.next
 refine⟨gd g m,?_,λb d f=>i.mono b d (j.mono b d f),λb d n f=> ?_⟩
 ·show(iS c.cm l _).map (·.1)=_;rw[lZ,i.keys];show _++(iS a.cm l _).map (·.1)=_;rw[lZ,j.keys,←List.append_assoc];show dA a.next (c.next-a.next)++_++_=dA h.next (c.next-h.next)++_
  have p:c.next-h.next=(a.next-h.next)+(c.next-a.next):=by omega
  rw[p,oq,show h.next+(a.next-h.next)=a.next by omega]
 ·have k:fF a.log b=false:=by
   cases e:fF a.log b with
   |false=>rfl
   |true=>rw[i.mono b d e]at f;cases f
  rw[pI];split
  ·rename_i e;subst e;obtain⟨o,r⟩:=Option.isSome_iff_exists.1 s;rw[r,q];rfl
  ·rename_i e;have:=i.same b d (hK n g) f;rw[pI,if_neg e]at this;rw[this];exact j.same b d n k
theorem tF{nt:Nat}:∀{ps:List Nat} {args args':List Value} {e e1:Env} {t:Array Value},iX e ps args=some e1->cK μ e t->LR μ args args'→nt<=t.size->(∀p∈ps,p<nt)→
 args'.length=ps.length/\cK μ e1 ((ps.zip args').foldl (λtmps (p:Nat×Value)=>tmps.setIfInBounds p.1 p.2) t)/\((ps.zip args').foldl (λtmps (p:Nat×Value)=>tmps.setIfInBounds p.1 p.2) t).size=t.size
 |[],[],args',e,e1,t,hs,hE,hl,_,_=>by cases hs;cases hl;exact⟨rfl,hE,rfl⟩
 |[],_::_,_,_,_,_,hs,_,_,_,_=>by cases hs
 |_::_,[],_,_,_,_,hs,_,_,_,_=>by cases hs
 |p::ps,v::vs,args',e,e1,t,hs,hE,hl,hnt,hps=>by
  cases hl with
  |cons h1 h2=>
   rename_i v' vs';simp only[iX]at hs;have hE':cK μ ((p,v)::e) (t.setIfInBounds p v'):=by
    have:=cK.put (a:=⟨t,[]⟩) (dst:=some p) (nt:=nt) hE (by simp[lJ,ub];exact hps p (by simp)) hnt h1;exact this
   obtain⟨c,d,f⟩:=tF (t:=t.setIfInBounds p v') hs hE' h2 (by simpa using hnt) (λx b=>hps x (by simp[b]));exact⟨by simp[c],by simpa using d,by simpa using f⟩
variable{k:Blk}
theorem R.Ap(x:R P μ h w){L0:Loop}{u:List Nat}{z A:aN}{v:Nat}{s:bk}{st:Nat}{iN:bk}(C:h.get l=some (.loop e0 u z A v s))(m:μ l=some k)
 (g:w.heap[k.r]? =some (.loop L))(a:ir L L0)(B:cK μ e L.tmps)(D:L.params.toList=ps)(n:nt<=L.tmps.size)(o:∀t∈ps,t<nt)(i:gJ P nt L.assign asg)(j:gJ P nt L.body body)(q:StR st iN L0):
 (setObj k.r (.loop L0)).run P w= .ok () {w with heap:=w.heap.setIfInBounds k.r (.loop L0)}∧
 R P μ ({h with cm:=iS h.cm l (.loop e ps asg body st iN)}:Heap) {w with heap:=w.heap.setIfInBounds k.r (.loop L0)}∧
 St μ h w μ ({h with cm:=iS h.cm l (.loop e ps asg body st iN)}:Heap) {w with heap:=w.heap.setIfInBounds k.r (.loop L0)}:=by
 have f:k.r<w.heap.size:=(x.dom _ _ m).2
 obtain⟨E,F⟩:=x.write (base:=0) (o':= .loop e ps asg body st iN) (w':={w with heap:=w.heap.setIfInBounds k.r (.loop L0)}) C rfl rfl m (by simp)
  (fun K p=>by simp[gy,Ne.symm p]) ⟨fun c H I y=>(by rw[g]at y;cases y),fun G d=>(by
    rw[g]at d;cases d;exact⟨L0,by simp[gy,f],a⟩)⟩ (λJ b=>by
     rw[m]at b;cases b;exact⟨L0,by simp[gy,f],by rw[a.tmps];exact B,by rw[a.params];exact D,⟨nt,by rw[a.tmps];exact n,o,by rw[a.assign];exact i,by rw[a.body];exact j⟩,q⟩)
 exact⟨by simp[setObj,Sem.run,g],E.congr rfl rfl,F.ja rfl⟩
theorem ql.succ(hT:ez P T)(hE:mY P T n)(hC:tM P T n):ql P T (n+1):=by
 intro fn cX h da h' c hl μ w b hR B;refine⟨λg hg=> ?_,λl k hg hk=> ?_⟩
 ·subst hg;simp only[gG]at c;exact hC _ _ _ _ _ c hl μ w b hR B
 ·subst hg;simp only[gG]at c;split at c
  ·rename_i e ps asg body hgl;split at c
   ·rename_i e1 hsp;split at c
    ·rename_i e2 ds2 h2 hq1;rw[cond_eq_ite]at c;split at c
     ·cases c
     ·rename_i hnr;have u:=(eO.all hT.aF n).exec _ _ _ _ _ _ _ _ _ _ hq1 (bl _);have M:∃e' S a' b',h2.get l=some (.loop e' S a' b' 0 .normal):=by
       unfold notReady at hnr;split at hnr
       ·rename_i hq;exact⟨_,_,_,_,hq⟩
       ·simp at hnr
      obtain⟨ee,ep,ea,eb,M⟩:=M;obtain⟨L,hL,X,O,⟨nt,C,ar,Z,ae⟩,cY⟩:=hR.obj l _ hgl k hk;obtain⟨p1,p2,p3⟩:=tF (t:=L.tmps) hsp X B C ar;let T0:Array Value:=(L.params.zip b.toArray).foldl (λG (t,a)=>G.setIfInBounds t a) L.tmps;have cd:T0=(ps.zip b).foldl (λG (p:Nat×Value)=>G.setIfInBounds p.1 p.2) L.tmps:=by
       show(L.params.zip b.toArray).foldl _ L.tmps=_;rw[←Array.foldl_toList,←O];simp
      rw[←cd]at p2 p3;have hy:(Instr.yield k.r b.toArray).run P w= .ok (.round k.r L.fn T0 L.assign L.body) w:=by
       have cj:¬b.toArray.size≠L.params.size:=by
        have:L.params.size=ps.length:=by rw[←O];simp
        simp[this,p1]
       simp only[Instr.yield,ey,run_getLoop hL,b7,cj,if_false,gR];rfl
      rw[hy];refine roundIn_of_wpIn (F:=Fence.wide) trivial ?_;refine ej (λI a1 A z=> ?_) (hE _ _ _ _ _ _ _ _ _ _ hq1 (bl _) L.assign nt μ w ⟨T0,[]⟩ (some k.r) w.heap.size Z (by rw[p3];exact C) hR p2 .nil ⟨k,hk,rfl⟩ (bl _));obtain⟨μ1,x1,R1,S1,E1,D1,z1⟩:=z;cases I<;>first|exact x1.elim|skip
      have be:=S1.mono hR;have N:=be _ _ hk;obtain⟨H,Y,y⟩:=S1.loops _ _ hL;obtain⟨d9,W,_,_,_,bj⟩:=R1.obj l _ M k N;rw[Y]at W;cases W;have Q:H.state= .ready:=by
       rcases bj with⟨_,q,_⟩|⟨q,_⟩|⟨q,_⟩
       ·exact q
       ·cases q
       ·cases q
      obtain⟨s1,s2,s3⟩:=R1.Ap (L0:={H with state:= .busy}) (e:=e) (ps:=ps) (asg:=asg) (body:=body) (st:=1) (iN:= .normal) (nt:=nt) M N Y ⟨rfl,rfl,rfl,rfl,rfl,rfl⟩ (by rw[y.tmps];exact X.mono be) (by rw[y.params];exact O) (by rw[y.tmps];exact C) ar
       (by rw[y.assign];exact Z) (by rw[y.body];exact ae) (.inr (.inl ⟨rfl,rfl⟩))
      have ba:k.r<A.heap.size:=(R1.dom _ _ N).2;have K:(Instr.beginRound k.r).run P A= .ok () {A with heap:=A.heap.setIfInBounds k.r (.loop {H with state:= .busy})}:=by
       simp only[Instr.beginRound,ey,run_getLoop Y,b7,s1,Q,gR]
      refine⟨_,K,?_⟩;have bo:({A with heap:=A.heap.setIfInBounds k.r (.loop {H with state:= .busy})}:World).heap[k.r]? =some (.loop {H with state:= .busy}):=by simp[gy,ba]
      have cP:ir L {H with state:= .busy}:=y.trans ⟨rfl,rfl,rfl,rfl,rfl,rfl⟩;have S2:St μ h w μ1 ({h2 with cm:=iS h2.cm l (.loop e ps asg body 1 .normal)}:Heap) {A with heap:=A.heap.setIfInBounds k.r (.loop {H with state:= .busy})}:=S1.trans s3 u.next
      have D2:=D1.step s3 (s3.mono R1);have cJ:w.heap.size<=({A with heap:=A.heap.setIfInBounds k.r (.loop {H with state:= .busy})}:World).heap.size:=by simpa using S1.le
      generalize({A with heap:=A.heap.setIfInBounds k.r (.loop {H with state:= .busy})}:World)=w2 at*;generalize({H with state:= .busy}:Loop)=L2 at*
      have run:∀x J f o,cC T n h.next (some l) body e2 ds2 {h2 with cm:=iS h2.cm l (.loop e ps asg body 1 .normal)}=some (x,J,f,o)→
       AS h.next {h2 with cm:=iS h2.cm l (.loop e ps asg body 1 .normal)} o∧
       L.body.wpIn (Fw (some k.r)) 0 P (Post P μ1 ({h2 with cm:=iS h2.cm l (.loop e ps asg body 1 .normal)}:Heap) w2 w.heap.size a1.tmps.size x J f o) a1 w2:=λx J f o hq=>
       ⟨(eO.all hT.aF n).exec _ _ _ _ _ _ _ _ _ _ hq u.next,
         hE _ _ _ _ _ _ _ _ _ _ hq u.next L.body nt μ1 w2 a1 (some k.r) w.heap.size ae (by rw[z1,p3];exact C) s2 E1 D2 ⟨k,N,rfl⟩ cJ⟩
      have fin:∀(x:bk) J f o I (a3:Act) w3,AS h.next {h2 with cm:=iS h2.cm l (.loop e ps asg body 1 .normal)} o->Post P μ1 ({h2 with cm:=iS h2.cm l (.loop e ps asg body 1 .normal)}:Heap) w2 w.heap.size a1.tmps.size x J f o I a3 w3→
       ∀e' S a' b' pd,o.get l=some (.loop e' S a' b' 1 pd)->∀(st:Nat) (iN:bk) (d:Option Code),(∀V:Loop,V.state=(if d.isNone then LoopState.ready else .done)->V.pending=d->StR st iN V)→
       ∃μ3 U,(Instr.endRound k.r d).run P w3= .ok (.bool d.isNone) U/\R P μ3 ({o with cm:=iS o.cm l (.loop e ps asg body st iN)}:Heap) U/\St μ h w μ3 ({o with cm:=iS o.cm l (.loop e ps asg body st iN)}:Heap) U:=by
       intro x J f o I a3 w3 j z e' S a' b' pd m st iN d ci;obtain⟨μ3,_,R3,S3,_,_,_⟩:=z;have aw:=S2.trans S3 u.next
       have bi:=aw.mono hR;have cf:=bi _ _ hk;obtain⟨L3,aE,s⟩:=S3.loops _ _ bo;have s:ir L L3:=cP.trans s
       obtain⟨r1,r2,r3⟩:=R3.Ap (L0:={L3 with state:=if d.isNone then .ready else .done,pending:=d}) (e:=e) (ps:=ps) (asg:=asg) (body:=body) (st:=st) (iN:=iN) (nt:=nt) m cf aE ⟨rfl,rfl,rfl,rfl,rfl,rfl⟩ (by rw[s.tmps];exact X.mono bi)
        (by rw[s.params];exact O) (by rw[s.tmps];exact C) ar (by rw[s.assign];exact Z) (by rw[s.body];exact ae) (ci _ rfl rfl)
       refine⟨μ3,_,?_,r2,aw.trans r3 (gd u.next j.next)⟩;simp only[Instr.endRound,ey,run_getLoop aE,b7,r1,gR]
      split at c
      ·rename_i J f o hq3;obtain⟨j,E⟩:=run _ _ _ _ hq3;split at c
       ·rename_i m;cases c;refine ej (λI a3 w3 z=> ?_) E;have D:=z;obtain⟨μ3,x3,_⟩:=D;cases I<;>first|exact x3.elim|skip
        obtain⟨μ4,U,t1,t2,t3⟩:=fin _ _ _ _ _ _ _ j z _ _ _ _ _ m 0 .normal none (λV q1 q2=> .inl ⟨rfl,q1,q2,rfl⟩);obtain⟨μ5,g1,g2,g3,_⟩:=Kk hR t2 t3 (Iv hgl u j (by rw[m];rfl)) (v:= .bool true) (v':= .bool true) (.bool true);exact⟨_,U,t1,μ5,g2,g1,g3⟩
       ·cases c
      ·rename_i i J f o hq3;obtain⟨j,E⟩:=run _ _ _ _ hq3;split at c
       ·rename_i m;cases c;refine ej (λI a3 w3 z=> ?_) E;have D:=z;obtain⟨μ3,x3,_⟩:=D;cases I<;>first|exact x3.elim|skip
        have:i=_:=x3;subst this;obtain⟨μ4,U,t1,t2,t3⟩:=fin _ _ _ _ _ _ _ j z _ _ _ _ _ m 2 (.exit i) (some (.exit i)) (λV q1 q2=> .inr (.inr ⟨rfl,q1,q2⟩));exact⟨_,U,t1,μ4, .bool false,t2.congr rfl rfl,t3.ja rfl⟩
       ·cases c
      ·rename_i J f o hq3;obtain⟨j,E⟩:=run _ _ _ _ hq3;split at c
       ·rename_i m;cases c;refine ej (λI a3 w3 z=> ?_) E;have D:=z;obtain⟨μ3,x3,_⟩:=D;cases I<;>first|exact x3.elim|skip
        obtain⟨μ4,U,t1,t2,t3⟩:=fin _ _ _ _ _ _ _ j z _ _ _ _ _ m 2 .ret (some .ret) (λV q1 q2=> .inr (.inr ⟨rfl,q1,q2⟩));exact⟨_,U,t1,μ4, .bool false,t2.congr rfl rfl,t3.ja rfl⟩
       ·cases c
      ·cases c
    ·cases c
   ·cases c
  ·cases c
theorem uX:∀{vs:List Value} {i t:Nat} {v:Value},geT (dM i vs) t=some v->i<=t/\vs[t-i]? =some v
 |[],_,_,_,h=>by simp[dM,geT]at h
 |x::vs,i,t,v,h=>by
  simp only[dM,geT,cond_eq_ite,beq_eq,decide_eq_true_eq]at h;split at h
  ·rename_i e;subst e;cases h;exact⟨bl _,by simp⟩
  ·obtain⟨q1,q2⟩:=uX h;exact⟨by omega,by rw[show t-i=(t-(i+1))+1 by omega];simpa using q2⟩
theorem zU{args args':List Value}(c:LR μ args args')(m:Nat):cK μ (dM 0 args) (args'.toArray++Array.replicate (m-args'.toArray.size) undef):=by
 intro t v d;obtain⟨_,q⟩:=uX d;rw[Nat.sub_zero]at q;obtain⟨f,b,e⟩:=c.get (i:=t) (by rw[cH];exact q);refine⟨f,?_,e⟩;have a:=(List.getElem?_eq_some_iff.1 b).1;rw[Array.getElem?_append_left (by simpa using a)];simpa using b
def PL(tmps:Array Value):ResultVar->Sem Value
 | .tmp t=>pure (tmps.getD t undef)
 | .cell a t=>do loadVar t (←asAddr (tmps.getD a undef))
theorem sj(d:R P μ h w):∀{rs:List ResultVar} {b:List (Nat×Option (Option Nat))} {vs:List Value} {tmps:Array Value},DK P rs=some b->cK μ e tmps->bL h e b=some vs→
 ∃a,LR μ vs a∧(rs.mapM (PL tmps)).run P w= .ok a w
 |[],b,vs,tmps,hp,hE,hr=>by
  cases hp;cases hr;exact⟨[], .nil,by simp⟩
 | .tmp t::rs,b,vs,tmps,hp,hE,hr=>by
   simp only[DK]at hp;obtain⟨l,hl,rfl⟩:=ew hp;simp only[bL]at hr;split at hr
   ·rename_i v hv;split at hr
    ·rename_i vs2 hvs;cases hr;obtain⟨a,i,j⟩:=sj d hl hE hvs;obtain⟨k,f,g⟩:=hE t v hv;refine⟨k::a, .cons g i,?_⟩;simp only[List.mapM_cons,ey,PL,gR,b7,j,pt,f,Option.getD_some]
    ·cases hr
   ·cases hr
 | .cell c t::rs,b,vs,tmps,hp,hE,hr=>by
   simp only[DK]at hp;split at hp
   ·rename_i n l hn hl;cases hp;simp only[bL]at hr;split at hr
    ·rename_i av hav;split at hr
     ·rename_i v hv;split at hr
      ·rename_i vs2 hvs;cases hr;obtain⟨a,i,j⟩:=sj d hl hE hvs;obtain⟨q,f,g⟩:=hE c av hav;obtain⟨r,o,k,rfl,m,p⟩:=Db (P:=P) d g hv;refine⟨k::a, .cons m i,?_⟩;simp only[List.mapM_cons,ey,PL,gR,b7,pt,f,Option.getD_some,asAddr,uZ hn,p,j]
      ·cases hr
     ·cases hr
    ·cases hr
   ·cases hp
theorem u0(j:R P μ h w){fn:Func}{b:List (Nat×Option (Option Nat))}{vs:List Value}{tmps:Array Value}(k:DK P fn.results.toList=some b)(i:cK μ e tmps)(hr:bL h e b=some vs):
 ∃v',VR μ (dO vs) v'∧(results fn tmps).run P w= .ok v' w:=by
 obtain⟨a,f,l⟩:=sj j k i hr;have m:=f.length;have d:(results fn tmps).run P w= .ok (if hh:a.toArray.size=1 then a.toArray[0]else .tuple a.toArray) w:=by
  have g:results fn tmps=(do let vs ←fn.results.mapM (PL tmps);pure (if h:vs.size=1 then vs[0]else .tuple vs)):=by
   unfold results;congr 2
  rw[g,Array.mapM_eq_mapM_toList];simp[l]
 refine⟨_,?_,d⟩;cases f with
 |nil=>simp[dO];exact VR.lI (c:= #[]) (c':= #[]) .nil
 |cons h1 h2=>
  cases h2 with
  |nil=>simpa[dO]using h1
  |cons h3 h4=>
   simp only[List.size_toArray,pm,show∀n:Nat,¬ (n+1+1=1)by omega,dite_false,dO];exact VR.lI (by simpa using LR.cons h1 (.cons h3 h4))
theorem R.shut(i:R P μ h w){r:Nat}{x:Option (List Deferred)}(hr:w.heap[r]? =some (.deferred x)):R P μ h {w with heap:=w.heap.setIfInBounds r (.deferred none)}:=by
 have m:∀b o k,h.get b=some o->o≠ .dead->μ b=some k->k.r≠r:=λb o k j n l e=>by
  have f:=i.obj b o j;cases o with
  |dead=>exact n rfl
  |cells vs own sz=>obtain⟨_,c,t,u,d,_⟩:=f k l;rw[e,hr]at d;cases d
  |map es=>obtain⟨_,_,d,_⟩:=f k l;rw[e,hr]at d;cases d
  |qX es=>obtain⟨_,_,d,_⟩:=f k l;rw[e,hr]at d;cases d
  |loop _ _ _ _ _ _=>obtain⟨_,d,_⟩:=f k l;rw[e,hr]at d;cases d
  |lN _ _=>have d:=(f k l).2;rw[e,hr]at d;cases d
 refine⟨i.big,λg o d p=> ?_,λb o j=> ?_,i.lt,λb k j=>⟨(i.dom b k j).1,by simpa using(i.dom b k j).2⟩,i.kT⟩
 ·obtain⟨k,a,b,c,x⟩:=i.lR g o d p;refine⟨k,a,b,c,λs q=>x.get ?_ s q⟩;have:=m g o k p (λe=>by subst e;cases q) a;simp[gy,Ne.symm this]
 by_cases n:o= .dead
 ·subst n;trivial
 ·exact OR.mono (λ_ _ h=>h) rfl (λk l=>by simp[gy,Ne.symm (m b o k j n l)]) (i.obj b o j)
theorem MK{r:Nat}(hr:w.heap[r]? =some (.deferred (some []))):(Instr.takeDeferred r).run P w= .ok [] {w with heap:=w.heap.setIfInBounds r (.deferred none)}:=by
 simp only[Instr.takeDeferred,ey,fO hr (by simp),b7];simp[setObj,Sem.run,hr]
theorem DR.shut{r:Nat}{d:Dfs}{ms:List Deferred}(e:DR μ h w lo d ms)(b:∀a as,({target:= .collected a,args:=as}:Deferred)∈ms->a<r):DR μ h {w with heap:=w.heap.setIfInBounds r (.deferred none)} lo d ms:=by
 induction e with
 |nil=>exact .nil
 |cons h1 h2 h3 _ ih=>exact .cons h1 h2 h3 (ih λa as c=>b a as (bz _ c))
 |mark h1 h0 h2 h3 _ ih=>
  rename_i r0 _ _ _;have f:r0<r:=b r0 #[] (by simp);exact .mark h1 h0 (by simp[gy,show¬r=r0 by omega,h2]) h3 (ih λa as c=>b a as (bz _ c))
theorem St.shut{μ0:Mu}{w0:World}(s:St μ0 c w0 μ h w){r:Nat}(hr:w0.heap.size<=r):St μ0 c w0 μ h {w with heap:=w.heap.setIfInBounds r (.deferred none)}:=
 ⟨s.ext,by simpa using s.le,λa b g=>by
  rw[←s.keep a b g];simp[gy,show¬r=a by omega],s.wr,λa L d=>by
  have f:=(Array.getElem?_eq_some_iff.1 d).1;obtain⟨e,i,j⟩:=s.loops a L d;exact⟨e,by simp[gy,show¬r=a by omega,i],j⟩,s.same.trans ⟨rfl,rfl,rfl,by first|exact bl _|exact qt _ _⟩⟩
variable{u:FrameMode}
theorem Mc{pan:Option Value}(a:Eg μ pan u):u≠ .run:=by
 cases pan with
 |none=>rw[show u= .returning from a];simp
 |some v=>obtain⟨b,_,rfl⟩:=a;simp
theorem zj.succ(H:ez P T)(Q:zj P T n)(t:sE P T n):zj P T (n+1):=by
 intro l K pan e h o X Z c p L μ w μ1 D m A u J G b s F E a;induction A generalizing D with
 |nil=>
  cases E;simp only[nE]at c;simp only[LeavesInM];split at c
  ·cases c;obtain⟨B,z,rfl⟩:=a;exact⟨μ1,⟨B,rfl,z⟩,b,s⟩
  ·split at c
   ·rename_i vs hvs;cases c;have:u= .returning:=a;subst this;obtain⟨B,z,j⟩:=u0 b J F hvs;obtain⟨μ2,M,N,O,_⟩:=Kk G b s p z;exact⟨B,j,μ2,N,M,O⟩
   ·cases c
 |cons d ms ih=>
  simp only[LeavesInM];refine⟨Mc a,?_⟩;cases E with
  |mark m1 m0 m2 m3 m4=>
   rename_i r;exact .inl ⟨r,_,rfl,MK m2,ih _ (b.shut m2) (s.shut m1) (m4.shut m0)⟩
  |cons c1 c2 c3 c4=>
   rename_i g first cap first' cap' args args' K
   simp only[nE]at c;split at c
   ·rename_i pan' h2 hq;have i:=(eO.all H.aF n).defer _ _ _ _ _ _ hq rfl;have S:o.next<=h2.next:=i.next
    have y:gw (T g)=false:=by
     cases n with
     |zero=>simp[jF]at hq
     |succ n=>
      simp only[jF]at hq;split at hq
      ·rename_i hTg;rw[hTg];rfl
      ·cases hq
    have f:LR μ1 (dP first.toList (dP args cap.toList)) (first'.toList++(args'++cap'.toList)):=by
     rw[dI,dI];exact c1.append (c3.append c2)
    refine .inr ⟨λq=>(by cases q), .func g,cap',g,(first'.toList++(args'++cap'.toList)).toArray,rfl,?_,λ_ _=>trivial,?_⟩
    ·have:(first'++args'.toArray)++cap'=(first'.toList++(args'++cap'.toList)).toArray:=by apply eD;simp
     simp only[invoke,this];exact jP H y _ _
    ·refine CallsDIn.mono (t _ _ _ _ _ _ hq rfl μ1 D _ u (b.congr rfl rfl) f a) λY u' C U=> ?_;obtain⟨v,μ',rfl,V,k,W⟩:=U;have k:St μ1 o D μ' h2 C:=k.pq rfl rfl;have I:=k.mono b;have x:St μ h w μ' ({h2 with log:=aB h.next o.log h2.log}:Heap) C:=(s.trans k p.next).ja rfl;exact Q _ _ _ _ _ _ _ _ c (p.trans (AS.call i p.next)) L μ w μ' C m ms _ J G (V.congr rfl rfl) x (F.mono I) ((c4.step k I).step (St.ja (h1:=h2) (.refl _ _ _) rfl) (λ_ _ h=>h)) W
   ·cases c
theorem tM.succ(D:ez P T)(J:mY P T n)(G:zj P T n):tM P T (n+1):=by
 intro f k h O S d L μ w a s g;simp only[iJ]at d;split at d
 ·cases d
 ·rename_i p hTf;split at d
  ·rename_i v q j;cases d;exact(D.lD f p k h v _ hTf j L).2 μ w a s g
  ·cases d
 ·rename_i code results hTf;have H:gw (T f)=false:=by rw[hTf];rfl
  rw[jP D H];obtain⟨o,N,K,b⟩:=D.code f code results hTf;unfold aM at b;split at b
  ·rename_i c hb;split at b
   ·cases b
   ·split at b
    ·rename_i ac rs hcomp hres;cases b;show CallsIn Fence.wide 0 P f a.toArray w _;refine callsIn_of_wp_marks (F:=Fence.wide) K hb trivial ?_;have l:=eO.all D.aF n
     have run:∀x r e q,cC T n h.next none code (dM 0 k) [] h=some (x,r,e,q)→
      c.wpIn (Fw none) 0 P (Post P μ h w w.heap.size (a.toArray++Array.replicate (o.ntmps-a.toArray.size) undef).size x r e q) {tmps:=a.toArray++Array.replicate (o.ntmps-a.toArray.size) undef,defers:=[]} w:=
      λx r e q j=>J _ _ _ _ _ _ _ _ _ _ j (bl _) c o.ntmps μ w ⟨_,[]⟩ none w.heap.size ⟨N,[],hcomp⟩ (by simp;omega) s (zU g _) .nil rfl (bl _)
     split at d
     ·rename_i v r e q j;have C:=l.exec _ _ _ _ _ _ _ _ _ _ j (bl _);refine ej (λB m E I=> ?_) (run _ _ _ _ j);obtain⟨μ',t,z,A,y,u,_⟩:=I;cases B<;>first|exact t.elim|skip
      obtain⟨Q,rfl,M⟩:=t;exact G _ _ _ _ _ _ _ _ d C o μ w μ' E m.tmps m.defers _ hres s z A y u ⟨Q,M,rfl⟩
     ·cases d
     ·rename_i x r e q hnp hne j;have C:=l.exec _ _ _ _ _ _ _ _ _ _ j (bl _);refine ej (λB m E I=> ?_) (run _ _ _ _ j);obtain⟨μ',t,z,A,y,u,_⟩:=I;cases x with
      |panic v=>exact(hnp v rfl).elim
      |exit i=>exact(hne i rfl).elim
      |normal=>
       cases B<;>first|exact t.elim|skip
       exact G _ _ _ _ _ _ _ _ d C o μ w μ' E m.tmps m.defers _ hres s z A y u rfl
      |ret=>
       cases B<;>first|exact t.elim|skip
       exact G _ _ _ _ _ _ _ _ d C o μ w μ' E m.tmps m.defers _ hres s z A y u rfl
     ·cases d
    ·cases b
  ·cases b
theorem vK.mono{μ':Mu}(e:∀b k,μ b=some k->μ' b=some k){pan:Option Value}{u:FrameMode}(a:vK μ pan u):vK μ' pan u:=by
 cases pan with
 |none=>exact a
 |some v=>obtain⟨f,c,d⟩:=a;exact⟨f,c.mono e,d⟩
theorem Pq{pan:Option Value}(a:Eg μ pan u):vK μ pan u:=by
 cases pan with
 |none=>exact .inl a
 |some v=>exact a
theorem uW{pan:Option Value}(a:vK μ pan u):Eg μ pan (settle u):=by
 cases pan with
 |none=>
  rcases a with rfl|⟨b,rfl⟩
  ·rfl
  ·rfl
 |some v=>obtain⟨b,c,rfl⟩:=a;exact⟨b,c,rfl⟩
def uE(P:Program)(μ0:Mu)(h0:Heap)(w0:World)(sz:Nat)(x:bk)(e':Env)(pan':Option Value)(h':Heap)(c0:Frame)(cs:List Frame):Exit->Act->List Frame->World->Prop:=λex a' cs' w'=>
 ∃μ' u',XR μ' x ex/\R P μ' h' w'∧St μ0 h0 w0 μ' h' w'∧cK μ' e' a'.tmps/\a'.defers=[]/\a'.tmps.size=sz/\cs'={c0 with mode:=u'}::cs/\vK μ' pan' u'
theorem uE.trans{μ0 μ1:Mu}{b h1:Heap}{w0 e:World}{sz:Nat}{x:bk}{e':Env}{pan':Option Value}{h':Heap}{c0:Frame}{cs:List Frame}(s:St μ0 b w0 μ1 h1 e)(f:b.next<=h1.next){d:Exit}{c:Act}{a:List Frame}{w':World}
 (g:uE P μ1 h1 e sz x e' pan' h' c0 cs d c a w'):uE P μ0 b w0 sz x e' pan' h' c0 cs d c a w':=by
 obtain⟨μ',l,h,i,j,k⟩:=g;exact⟨μ',l,h,i,s.trans j f,k⟩
theorem fD{F:Fence}{n:Nat}{ops:Array Oper}{Q c:Exit->Act->List Frame->World->Prop}(b:∀e a cs w,Q e a cs w->c e a cs w):∀(l:List Nat) (a:Act) (cs:List Frame) (w:World),wpOpsSIn F n P ops Q l a cs w->wpOpsSIn F n P ops c l a cs w
 |[],_,_,_,h=>b _ _ _ _ h
 |i::l,a,cs,w,h=>by
  simp only[wpOpsSIn]at h⊢;split at h
  ·exact fD b l _ _ _ h
  ·obtain⟨h0,h⟩:=h;refine⟨h0,?_⟩;split at h
   ·rename_i hw;rw[if_pos hw];split at h
    ·split at h
     ·exact fD b l _ _ _ h
     ·exact fD b l _ _ _ h
    ·exact fD b l _ _ _ h
    ·exact fD b l _ _ _ h
    ·exact b _ _ _ _ h
    ·exact h.elim
   ·rename_i hw;rw[if_neg hw];exact fD b l _ _ _ h
theorem om{c:Code}{cs:List Frame}{Q f:Exit->Act->List Frame->World->Prop}(j:∀e a cs w,Q e a cs w->f e a cs w)(h:c.wpSIn F n P Q a cs w):c.wpSIn F n P f a cs w:=
 λb k i m g d=>let⟨e,a',cs',w',l,q,r⟩:=h b k i m g d;⟨e,a',cs',w',l,j _ _ _ _ q,r⟩
theorem tO.succ(hT:ez P T)(V:tO P T n):tO P T (n+1):=by
 intro base as e pan h x y d z f I ops i nt μ w a c0 k u hi l m t p A b;cases as with
 |nil=>
  simp only[iO]at f;cases f;have W:ops.toList.drop i=[]:=by
   cases hq:ops.toList.drop i with
   |nil=>rfl
   |cons o os=>
    rw[hq]at l;simp only[cB]at l;repeat' split at l
    all_goals cases l
  have:ops.size<=i:=by
   have:=List.drop_eq_nil_iff.1 W;simpa using this
  rw[show ops.size-i=0 by omega];exact⟨μ,u,trivial,t, .refl _ _ _,p,A,rfl,rfl,b⟩
 |cons ao as=>
  cases hdr:ops.toList.drop i with
  |nil=>rw[hdr]at l;simp[cB]at l
  |cons o os=>
   rw[hdr]at l;obtain⟨D,C,B⟩:=zF hdr;obtain⟨F,G,O,Q,_⟩:=iD l;rw[DH D];simp only[iO]at f;simp only[wpOpsSIn,C];rw[←B]at Q
   have H:∀{μ1:Mu} {q:Heap} {E:World} {s:Act} {L:Env} {j:Option Value} {K:FrameMode},iO T n base as L j q=some (x,y,d,z)->base<=q.next->h.next<=q.next->s.tmps.size=a.tmps.size->R P μ1 q E->St μ h w μ1 q E→
    cK μ1 L s.tmps->s.defers=[]->vK μ1 j K->wpOpsSIn Fence.wide 0 P ops (uE P μ h w a.tmps.size x y d z c0 k) (List.range' (i+1) (ops.size-(i+1))) s ({c0 with mode:=K}::k) E:=by
    intro μ1 q E s L j K M N J Z k5 k6 k7 k8 k9;have:=V _ _ _ _ _ _ _ _ _ M N ops (i+1) nt μ1 E s c0 k K D Q (by omega) k5 k7 k8 k9;rw[Z]at this;exact fD (λ_ _ _ _ X=>uE.trans (x:=x) (e':=y) (pan':=d) (h':=z) (c0:=c0) (cs:=k) k6 J X) _ _ _ _ this
   refine⟨λ_ _=>trivial,?_⟩;split at f
   ·rename_i hw;rw[oO l p hw];simp only[rc,if_false];refine H f I (bl _) (dK _ _ _) t (.refl _ _ _) ?_ ?_ b
    ·rw[G];exact p.put F m (VR.cE (v:=undef) rfl).1
    ·rw[put_defers];exact A
   ·rename_i hw;rw[oO l p hw];simp only[if_true];split at f
    ·rename_i v q hq;have S:=oZ hq;obtain⟨μ',r,w',c,M,N,J,_⟩:=Gk t p O hq;have U:=J.mono t;have fin:wpOpsSIn Fence.wide 0 P ops (uE P μ h w a.tmps.size x y d z c0 k) (List.range' (i+1) (ops.size-(i+1))) (a.put o.dst r) ({c0 with mode:=u}::k) w':=by
      refine H f (gd I S.next) S.next (dK _ _ _) N J ?_ ?_ (b.mono U)
      ·rw[G];exact(p.mono U).put F m M
      ·rw[put_defers];exact A
     rcases c with c|⟨c,rfl⟩
     ·rw[c];exact fin
     ·rw[c];exact fin
    ·rename_i hq;rw[ER O hq];simp only;split at f
     ·rename_i v;obtain⟨r,Y,rfl⟩:=b;have g:recoverD ({c0 with mode:= .panicking [{v:=r,recovered:=false}]}::k)=some (r,{c0 with mode:= .panicking [{v:=r,recovered:=true}]}::k):=rfl;rw[g];refine H f I (bl _) (dK _ _ _) t (.refl _ _ _) ?_ ?_ (.inr ⟨r,rfl⟩)
      ·rw[G];exact p.put F m Y
      ·rw[put_defers];exact A
     ·have g:recoverD ({c0 with mode:=u}::k)=none:=by
       rcases b with rfl|⟨r,rfl⟩<;>rfl
      rw[g];refine H f I (bl _) (dK _ _ _) t (.refl _ _ _) ?_ ?_ b
      ·rw[G];exact p.put F m .nilIface
      ·rw[put_defers];exact A
    ·cases f
   ·cases f
theorem qm.succ(hT:ez P T)(F:qm P T n)(hO:tO P T n):qm P T (n+1):=by
 intro base Z e pan h x B f C i A c D μ w a c0 k u G j m d s b;have hA:=eO.all hT.aF n;cases Z<;>simp only[gH]at i<;>(try (cases i;done))
 case skip=>
  have L:c= .skip∨∃l,c= .label l:=G.inv;cases i;rcases L with rfl|⟨l,rfl⟩
  ·exact wpSIn_of_wpIn rfl (wpIn_skip ⟨μ,u,trivial,m, .refl _ _ _,d,s,rfl,rfl,b⟩)
  ·exact wpSIn_of_wpIn rfl (wpIn_label ⟨μ,u,trivial,m, .refl _ _ _,d,s,rfl,rfl,b⟩)
 case ret=>
  have:c= .ret:=G.inv;subst this;cases i;exact wpSIn_of_wpIn rfl (wpIn_ret ⟨μ,u,trivial,m, .refl _ _ _,d,s,rfl,rfl,b⟩)
 case region as keep=>
  obtain⟨id,ops,rfl,M⟩:=G.inv;refine wpSIn_region ?_;have run:∀x B f C,iO T n base as e pan h=some (x,B,f,C)->wpOpsSIn Fence.wide 0 P ops (uE P μ h w a.tmps.size x B f C c0 k) (List.range ops.size) a ({c0 with mode:=u}::k) w:=λx B f C r=>by
   have:=hO _ _ _ _ _ _ _ _ _ r A ops 0 D μ w a c0 k u (md _) (by simpa using M) j m d s b;rw[Nat.sub_zero,←List.range_eq_range']at this;exact this
  split at i
  ·rename_i r;cases i;refine fD (λ_ _ _ _ v=> ?_) _ _ _ _ (run _ _ _ _ r);obtain⟨μ',I,q1,O,Q,S,U⟩:=v;exact⟨μ',I,q1,O,Q,S.keep keep,U⟩
  ·exact run _ _ _ _ i
 case seq p q=>
  obtain⟨y,z,rfl,H,N⟩:=G.inv;refine wpSIn_seq ?_;split at i
  ·rename_i e1 pan1 h2 r;have E:=hA.gp _ _ _ _ _ _ _ _ _ r A;refine om (λK W J Y v=> ?_) (F _ _ _ _ _ _ _ _ _ r A y D μ w a c0 k u H j m d s b);obtain⟨μ',I,V,O,Q,S,U,q6,rfl,q8⟩:=v;cases K<;>first|exact V.elim|skip
   have:=F _ _ _ _ _ _ _ _ _ i (gd A E.next) z D μ' Y W c0 k I N (by omega) O S U q8;rw[q6]at this;exact om (λ_ _ _ _ v=>uE.trans (x:=x) (e':=B) (pan':=f) (h':=C) (c0:=c0) (cs:=k) Q E.next v) this
  ·rename_i hne;refine om (λK W J Y v=> ?_) (F _ _ _ _ _ _ _ _ _ i A y D μ w a c0 k u H j m d s b);cases K with
   |normal=>
    obtain⟨μ',I,V,_⟩:=v;cases x<;>first|exact V.elim|skip
    exact(hne _ _ _ i).elim
   |_=>exact v
 case cond o p q=>
  obtain⟨y,z,rfl,X,H,N⟩:=G.inv;split at i
  ·rename_i r;have g:=bW m d X r;generalize hev:a.eval o=ov at g;cases g;exact wpSIn_cond (t:=true) hev (F _ _ _ _ _ _ _ _ _ i A y D μ w a c0 k u H j m d s b)
  ·rename_i r;have g:=bW m d X r;generalize hev:a.eval o=ov at g;cases g;exact wpSIn_cond (t:=false) hev (F _ _ _ _ _ _ _ _ _ i A z D μ w a c0 k u N j m d s b)
  ·cases i
theorem sE.succ(J:ez P T)(H:qm P T n):sE P T (n+1):=by
 intro g j pan h e U f V μ w b u I i k;simp only[jF]at f;split at f
 ·rename_i code hTg;obtain⟨y,O,K,a⟩:=J.code g code [] hTg;unfold aM at a;split at a
  ·rename_i c hb;split at a
   ·cases a
   ·split at a
    ·rename_i ac rs hcomp hres;cases a;have run:∀x s m,gH T n h.next code (dM 0 j) pan h=some (x,s,e,m)->(x= .normal∨x= .ret)->CallsDIn Fence.wide 0 P g b.toArray u w λG o r=>∃v μ',G= .returned v/\R P μ' m r∧St μ h w μ' m r∧Eg μ' e (settle o):=λx s m l N=>by
      refine callsDIn_of_wpSIn (F:=Fence.wide) K hb trivial λc0 D M=> ?_;have hc0:({c0 with mode:=u}:Frame)=c0:=by subst M;rfl
      have:=H _ _ _ _ _ _ _ _ _ l (bl _) c y.ntmps μ w ⟨b.toArray++Array.replicate (y.ntmps-b.toArray.size) undef,[]⟩ c0 D u ⟨O,[],hcomp⟩ (by simp;omega) I (zU i _) rfl (Pq k);rw[hc0]at this;refine om (λt S E r L=> ?_) this;obtain⟨μ',o,C,q,z,Q,A,X,rfl,B⟩:=L;obtain⟨p,W,d⟩:=u0 q hres Q (vs:=[]) rfl;rcases N with rfl|rfl
      ·cases t<;>first|exact C.elim|skip
       exact⟨A,o,rfl,p,d,p,μ',rfl,q,z,uW B⟩
      ·cases t<;>first|exact C.elim|skip
       exact⟨A,o,rfl,p,d,p,μ',rfl,q,z,uW B⟩
     split at f
     ·rename_i l;cases f;exact run _ _ _ l (.inl rfl)
     ·rename_i l;cases f;exact run _ _ _ l (.inr rfl)
     ·cases f
    ·cases a
  ·cases a
 ·cases f
theorem vu{x:Operand}(a:mF [x]=true):ev h e x=ev h' e x:=by
 cases x<;>first|rfl|simp[mF]at a
theorem uU{x:Operand}{l:List Operand}(a:mF (x::l)=true):mF [x]=true/\mF l=true:=by
 cases x<;>simp[mF]at a⊢ <;>exact a
theorem wA{h h':Heap}:∀{ps:List (Nat×Nat×Operand)} {z:List Value},mF (ps.map (·.2.2))=true->je h e z ps=je h' e z ps
 |[],_,_=>rfl
 |(o,s,x)::ps,z,hx=>by
  obtain⟨h1,h2⟩:=uU hx;simp only[je,vu (h:=h) (h':=h') h1];split
  ·rw[wA h2]
  ·rfl
variable{b:Nat}
theorem By{l:List Value}{c:Array Value}{el:TypeId}(h:w'.heap=w.heap.push (.cells c el))(a:LR μ l c.toList)(g:∀b k,μ b=some k->μ' b=some k)(hb:μ' b=some ⟨w.heap.size,0,c.size,sz⟩):
 OR P μ' w' b (.cells l true sz):=by
 intro k e;rw[hb]at e;cases e;have f:l.length=c.size:=by rw[a.length];simp
 refine⟨rfl,c,el,(0,0),by rw[h];simp,by simp only;omega,bl _,λi d=> ?_,λ_=>⟨rfl,rfl,λj _=>by simp⟩⟩;have:=(a.gv i d).mono g;refine⟨_,?_,this⟩;have q:=rI (l:=c.toList) (i:=i) (by rw[←a.length];exact d);simpa using q
def FM(P:Program)(o:Oper)(er:Env)(b:Nat)(v:Value)(obj:bM):Prop:=
 obj.live=true/\obj.ro=false/\∀(μ:Mu) (hc:Heap) (w:World) (a:Act),R P μ hc w->cK μ er a.tmps->∃v' mobj w' k,(execOp a.eval o).run P w= .ok (.value v') w'∧Same w w'∧w'.heap=w.heap.push mobj/\k.r=w.heap.size∧
  ∀μ':Mu,(∀b k,μ b=some k->μ' b=some k)->μ' b=some k->VR μ' v v'∧OR P μ' w' b obj
theorem OM{I:AOp}{E:Env}(A:dF I=true)(b:gO P o.op=some I)(d:aop h base E I=some (.val v h1)):∃obj,h1=h.push obj/\FM P o E h.next v obj:=by
 unfold gO at b;split at b
 ·rename_i hall;cases hop:o.op<;>rw[hop]at b hall<;>(try dsimp only at b)<;>(try (cases b;done))
  case alloc t=>
   split at b
   ·rename_i z D;split at b
    ·rename_i hs;cases b;cases d;refine⟨_,rfl,rfl,rfl,λμ b w a u m=> ?_⟩;have S:LR μ (cellsOf z) z.cells.toList:=BS hs;refine⟨.pointer (some ⟨w.heap.size,0,none⟩), .cells z.cells t,{w with heap:=w.heap.push (.cells z.cells t)},⟨w.heap.size,0,z.cells.size,1⟩,?_,⟨rfl,rfl,rfl,by first|exact bl _|exact qt _ _⟩,rfl,rfl,λμ' y e=>⟨VR.ptr (o:=0) e,By rfl S y e⟩⟩;simp[execOp,hop,Instr.alloc,dS D,newVar,ig]
    ·cases b
   ·cases b
  case box t x=>
   cases b;obtain⟨xv,Z,hh⟩:=aA d;cases hh;refine⟨_,rfl,rfl,rfl,λμ b w a u m=> ?_⟩;have H:ev b E x=some xv:=by rw[←vu (h:=h) (h':=b) A];exact Z
   have hx:aH P x=true:=by simpa[Op.operands]using hall
   have S:LR μ (cellsOf xv) (a.eval x).cells.toList:=sQ (bW u m hx H);refine⟨.pointer (some ⟨w.heap.size,0,none⟩), .cells (a.eval x).cells t,{w with heap:=w.heap.push (.cells (a.eval x).cells t)},⟨w.heap.size,0,(a.eval x).cells.size,1⟩,?_,⟨rfl,rfl,rfl,by first|exact bl _|exact qt _ _⟩,rfl,rfl,λμ' y e=>⟨VR.ptr (o:=0) e,By rfl S y e⟩⟩;simp[execOp,hop,Instr.box,newVar,ig]
  case makeMap t r=>
   have ar:∀(J:Option Value),(J=none∨∃k n kt el,J=some (.int k n)/\P.underlying t=some (.map kt el))->∀w:World,(Instr.makeMap t J).run P w= .ok (.map (some w.heap.size)) {w with heap:=w.heap.push (.map #[] 0)}:=λJ X w=>by
    rcases X with rfl|⟨k,n,kt,el,rfl,hd⟩
    ·simp[Instr.makeMap,newObj,Sem.run]
    ·simp only[Instr.makeMap,ey,run_underlying hd,b7];simp[asInt,asIntOf,newObj,Sem.run]
   have fin:I= .mkMap->(∀a:Act,(r.map a.eval)=none∨∃k n kt el,(r.map a.eval)=some (.int k n)/\P.underlying t=some (.map kt el))->∃obj,h1=h.push obj/\FM P o E h.next v obj:=λN X=>by
    subst N;cases d;refine⟨_,rfl,rfl,rfl,λμ b w a u m=> ?_⟩;refine⟨.map (some w.heap.size), .map #[] 0,{w with heap:=w.heap.push (.map #[] 0)},⟨w.heap.size,0,0,0⟩,?_,⟨rfl,rfl,rfl,by first|exact bl _|exact qt _ _⟩,rfl,rfl,λμ' y e=>⟨VR.map e,λk hk=> ?_⟩⟩
    ·simp[execOp,hop,ar _ (X a)]
    ·rw[e]at hk;cases hk;exact⟨#[],0,by simp, .nil,List.nodup_nil,λn A=>by cases A⟩
   cases r with
   |none=>exact fin (by cases b;rfl) λa=> .inl rfl
   |some r=>
    cases r<;>(try dsimp only at b)<;>(try (cases b;done))
    rename_i c;cases c<;>(try dsimp only at b)<;>(try (cases b;done))
    rename_i k n;split at b
    ·rename_i kt el hd;exact fin (by cases b;rfl) λa=> .inr ⟨k,n,kt,el,rfl,hd⟩
    ·cases b
  case buildSlice t n ps=>
   have W:∀p∈ps.toList,aH P p.2=true:=λp hp=>List.all_eq_true.1 hall p.2 (by simpa[Op.operands]using⟨p.1,by simpa using hp⟩);split at b
   ·rename_i el hd;split at b
    ·rename_i s z hs D;split at b
     ·rename_i hcc;obtain⟨qs,hq,rfl⟩:=ew b;simp only[aop]at d;split at d
      ·rename_i cs hcs;cases d;refine⟨_,rfl,rfl,rfl,λμ b w a u m=> ?_⟩;have ae:z.cells.size=s:=by rw[Ed,←bX];exact hcc.2.1
       have g:LR μ (eW n (cellsOf z)) ((Array.range (n*s)).map (z.cells[· % z.cells.size]!)).toList:=by
        have:=xW (μ:=μ) hcc.2.2.2 n;rw[ae]at this⊢;exact this
       have F:je b E (eW n (cellsOf z)) qs=some cs:=by rw[←wA (h:=h) (h':=b) A];exact hcs
       obtain⟨C,M,g2⟩:=vw u m W hq g F;have V:n<UNK:=by
        have:=Nat.le_mul_of_pos_right n (tx hcc.2.2.1);have:=hcc.1;unfold UNK;omega
       refine⟨.slice (some ⟨w.heap.size,0,none⟩) n n, .cells C el,{w with heap:=w.heap.push (.cells C el)},⟨w.heap.size,0,C.size,cF (cellsOf z)⟩,?_,⟨rfl,rfl,rfl,by first|exact bl _|exact qt _ _⟩,rfl,rfl,λμ' y e=>⟨VR.slice (o:=0) e V (bl _),By rfl g2 y e⟩⟩;simp only[execOp,hop,ey];have aw:=hcc.1;simp only[Instr.buildSlice,ey,run_underlying hd,b7,run_sizeOf hs,if_neg (show¬n*s>2 ^ 24 by omega),uf];by_cases h0:n*s=0
       ·rw[if_pos h0];have:n=0:=by
         rcases Nat.mul_eq_zero.1 h0 with h|h
         ·exact h
         ·exact absurd h hcc.2.2.1
        subst this;simp only[vx,show Array.range 0= #[]from rfl,Array.map_empty]at M;simp only[vx,show Array.range 0= #[]from rfl,Array.map_empty,gR,b7,M,ey,ig]
       ·rw[if_neg h0];simp only[ey,dS D,b7,gR,M,ig]
      ·cases d
     ·cases b
    ·cases b
   ·cases b
  case makeSlice t l c=>
   split at b
   ·rename_i el hd;split at b
    ·rename_i s z bytes hs D hby;split at b
     ·rename_i hcc;cases b;simp only[dF]at A;obtain⟨T,U⟩:=uU A;simp only[aop]at d;split at d
      ·rename_i lv cv hlv hcv;split at d
       ·rename_i ln cn hln hcn;simp only[ble_eq,blt_eq,cond_eq_ite,ed,decide_eq_true_eq]at d;split at d
        ·rename_i hcond;obtain⟨⟨c1,c2⟩,c3⟩:=hcond;cases d;refine⟨_,rfl,rfl,rfl,λμ b w a u m=> ?_⟩;have f:aH P l=true/\aH P c=true:=by simpa[Op.operands]using hall
         obtain⟨kl,L⟩:=nO (bW u m f.1 (by rw[←vu (h:=h) (h':=b) T];exact hlv)) hln;obtain⟨kc,K⟩:=nO (bW u m f.2 (by rw[←vu (h:=h) (h':=b) U];exact hcv)) hcn;obtain⟨i,Q,D⟩:=nY D;have Y:i.size=s:=by
          obtain⟨j,G,q⟩:=qQ hs;rw[Q]at G;cases G;exact q
         have O:i.bytes=bytes:=by
          simp only[j5,rg]at hby;obtain⟨j,G,q⟩:=hby;rw[Q]at G;cases G;exact q
         have B:z.cells.size=s:=by rw[Ed,←bX];exact hcc.1
         have g:LR μ (eW cn (cellsOf z)) (madeCells z.cells ((cn:Int).toNat*i.size)).toList:=by
          have:=xW (μ:=μ) hcc.2.2 cn;rw[B]at this;unfold madeCells;rw[B,Y,wy];exact this
         refine⟨.slice (some ⟨w.heap.size,0,none⟩) ln cn, .cells (madeCells z.cells ((cn:Int).toNat*i.size)) el,{w with heap:=w.heap.push (.cells (madeCells z.cells ((cn:Int).toNat*i.size)) el)},⟨w.heap.size,0,(madeCells z.cells ((cn:Int).toNat*i.size)).size,cF (cellsOf z)⟩,?_,⟨rfl,rfl,rfl,by first|exact bl _|exact qt _ _⟩,rfl,rfl,λμ' y e=>⟨VR.slice (o:=0) e c3 c1,By rfl g y e⟩⟩;simp only[execOp,hop,L,K];simp only[ey];rw[run_make w t el i z hd Q D kl kc ln cn (by omega) (by omega) (by rw[O,←Int.natCast_mul];omega) (by unfold UNK at c3;omega)];rfl
        ·cases d
       ·cases d
      ·cases d
     ·cases b
    ·cases b
   ·cases b
  all_goals
   exfalso;repeat' split at b
   all_goals first
    |contradiction
    |(cases b;done)
    |(cases b;simp[dF]at A;done)
    |(obtain⟨_,_,rfl⟩:=ew b;simp[dF]at A;done)
 ·cases b
theorem R.late(d:R P μ h w){v:Obj}{o:bM}(t:w'.heap=w.heap.push v)(J:k.r=w.heap.size)(hb:h.get b=some o)(s:μ b=none)(B:P.globals.size<=b)(ho:OR P (upd μ b k) w' b o):
 R P (upd μ b k) h w':=by
 have y:∀c i,μ c=some i→upd μ b k c=some i:=λc i a=>by
  unfold upd;rw[if_neg];exact a;intro e;subst e;rw[s]at a;cases a
 have K:=size_push t;refine⟨d.big,λg q A C=> ?_,λc q a=> ?_,d.lt,λc i a=> ?_,λc m H I u E l a n F G j f D=> ?_⟩
 ·obtain⟨u,z,x⟩:=d.lR g q A C;exact⟨u,y _ _ z,x.1,x.2.1,x.2.2.get (fk t _ (d.dom _ _ z).2)⟩
 ·by_cases e:c=b
  ·subst e;rw[hb]at a;cases a;exact ho
  ·exact OR.mono y (by unfold upd;rw[if_neg e]) (λi p=>fk t _ (d.dom _ _ p).2) (d.obj c q a)
 ·unfold upd at a;split at a
  ·rename_i e;subst e;cases a;exact⟨d.lt _ o hb,by omega⟩
  ·have:=d.dom c i a;exact⟨this.1,by omega⟩
 ·unfold upd at j f;by_cases e1:c=b
  ·rw[if_pos e1]at j;cases j;by_cases e2:m=b
   ·exact absurd (e1.trans e2.symm) l
   ·rw[if_neg e2]at f;have:=(d.dom _ _ f).2;omega
  ·rw[if_neg e1]at j;by_cases e2:m=b
   ·rw[if_pos e2]at f;cases f;have:=(d.dom _ _ j).2;omega
   ·rw[if_neg e2]at f;exact d.kT c m H I u E l a n F G j f D
theorem St.late{μ0:Mu}{d:Heap}{w0:World}(s:St μ0 d w0 μ h w){j:Obj}(g:w'.heap=w.heap.push j)(D:k.r=w.heap.size)(hb:d.next<=b)(y:μ b=none)(f:Same w w'):St μ0 d w0 (upd μ b k) h w':=by
 have E:=size_push g;have v:=s.le;refine⟨λx A=> ?_,by omega,λr e z=> ?_,λr e i=> ?_,λr L u=> ?_,s.same.trans f⟩
 ·unfold upd;rw[if_neg (by omega)];exact s.ext x A
 ·rw[fk g r (by omega)];exact s.keep r e z
 ·obtain⟨c,o,B,n,p,q,a,t⟩:=i;unfold upd at a;split at a
  ·cases a;omega
  ·exact s.wr r e ⟨c,o,B,n,p,q,a,t⟩
 ·obtain⟨m,l,C⟩:=s.loops r L u;exact⟨m,(fk g r (Array.getElem?_eq_some_iff.1 l).1).trans l,C⟩
theorem kH{nt:Nat}{ops:Array Oper}:∀{l:List Oper} {as:List aP},cB P nt ops l=some as->as.length=l.length/\∀(i:Nat) (o:Oper),l[i]? =some o->∃ao:aP,as[i]? =some ao/\lJ nt o.dst=true/\ao.dst=o.dst/\gO P o.op=some ao.op∧
 ∀{e:Env} {μ:Mu} {t:Array Value} {b:Bool},(∀s b0,ao.guard=some (s,b0)->∀v,geT e s=some v->∃v',t[s]? =some v'∧VR μ v v')->bA e ao.guard=some b->Region.wanted o (yielded ops t)=b
 |[],as,h=>by
  cases h;exact⟨rfl,λi o a=>by simp at a⟩
 |o::os,as,h=>by
  cases as with
  |nil=>
   simp only[cB]at h;repeat' split at h
   all_goals cases h
  |cons ao as=>
   obtain⟨c1,c2,c3,c4,c5⟩:=iD h;obtain⟨f,g⟩:=kH c4;refine⟨by simp[f],λi j a=> ?_⟩;cases i with
   |zero=>simp at a;subst a;exact⟨ao,rfl,c1,c2,c3,λ{e μ t b} c d=>c5 c d⟩
   |succ i=>simpa using g i j (by simpa using a)
theorem jh:∀{l:List Nat} {n:Nat},fF l n=true↔n∈l
 |[],n=>by simp[fF]
 |x::l,n=>by
  rw[mb];simp only[oB,decide_eq_true_eq,ui,jh];exact⟨λh=>h.imp Eq.symm id,λh=>h.imp Eq.symm id⟩
structure Stat (as:List aP) (ops:List Oper) (bf:List Nat):Prop where
 slots:∀(j p:Nat) (aj ap:aP) (t:Nat),as[j]? =some aj->as[p]? =some ap->t∈cA aj->ap.dst=some t->p∈jt ops j∨∃m:Nat,bf[p]? =some m/\Nat.testBit m j=true
 RP:∀(j p:Nat) (aj ap:aP) (t:Nat),as[j]? =some aj->as[p]? =some ap->aj.dst=some t->ap.dst=some t->j=p
 masks:∀(i p m:Nat),i<ops.length->p<ops.length->bf[i]? =some m->Nat.testBit m p=true->∃q∈jt ops i,p=q∨∃mq:Nat,bf[q]? =some mq/\Nat.testBit mq p=true
 EI:∀(i:Nat) (ai:aP),as[i]? =some ai->∀f l,ai.op≠ .jI f l
theorem Cw{as:List aP}{ops:List Oper}{a bf:List Nat}(k:as.length=ops.length)(h:wm as ops a bf=true):
 a.length=ops.length/\(∀i∈a,i<ops.length)/\(∀i,i<ops.length->i∈a)/\topoOk as ops [] a=true/\Stat as ops bf:=by
 unfold wm at h;simp only[ed,beq_eq,decide_eq_true_eq]at h;obtain⟨⟨⟨⟨⟨⟨⟨y,z⟩,A⟩,B⟩,C⟩,D⟩,E⟩,F⟩:=h;refine⟨y,λi e=>by simpa[ub]using List.all_eq_true.1 z i e,λi e=>jh.1 (List.all_eq_true.1 A i (by simpa using e)),B,⟨λj p v w t g c I o=> ?_,λj p v w t g c o r=> ?_,λi p m e c s G=> ?_,λi u n f l H=> ?_⟩⟩
 ·have b:j<ops.length:=by rw[←k];exact(List.getElem?_eq_some_iff.1 g).1
  have d:p<ops.length:=by rw[←k];exact(List.getElem?_eq_some_iff.1 c).1
  have q:=List.all_eq_true.1 C j (by simpa using b);rw[cH,g]at q;have q:=List.all_eq_true.1 q t I;have q:=List.all_eq_true.1 q p (by simpa using d);rw[cH,c]at q;simp only[o,oB,Bool.not_eq_true',beq_eq_false_iff_ne,ne_eq,not_true_eq_false,false_or]at q;refine q.imp jh.1 λq=> ?_;rw[cH]at q;split at q
  ·rename_i m s;exact⟨m,s,q⟩
  ·cases q
 ·have b:j<ops.length:=by rw[←k];exact(List.getElem?_eq_some_iff.1 g).1
  have d:p<ops.length:=by rw[←k];exact(List.getElem?_eq_some_iff.1 c).1
  have q:=List.all_eq_true.1 D j (by simpa using b);have q:=List.all_eq_true.1 q p (by simpa using d);rw[cH,cH,g,c]at q;simp[o,r]at q;exact q
 ·have q:=List.all_eq_true.1 E i (by simpa using e);have q:=List.all_eq_true.1 q p (by simpa using c);rw[cH,s]at q;simp only[G,Bool.not_true,xc,List.any_eq_true,oB,beq_eq,decide_eq_true_eq]at q;obtain⟨x,J,q⟩:=q;refine⟨x,J,q.imp id λq=> ?_⟩;rw[cH]at q;split at q
  ·rename_i mq hmq;exact⟨mq,hmq,q⟩
  ·cases q
 ·have q:=List.all_eq_true.1 F u (eA n);rw[H]at q;cases q
theorem topo_cons{as:List aP}{ops:List Oper}{done is:List Nat}{i:Nat}(h:topoOk as ops done (i::is)=true):(∀p∈jt ops i,p∈done)/\i ∉ done/\topoOk as ops (i::done) is=true∧
 ∃ai:aP,as[i]? =some ai/\(jb ai.op=true∨∀j∈is,∃p∈jt ops j,p∈i::is):=by
 simp only[topoOk,ed]at h;obtain⟨⟨⟨d,c⟩,a⟩,e⟩:=h;refine⟨λp b=>jh.1 (List.all_eq_true.1 d p b),λf=> ?_,e,?_⟩
 ·rw[jh.2 f]at c;cases c
 ·rw[cH]at a;split at a
  ·rename_i ai hai;refine⟨ai,hai,?_⟩;simp only[oB,zFS,List.any_eq_true]at a;exact a.imp id λq j g=>let⟨p,b,hq⟩:=q j g;⟨p,b,jh.1 hq⟩
  ·cases a
theorem eZ{ops:Array Oper}{a:Array Bool}{i:Nat}(hi:i∈Region.ready .any ops a):i<ops.size/\a.getD i true=false/\∀p∈jt ops.toList i,a.getD p false=true:=by
 simp only[Region.ready,List.mem_filter,List.mem_range,ed,Bool.not_eq_true']at hi;obtain⟨e,f,c⟩:=hi;refine⟨e,f,λp b=> ?_⟩;simp only[jt,cH,Cl]at b;cases ho:ops[i]? with
 |none=>rw[ho]at b;cases b
 |some o=>
  rw[ho]at b c;simp only[EX,List.mem_map,List.mem_filter,Array.mem_toList_iff]at b;obtain⟨d,⟨h,g⟩,rfl⟩:=b;simp only[xP,Option.getD_some,Array.all_eq_true_iff_forall_mem]at c;have:=c d h;simpa[g]using this
def Lst(listed:Array Bool)(i:Nat):Prop:=listed.getD i false=true
structure TU (P:Program) (ops:Array Oper) (as:List aP) (base:Nat) (h0:Heap) (listed:Array Bool) (μ:Mu) (a:Act) (done:List Nat) (rs:List Rec) (e:Env) (h:Heap) (r:Rec):Prop where
 done:r.i∈done
 op:as[r.i]? =some r.o
 env:∀t v,geT r.e t=some v->t∈cA r.o/\(¬Lst listed r.i->(∃r'∈rs,¬Lst listed r'.i/\r'.o.dst=some t/\r'.v=v/\r'.i∈jt ops.toList r.i)∨
  ((∀(p:Nat) (ap:aP),as[p]? =some ap->ap.dst=some t->p∈jt ops.toList r.i->Lst listed p)/\∃v',a.tmps[t]? =some v'∧VR μ v v'))
 dst:∀t,r.o.dst=some t->geT e t=some r.v
 kind:match r.k with
  | .skip=>bA r.e r.o.guard=some false/\r.v=undef
  | .quiet=>bA r.e r.o.guard=some true/\(∀f l,r.o.op≠ .jI f l)/\cQ r.o.op=true/\aop h base r.e r.o.op=some (.val r.v h)
  | .made b=>bA r.e r.o.guard=some true/\(∀f l,r.o.op≠ .jI f l)/\∃obj o,ops[r.i]? =some o/\h.get b=some obj/\FM P o r.e b r.v obj/\h0.next<=b/\(¬Lst listed r.i->μ b=none)
structure Inv (P:Program) (ops:Array Oper) (as:List aP) (bf:List Nat) (base:Nat) (μ0:Mu) (h0:Heap) (w0:World) (a0:Act) (listed:Array Bool) (μ:Mu) (a:Act) (w:World) (done is:List Nat) (rs:List Rec) (e:Env) (h:Heap):Prop where
 size:listed.size=ops.size
 sub:∀i,Lst listed i->i∈done
 ME:∀i,i∈done->¬Lst listed i->∃r∈rs,r.i=i
 Df:∀(i m p:Nat),Lst listed i->bf[i]? =some m->p<ops.size->Nat.testBit m p=true->Lst listed p
 topo:topoOk as ops.toList done is=true
 closed:∀j∈done,∀p∈jt ops.toList j,p∈done
 zN:∀(j m p:Nat),j∈done->bf[j]? =some m->p<ops.size->Nat.testBit m p=true->p∈done
 lt:∀i,i∈done->i<ops.size
 all:∀i,i<ops.size->i∈done∨i∈is
 y6:∀i,i∈is->i<ops.size
 p8:∀r∈rs,TU P ops as base h0 listed μ a done rs e h r
 alone:∀r∈rs,∀r'∈rs,∀b,r.k= .made b->r'.k= .made b->r.i=r'.i
 rel:R P μ h w
 st:St μ0 h0 w0 μ h w
 nx0:h0.next<=h.next
 nxb:base<=h.next
 big:P.globals.size<=h0.next
 env:∀t v,geT e t=some v->(∃r∈rs,¬Lst listed r.i/\r.o.dst=some t)∨∃v',a.tmps[t]? =some v'∧VR μ v v'
 tm:a.tmps.size=a0.tmps.size
 df:a.defers=a0.defers
variable {ops:Array Oper} {as:List aP} {bf:List Nat} {base:Nat} {μ0 μ:Mu} {h0 h:Heap} {w0 w:World} {a0 a:Act} {listed:Array Bool} {done is:List Nat} {rs:List Rec} {e:Env} {i:Nat}
theorem Lst.set{i j:Nat}(hi:i<listed.size):Lst (listed.setIfInBounds i true) j↔(j=i∨Lst listed j):=by
 unfold Lst;simp only[pt,gy];by_cases h:i=j
 ·subst h;simp[hi]
 ·simp[h,Ne.symm h]
variable{m:Nat}
theorem Inv.before(hI:Inv P ops as bf base μ0 h0 w0 a0 listed μ a w done is rs e h)(f:Stat as ops.toList bf){i:Nat}(hi:i∈Region.ready .any ops listed)(hb:bf[i]? =some m){p:Nat}(d:p<ops.size)(j:Nat.testBit m p=true):Lst listed p:=by
 obtain⟨q,g,c⟩:=f.masks i p m (by simpa using(eZ hi).1) (by simpa using d) hb j;have b:=(eZ hi).2.2 q g;rcases c with rfl|⟨mq,h1,h2⟩
 ·exact b
 ·exact hI.Df q mq p b h1 d h2
variable{t:Nat}
theorem Inv.fresh(hI:Inv P ops as bf base μ0 h0 w0 a0 listed μ a w done (i::is) rs e h)(C:Stat as ops.toList bf){k:aP}(n:as[i]? =some k)(D:t∈cA k)(z:geT e t=some v):
 (∃b∈rs,¬Lst listed b.i/\b.o.dst=some t/\b.v=v/\b.i∈jt ops.toList i)∨((∀(p:Nat) (l:aP),as[p]? =some l->l.dst=some t->p∈jt ops.toList i->Lst listed p)/\∃v',a.tmps[t]? =some v'∧VR μ v v'):=by
 obtain⟨E,F,_⟩:=topo_cons hI.topo;have iN:∀b∈rs,b.o.dst=some t->b.v=v/\b.i∈jt ops.toList i:=λb x j=>by
  have d:=hI.p8 b x;have c:=d.dst t j;rw[z]at c;injection c with c
  refine⟨c.symm,?_⟩;rcases C.slots i b.i k b.o t n d.op D j with q|⟨m,q1,q2⟩
  ·exact q
  ·exact(F (hI.zN b.i m i d.done q1 (hI.y6 i (b6 ..)) q2)).elim
 by_cases hp:∃b∈rs,¬Lst listed b.i/\b.o.dst=some t
 ·obtain⟨b,c,f,g⟩:=hp;obtain⟨A,B⟩:=iN b c g;exact .inl ⟨b,c,f,g,A,B⟩
 ·right;refine⟨λp l s j u=>Classical.byContradiction λy=> ?_,?_⟩
  ·obtain⟨b,c,f⟩:=hI.ME p (E p u) y;have:=(hI.p8 b c).op;rw[f,s]at this;injection this with this
   exact hp ⟨b,c,by rw[f];exact y,by rw[←this];exact j⟩
  ·rcases hI.env t v z with⟨r,c,f,g⟩|q
   ·exact(hp ⟨r,c,f,g⟩).elim
   ·exact q
theorem Inv.look(hI:Inv P ops as bf base μ0 h0 w0 a0 listed μ a w done (i::is) rs e h)(k:Stat as ops.toList bf)(hi:i∈Region.ready .any ops listed){d:aP}(b:as[i]? =some d){f:Env}
 (c:∀t v,geT f t=some v->t∈cA d/\geT e t=some v):cK μ f a.tmps:=by
 intro t v l;obtain⟨g,j⟩:=c t v l;rcases hI.fresh k b g j with⟨r',q1,q2,q3,q4,q5⟩|⟨_,q⟩
 ·exact(q2 ((eZ hi).2.2 _ q5)).elim
 ·exact q
theorem Inv.Vw(hI:Inv P ops as bf base μ0 h0 w0 a0 listed μ a w done is rs e h){r:Rec}(hr:r∈rs)(hi:r.i∈Region.ready .any ops listed)(b:¬Lst listed r.i):cK μ r.e a.tmps:=by
 intro t v c;rcases((hI.p8 r hr).env t v c).2 b with⟨r',q1,q2,q3,q4,q5⟩|⟨_,q⟩
 ·exact(q2 ((eZ hi).2.2 _ q5)).elim
 ·exact q
theorem nU{i:Nat}(d:listed.size=ops.size)(hi:i∈Region.ready .any ops listed):i<listed.size/\¬Lst listed i:=by
 obtain⟨c,b,_⟩:=eZ hi;have a:i<listed.size:=by omega
 refine⟨a,λh=> ?_⟩;unfold Lst at h;simp[pt,a]at h b;rw[h]at b;cases b
theorem Inv.took(hI:Inv P ops as bf base μ0 h0 w0 a0 listed μ a w done is rs e h)(T:Stat as ops.toList bf){i:Nat}(hi:i∈Region.ready .any ops listed){r:Rec}(hr:r∈rs)(y:r.i=i)(g:r.o.dst=dst)
 (M:lJ nt dst=true)(be:nt<=a.tmps.size)(hv:VR μ' r.v v')(hR:R P μ' h w')(W:St μ0 h0 w0 μ' h w')(hm:∀b k,μ b=some k->μ' b=some k)
 (ar:∀s∈rs,s.i≠i->¬Lst listed s.i->∀b,s.k= .made b->μ b=none->μ' b=none):Inv P ops as bf base μ0 h0 w0 a0 (listed.setIfInBounds i true) μ' (a.put dst v') w' done is rs e h:=by
 obtain⟨Z,ae⟩:=nU hI.size hi;have c:∀j,Lst (listed.setIfInBounds i true) j↔(j=i∨Lst listed j):=λj=>Lst.set Z;have f:=hI.p8 r hr;refine⟨by simpa using hI.size,λj I=> ?_,λj I C=> ?_,λj m p I H hp hb=> ?_,hI.topo,hI.closed,hI.zN,hI.lt,hI.all,hI.y6,λs O=> ?_,hI.alone,hR,W,hI.nx0,hI.nxb,hI.big,λt v S=> ?_,by rw[dK];exact hI.tm,by rw[put_defers];exact hI.df⟩
 ·rcases(c j).1 I with rfl|h
  ·rw[←y];exact f.done
  ·exact hI.sub j h
 ·exact hI.ME j I λh=>C ((c j).2 (.inr h))
 ·refine(c p).2 ?_;rcases(c j).1 I with rfl|h
  ·obtain⟨q,hq,aw⟩:=T.masks j p m (by simpa using(eZ hi).1) (by simpa using hp) H hb;have J:=(eZ hi).2.2 q hq;rcases aw with rfl|⟨mq,x,E⟩
   ·exact .inr J
   ·exact .inr (hI.Df q mq p J x hp E)
  ·exact .inr (hI.Df j m p h H hp hb)
 ·have l:=hI.p8 s O;refine⟨l.done,l.op,λt u hu=> ?_,l.dst,?_⟩
  ·obtain⟨q0,q⟩:=l.env t u hu;refine⟨q0,λC=> ?_⟩;have K:s.i≠i:=λe=>C ((c _).2 (.inl e));have n:¬Lst listed s.i:=λe=>C ((c _).2 (.inr e));rcases q n with⟨r2,A,G,D,U,k5⟩|⟨A,v2,G,D⟩
   ·by_cases E:r2.i=i
    ·right;have L:r2.o=r.o:=by
      have x:=(hI.p8 r2 A).op;rw[E,←y,f.op]at x;injection x with x;exact x.symm
     rw[L,g]at D;subst D;have aE:r.v=u:=by
      have x:=f.dst t g;have z:=(hI.p8 r2 A).dst t (by rw[L];exact g);rw[x]at z;injection z with z
      rw[z,U]
     refine⟨λp V B X N=>(c p).2 (.inl ?_),v',?_,aE▸hv⟩
     ·exact T.RP p i V r.o t B (by rw[←y];exact f.op) X g
     ·simp only[lJ,ub]at M;rw[gQ];simp[gy,show t<a.tmps.size by omega]
    ·exact .inl ⟨r2,A,λh=>((c _).1 h).elim E G,D,U,k5⟩
   ·right;refine⟨λp V B X N=>(c p).2 (.inr (A p V B X N)),v2,?_,D.mono hm⟩;rw[gQ];cases hdd:dst with
    |none=>exact G
    |some d=>
     have Y:d≠t:=λh=>by
      subst h;have Q:r.o.dst=some d:=by rw[g,hdd]
      rcases T.slots s.i i s.o r.o d l.op (by rw[←y];exact f.op) q0 Q with q|⟨m,q1,q2⟩
      ·exact ae (A i r.o (by rw[←y];exact f.op) Q q)
      ·exact n (hI.before T hi q1 (hI.lt _ l.done) q2)
     simp[gy,Y,G]
  have F:=l.kind;cases hrk:s.k with
  |skip=>rw[hrk]at F;exact F
  |quiet=>rw[hrk]at F;exact F
  |made b=>
   rw[hrk]at F;obtain⟨A,G,ba,o,D,U,k5,k6,k7⟩:=F;refine⟨A,G,ba,o,D,U,k5,k6,λC=> ?_⟩;have K:s.i≠i:=λe=>C ((c _).2 (.inl e));have n:¬Lst listed s.i:=λe=>C ((c _).2 (.inr e));exact ar s O K n b hrk (k7 n)
 ·by_cases ht:dst=some t
  ·right;have:=f.dst t (by rw[g];exact ht);rw[S]at this;cases this;subst ht;simp only[lJ,ub]at M;refine⟨v',?_,hv⟩;rw[gQ];simp[gy,show t<a.tmps.size by omega]
  ·rcases hI.env t v S with⟨s,q1,q2,q3⟩|⟨v2,q1,q2⟩
   ·left;refine⟨s,q1,λh=> ?_,q3⟩;rcases(c _).1 h with h|h
    ·have l:=hI.p8 s q1;have:s.o=r.o:=by
      have x:=l.op;have E:=f.op;rw[h,←y,E]at x;injection x with x;exact x.symm
     rw[this,g]at q3;exact ht q3
    ·exact q2 h
   ·right;refine⟨v2,?_,q2.mono hm⟩;rw[gQ];cases dst with
    |none=>exact q1
    |some d=>
     have:d≠t:=λh=>ht (by rw[h]);simp[gy,this,q1]
variable{rd:Option Nat}
theorem Inv.iN(hI:Inv P ops as bf base μ0 h0 w0 a0 listed μ a w done is rs e h)(H:Stat as ops.toList bf)(l:nt<=a.tmps.size)(N:cB P nt ops ops.toList=some as){i:Nat}(hi:i∈Region.ready .any ops listed)(hd:i∈done)
 (G:∀μ' a' y,Inv P ops as bf base μ0 h0 w0 a0 (listed.setIfInBounds i true) μ' a' y done is rs e h->K a' y):wpOpIn (Fw rd) 0 P ops Q i K a w:=by
 obtain⟨ar,j⟩:=nU hI.size hi;obtain⟨r,n,d⟩:=hI.ME i hd j;have x:=hI.p8 r n;have O:i<ops.size:=(eZ hi).1;obtain⟨o,T⟩:∃o,ops[i]? =some o:=⟨ops[i],by simp[O]⟩;obtain⟨ao,h1,C,D,E,c5⟩:=(kH N).2 i o (by simpa using T);have I:ao=r.o:=by
  have:=x.op;rw[d,h1]at this;injection this
 subst I;have F:cK μ r.e a.tmps:=hI.Vw n (by rw[d];exact hi) (by rw[d];exact j);have U:∀b,bA r.e r.o.guard=some b->Region.wanted o (yielded ops a.tmps)=b:=λb J=>c5 (λs _ _ v hv=>F s v hv) J;have g:=x.kind;unfold wpOpIn;simp only[T];cases hrk:r.k with
 |skip=>
  rw[hrk]at g;rw[U _ g.1];simp only[rc,if_false];refine⟨λ_ _=>gF,G μ _ _ ?_⟩;exact hI.took H hi n d D C l (by rw[g.2];exact(VR.cE (v:=undef) rfl).1) hI.rel hI.st (λ_ _ h=>h) (λ_ _ _ _ _ _ h=>h)
 |quiet=>
  rw[hrk]at g;obtain⟨W,X,_,A⟩:=g;rw[U _ W];simp only[if_true];refine⟨λ_ _=>gF,?_⟩;rw[Oper.semAt_eq _ _ _ (tr E X)];refine xU (Gk hI.rel F E A) λμ' v' y Z B p=>G μ' _ _ ?_;have z:=p.mono hI.rel;refine hI.took H hi n d D C l Z B (hI.st.trans p hI.nx0) z λr' m _ u b J f=> ?_;have t:=(hI.p8 r' m).kind;rw[J]at t;obtain⟨_,_,Y,_,_,hg,_⟩:=t;rw[p.ext b (hI.rel.lt b _ hg)];exact f
 |made b=>
  rw[hrk]at g;obtain⟨W,X,Y,o',A,k4,k5,k6,k7⟩:=g;rw[d,T]at A;cases A;rw[U _ W];simp only[if_true];refine⟨λ_ _=>gF,?_⟩;rw[Oper.semAt_eq _ _ _ (tr E X)];obtain⟨v',ae,y,k,Z,qs,B,p,q4⟩:=k5.2.2 μ h w a hI.rel F;have f:=k7 (by rw[d];exact j);have z:∀c V,μ c=some V→upd μ b k c=some V:=λc V M=>by
   unfold upd;rw[if_neg];exact M;intro e;subst e;rw[f]at M;cases M
  obtain⟨s1,s2⟩:=q4 (upd μ b k) z (ek _ _ _);rw[Z];refine G (upd μ b k) _ y ?_;refine hI.took H hi n d D C l s1 (hI.rel.late B p k4 f (gd hI.big k6) s2) (hI.st.late B p k6 f qs) z λr' m S u b' L q=> ?_;unfold upd;rw[if_neg]
  ·exact q
  ·intro e;subst e;exact S ((hI.alone r' m r n b' L hrk).trans d)
theorem qf:∀{a b:List Value},(∀x∈a,∀y,jw x y=true->x=y)->jX a b=true->a=b
 |[],[],_,_=>rfl
 |[],_::_,_,h=>by simp[jX]at h
 |_::_,[],_,h=>by simp[jX]at h
 |x::xs,y::ys,hx,h=>by
  simp only[jX,cond_eq_ite]at h;split at h
  ·rename_i h1;rw[hx x (by simp) y h1,qf (λz hz=>hx z (by simp[hz])) h]
  ·cases h
theorem He{a b:ByteArray}(h:a.data.toList=b.data.toList):a=b:=by
 obtain⟨⟨x⟩⟩:=a;obtain⟨⟨y⟩⟩:=b;simp at h;rw[h]
variable{y:Value}
theorem qe(h:jw x y=true):x=y:=by
 unfold jw at h;split at h<;>(try simp only[ed,beq_iff_eq]at h)
 all_goals first
  |rfl
  |(cases h;done)
  |(subst h;rfl)
  |(obtain⟨a,b⟩:=h;subst a;subst b;rfl)
  |(rw[He h];done)
  |(obtain⟨⟨a,b⟩,c⟩:=h;subst a;subst b;subst c;rfl)
theorem tE(h:iL x y=true):x=y:=by
 unfold iL at h;split at h
 ·rw[eD (qf (λ_ _ _ h=>qe h) h)]
 ·rw[eD (qf (λ_ _ _ h=>qe h) h)]
 ·simp only[ed,beq_iff_eq]at h;obtain⟨a,b,c⟩:=h;rw[a,eD (qf (λ_ _ _ h=>qe h) b),eD (qf (λ_ _ _ h=>qe h) c)]
 ·exact qe h
theorem zm(i:cQ f=true)(h1:aop h base e f=some (.val v h')):h'=h∨∃o,h'=h.push o:=by
 have j:∀{size:Nat} {a:Option Addr} {len cap:Nat} {lo hi mx:Option Operand},iM h e size a len cap lo hi mx=some (v,h')->h'=h∨∃o,h'=h.push o:=λd=>by
  unfold iM at d;simp only[cond_eq_ite]at d;repeat' split at d
  all_goals first
   |(cases d;done)
   |(cases d;exact .inl rfl)
   |(cases d;exact .inr ⟨_,rfl⟩)
 have g:∀{x:Option (Value×Heap)},fH x=some (.val v h')->x=some (v,h'):=λd=>gh d;cases f<;>(try (simp[cQ]at i;done))
 case mov=>obtain⟨v,_,b⟩:=aA h1;cases b;exact .inl rfl
 case iK=>obtain⟨v,_,b⟩:=aA h1;cases b;exact .inl rfl
 case un=>obtain⟨v,_,b⟩:=aA h1;obtain⟨v,_,b⟩:=aA b;cases b;exact .inl rfl
 case load=>obtain⟨v,_,b⟩:=aA h1;obtain⟨v,_,b⟩:=aA b;cases b;exact .inl rfl
 case conv c x=>
  obtain⟨l,_,b⟩:=aA h1;have b:=g b;unfold qZ at b;repeat' split at b
  all_goals first
   |(cases b;done)
   |(cases b;exact .inl rfl)
   |(cases b;exact .inr ⟨_,rfl⟩)
 case cg=>
  obtain⟨v,_,b⟩:=aA h1;split at b<;>cases b;exact .inl rfl
 case bin op x y=>
  cases op;case num=>
   obtain⟨v,_,b⟩:=aA h1;obtain⟨v,_,b⟩:=aA b;obtain⟨v,_,b⟩:=aA b;cases b;exact .inl rfl
  case beq=>simp only[aop]at h1;split at h1<;>cases h1;exact .inl rfl
  case nil=>
   obtain⟨v,_,b⟩:=aA h1;obtain⟨v,_,b⟩:=aA b;split at b<;>cases b;exact .inl rfl
  case agg=>
   obtain⟨v,_,b⟩:=aA h1;obtain⟨v,_,b⟩:=aA b;split at b
   ·split at b<;>cases b;exact .inl rfl
   ·cases b
 case pick=>
  simp only[aop]at h1;split at h1
  ·obtain⟨v,_,b⟩:=aA h1;cases b;exact .inl rfl
  ·obtain⟨v,_,b⟩:=aA h1;cases b;exact .inl rfl
  ·cases h1
 case slice k x lo hi mx=>
  cases k<;>cases mx<;>simp only[aop]at h1
  ·repeat' split at h1
   all_goals first|(cases h1;done)|skip
   simp only[cond_eq_ite,dk]at h1;obtain⟨_,h1⟩:=h1;cases h1;exact .inl rfl
  ·cases h1
  all_goals
   split at h1
   ·exact j (g h1)
   ·cases h1
 case len k x=>
  match k with
  |0=>simp only[aop]at h1;split at h1<;>cases h1;exact .inl rfl
  |1=>simp only[aop]at h1;split at h1<;>cases h1;exact .inl rfl
  |k+2=>
   simp only[aop]at h1;split at h1
   ·cases h1;exact .inl rfl
   ·split at h1<;>cases h1;exact .inl rfl
   ·cases h1
 case dB=>simp only[aop]at h1;repeat' split at h1
          all_goals first|(cases h1;done)|(simp only[cond_eq_ite,dk]at h1;obtain⟨_,h1⟩:=h1;cases h1;exact .inl rfl)
 case aQ=>simp only[aop]at h1;repeat' split at h1
          all_goals first|(cases h1;done)|(simp only[cond_eq_ite,dk]at h1;obtain⟨_,h1⟩:=h1;cases h1;exact .inl rfl)
 case j9=>cases h1;exact .inl rfl
 all_goals
  revert h1;simp only[aop,cond_eq_ite];intro h1;repeat' split at h1
  all_goals first
   |(cases h1;done)
   |(cases h1;exact .inl rfl)
   |(obtain⟨v,_,b⟩:=aA h1;cases b;exact .inl rfl)
def vJ(P:Program)(ops:Array Oper)(base:Nat)(h0:Heap)(listed:Array Bool)(μ:Mu)(h:Heap)(r:Rec):Prop:=
 match r.k with
  | .skip=>bA r.e r.o.guard=some false/\r.v=undef
  | .quiet=>bA r.e r.o.guard=some true/\(∀f l,r.o.op≠ .jI f l)/\cQ r.o.op=true/\aop h base r.e r.o.op=some (.val r.v h)
  | .made b=>bA r.e r.o.guard=some true/\(∀f l,r.o.op≠ .jI f l)/\∃obj o,ops[r.i]? =some o/\h.get b=some obj/\FM P o r.e b r.v obj/\h0.next<=b/\(¬Lst listed r.i->μ b=none)
theorem lY:∀{l:List Nat} {t:Nat} {v:Value},geT (bD e l) t=some v->t∈l/\geT e t=some v
 |[],_,_,h=>by simp[bD,geT]at h
 |x::l,t,v,h=>by
  simp only[bD]at h;split at h
  ·rename_i u hu;simp only[geT,cond_eq_ite,beq_eq,decide_eq_true_eq]at h;split at h
   ·rename_i e;subst e;cases h;exact⟨by simp,hu⟩
   ·have:=lY h;exact⟨by simp[this.1],this.2⟩
  ·have:=lY h;exact⟨by simp[this.1],this.2⟩
theorem sX{d:Option Nat}:geT (bN e d v) t=if d=some t then some v else geT e t:=by
 cases d with
 |none=>simp[bN]
 |some x=>simp[bN,geT,cond_eq_ite,beq_eq]
theorem Inv.adv{i:Nat}(hI:Inv P ops as bf base μ0 h0 w0 a0 listed μ a w done (i::is) rs e h)(J:Stat as ops.toList bf){s:aP}(x:as[i]? =some s){k:Rk}{f:Heap}(W:R P μ f w)(K:St μ0 h0 w0 μ f w)(B:h.next<=f.next)
 (X:vJ P ops base h0 listed μ f ⟨i,s,bD e (cA s),v,k⟩)(M:∀r∈rs,vJ P ops base h0 listed μ f r)(F:∀b,k= .made b->∀r∈rs,r.k≠ .made b):
 Inv P ops as bf base μ0 h0 w0 a0 listed μ a w (i::done) is (⟨i,s,bD e (cA s),v,k⟩::rs) (bN e s.dst v) f:=by
 obtain⟨T,V,Y,_⟩:=topo_cons hI.topo;have N:¬Lst listed i:=λh=>V (hI.sub i h);refine⟨hI.size,λj c=>bz _ (hI.sub j c),λj c B=> ?_,hI.Df,Y,λj c p C=> ?_,λj m p c A C n=> ?_,λj c=> ?_,λj c=> ?_,λj c=>hI.y6 j (bz _ c),λr g=> ?_,λr g E l b A y=> ?_,W,K,gd hI.nx0 B,gd hI.nxb B,hI.big,λt u z=> ?_,hI.tm,hI.df⟩
 ·rcases List.mem_cons.1 c with rfl|c
  ·exact⟨_,b6 ..,rfl⟩
  ·obtain⟨r,I,f⟩:=hI.ME j c B;exact⟨r,bz _ I,f⟩
 ·rcases List.mem_cons.1 c with rfl|c
  ·exact bz _ (T p C)
  ·exact bz _ (hI.closed j c p C)
 ·rcases List.mem_cons.1 c with rfl|c
  ·obtain⟨q,U,O⟩:=J.masks j p m (by simpa using hI.y6 j (b6 ..)) (by simpa using C) A n;rcases O with rfl|⟨mq,I,f⟩
   ·exact bz _ (T p U)
   ·exact bz _ (hI.zN q mq p (T q U) I C f)
  ·exact bz _ (hI.zN j m p c A C n)
 ·rcases List.mem_cons.1 c with rfl|c
  ·exact hI.y6 _ (b6 ..)
  ·exact hI.lt j c
 ·rcases hI.all j c with h|h
  ·exact .inl (bz _ h)
  ·rcases List.mem_cons.1 h with rfl|h
   ·exact .inl (b6 ..)
   ·exact .inr h
 ·rcases List.mem_cons.1 g with rfl|g
  ·refine⟨b6 ..,x,λt u z=> ?_,λt H=> ?_,X⟩
   ·obtain⟨D,G⟩:=lY z;refine⟨D,λ_=> ?_⟩;rcases hI.fresh J x D G with⟨E,Q,S⟩|k
    ·exact .inl ⟨E,bz _ Q,S⟩
    ·exact .inr k
   ·rw[sX,if_pos H]
  ·have d:=hI.p8 r g;refine⟨bz _ d.done,d.op,λt u z=> ?_,λt H=> ?_,M r g⟩
   ·obtain⟨D,G⟩:=d.env t u z;refine⟨D,λB=>(G B).imp (λ⟨E,Q,S⟩=>⟨E,bz _ Q,S⟩) id⟩
   ·rw[sX,if_neg]
    ·exact d.dst t H
    ·intro L;have:=J.RP r.i i r.o s t d.op x H L;exact V (this▸d.done)
 ·rcases List.mem_cons.1 g with rfl|g<;>rcases List.mem_cons.1 l with rfl|l
  ·rfl
  ·exact(F b A E l y).elim
  ·exact(F b y r g A).elim
  ·exact hI.alone r g E l b A y
 ·rw[sX]at z;split at z
  ·rename_i L;exact .inl ⟨_,b6 ..,N,L⟩
  ·rcases hI.env t u z with⟨r,D,G,q3⟩|q
   ·exact .inl ⟨r,bz _ D,G,q3⟩
   ·exact .inr q
theorem oJ{e:Heap}{log:List Nat}{mask:Nat}:∀{rs b:List Rec},br e base log mask rs=some b→
 (∀r∈b,r∈rs/\si e base r=true/\It log r=true)/\∀r∈rs,Nat.testBit mask r.i=false->r∈b
 |[],b,h=>by cases h;exact⟨λr hr=>(by cases hr),λr hr=>(by cases hr)⟩
 |r::rs,b,h=>by
  simp only[br,cond_eq_ite]at h;split at h
  ·rename_i hb;obtain⟨d,f⟩:=oJ h;refine⟨λx a=>⟨bz _ (d x a).1,(d x a).2⟩,λx a c=> ?_⟩;rcases List.mem_cons.1 a with rfl|a
   ·rw[hb]at c;cases c
   ·exact f x a c
  ·split at h
   ·rename_i hc;simp only[ed]at hc;split at h
    ·rename_i rs2 e;cases h;obtain⟨d,f⟩:=oJ e;refine⟨λx a=> ?_,λx a c=> ?_⟩
     ·rcases List.mem_cons.1 a with rfl|a
      ·exact⟨b6 ..,hc⟩
      ·exact⟨bz _ (d x a).1,(d x a).2⟩
     ·rcases List.mem_cons.1 a with rfl|a
      ·exact b6 ..
      ·exact bz _ (f x a c)
    ·cases h
   ·cases h
theorem Gx{b:Heap}{r:Rec}(a:si b base r=true)(f:r.k= .quiet)(c:cQ r.o.op=true):aop b base r.e r.o.op=some (.val r.v b):=by
 unfold si at a;rw[f]at a;simp only at a;split at a
 ·rename_i v' h3 hv;simp only[ed,beq_eq,decide_eq_true_eq]at a;have d:=tE a.1;rcases zm c hv with rfl|⟨o,rfl⟩
  ·rw[hv,d]
  ·exact absurd a.2 (by show¬b.next+1=b.next;omega)
 ·cases a
theorem Inv.bar{i mask:Nat}(hI:Inv P ops as bf base μ0 h0 w0 a0 listed μ a w done (i::is) rs e h)(O:Stat as ops.toList bf)(hi:i∈Region.ready .any ops listed){y:aP}(Q:as[i]? =some y)(S:bf[i]? =some mask)
 (W:lJ nt y.dst=true)(cj:nt<=a.tmps.size){C:Heap}{log:List Nat}{Y:List Rec}(hv:VR μ' v v')(hR:R P μ' C w')(H:St μ h w μ' C w')(Z:h.next<=C.next)
 (J:∀b,b<h.next->fF log b=false->C.get b=h.get b)(cd:br C base log mask rs=some Y):
 Inv P ops as bf base μ0 h0 w0 a0 (listed.setIfInBounds i true) μ' (a.put y.dst v') w' (i::done) is Y (bN e y.dst v) C:=by
 obtain⟨t1,t2,t3,_⟩:=topo_cons hI.topo;obtain⟨aE,ci⟩:=nU hI.size hi;have c:∀j,Lst (listed.setIfInBounds i true) j↔(j=i∨Lst listed j):=λj=>Lst.set aE;obtain⟨s1,s2⟩:=oJ cd;have hm:=H.mono hI.rel;have l:∀p,p<ops.size->Nat.testBit mask p=true->Lst listed p:=λp x s=>hI.before O hi S x s;refine⟨by simpa using hI.size,λj g=> ?_,λj g z=> ?_,λj m p g s x n=> ?_,t3,λj g p x=> ?_,λj m p g s x n=> ?_,λj g=> ?_,λj g=> ?_,λj g=>hI.y6 j (bz _ g),λr hr=> ?_,λr hr r' bi b s ar=>hI.alone r (s1 r hr).1 r' (s1 r' bi).1 b s ar,hR,
  hI.st.trans H hI.nx0,gd hI.nx0 Z,gd hI.nxb Z,hI.big,λt u K=> ?_,by rw[dK];exact hI.tm,by rw[put_defers];exact hI.df⟩
 ·rcases(c j).1 g with rfl|h
  ·exact b6 ..
  ·exact bz _ (hI.sub j h)
 ·rcases List.mem_cons.1 g with rfl|g
  ·exact(z ((c _).2 (.inl rfl))).elim
  ·have V:¬Lst listed j:=λh=>z ((c j).2 (.inr h));obtain⟨r,h1,h3⟩:=hI.ME j g V;refine⟨r,s2 r h1 ?_,h3⟩;cases s:Nat.testBit mask r.i with
   |false=>rfl
   |true=>exact(V (h3▸l r.i (h3▸hI.lt j g) s)).elim
 ·rcases(c j).1 g with rfl|h
  ·rw[S]at s;cases s;exact(c p).2 (.inr (l p x n))
  ·exact(c p).2 (.inr (hI.Df j m p h s x n))
 ·rcases List.mem_cons.1 g with rfl|g
  ·exact bz _ (t1 p x)
  ·exact bz _ (hI.closed j g p x)
 ·rcases List.mem_cons.1 g with rfl|g
  ·obtain⟨q,hq,be⟩:=O.masks j p m (by simpa using hI.y6 j (b6 ..)) (by simpa using x) s n;rcases be with rfl|⟨mq,h1,C⟩
   ·exact bz _ (t1 p hq)
   ·exact bz _ (hI.zN q mq p (t1 q hq) h1 x C)
  ·exact bz _ (hI.zN j m p g s x n)
 ·rcases List.mem_cons.1 g with rfl|g
  ·exact hI.y6 _ (b6 ..)
  ·exact hI.lt j g
 ·rcases hI.all j g with h|h
  ·exact .inl (bz _ h)
  ·rcases List.mem_cons.1 h with rfl|h
   ·exact .inl (b6 ..)
   ·exact .inr h
 ·obtain⟨bj,bo,I⟩:=s1 r hr;have f:=hI.p8 r bj;refine⟨bz _ f.done,f.op,λt u K=> ?_,λt ht=> ?_,?_⟩
  ·obtain⟨G,N⟩:=f.env t u K;refine⟨G,λZ=> ?_⟩;have E:¬Lst listed r.i:=λh=>Z ((c _).2 (.inr h));rcases N E with⟨r2,A,B,F,M,X⟩|⟨A,v2,B,F⟩
   ·left;refine⟨r2,s2 r2 A ?_,λh=> ?_,F,M,X⟩
    ·cases s:Nat.testBit mask r2.i with
     |false=>rfl
     |true=>exact(B (l r2.i (hI.lt _ (hI.p8 r2 A).done) s)).elim
    ·rcases(c _).1 h with h|h
     ·exact t2 (h▸(hI.p8 r2 A).done)
     ·exact B h
   ·right;refine⟨λp ap ae D ba=>(c p).2 (.inr (A p ap ae D ba)),v2,?_,F.mono hm⟩;rw[gQ];cases hdd:y.dst with
    |none=>exact B
    |some d=>
     have aw:d≠t:=λh=>by
      subst h;rcases O.slots r.i i r.o y d f.op Q G hdd with q|⟨m,M,X⟩
      ·exact t2 (hI.closed _ f.done i q)
      ·exact E (hI.before O hi M (hI.lt _ f.done) X)
     simp[gy,aw,B]
  ·rw[sX,if_neg]
   ·exact f.dst t ht
   ·intro D;have:=O.RP r.i i r.o y t f.op Q ht D;exact t2 (this▸f.done)
  ·have L:=f.kind;cases hrk:r.k with
   |skip=>rw[hrk]at L;exact L
   |quiet=>
    rw[hrk]at L;obtain⟨A,B,F,_⟩:=L;exact⟨A,B,F,Gx bo hrk F⟩
   |made b=>
    rw[hrk]at L;obtain⟨A,B,cf,o,F,M,X,k6,k7⟩:=L;have U:fF log b=false:=by
     unfold It at I;rw[hrk]at I;simpa using I
    have T:=hI.rel.lt b _ M;refine⟨A,B,cf,o,F,by rw[J b T U];exact M,X,k6,λz=> ?_⟩;rw[H.ext b T];exact k7 λh=>z ((c _).2 (.inr h))
 ·rw[sX]at K;by_cases D:y.dst=some t
  ·rw[if_pos D]at K;cases K;right;rw[D]at W⊢;simp only[lJ,ub]at W;refine⟨v',?_,hv⟩;rw[gQ];simp[gy,show t<a.tmps.size by omega]
  ·rw[if_neg D]at K;rcases hI.env t u K with⟨r,G,N,q3⟩|⟨v2,G,N⟩
   ·left;have f:=hI.p8 r G;refine⟨r,s2 r G ?_,λh=> ?_,q3⟩
    ·cases s:Nat.testBit mask r.i with
     |false=>rfl
     |true=>exact(N (l r.i (hI.lt _ f.done) s)).elim
    ·rcases(c _).1 h with h|h
     ·exact t2 (h▸f.done)
     ·exact N h
   ·right;refine⟨v2,?_,N.mono hm⟩;rw[gQ];cases hdd:y.dst with
    |none=>exact G
    |some d=>
     have:d≠t:=λh=>D (by rw[hdd,h]);simp[gy,this,G]
def unl(ops:Array Oper)(listed:Array Bool):Nat:=((List.range ops.size).filter λi=> !listed.getD i false).length
def BU(P:Program)(μ0:Mu)(h0:Heap)(w0:World)(a0:Act)(x:bk)(e':Env)(h':Heap):Exit->Act->World->Prop:=λex a' w'=>
 ∃μ',XR μ' x ex/\R P μ' h' w'∧St μ0 h0 w0 μ' h' w'∧cK μ' e' a'.tmps/\a'.tmps.size=a0.tmps.size/\a'.defers=a0.defers
theorem Er{l:List Nat}(c:l.Nodup){p q:Nat->Bool}{i:Nat}(hi:i∈l)(f:p i=true)(g:q i=false)(a:∀j,j≠i->q j=p j):(l.filter q).length+1=(l.filter p).length:=by
 induction l with
 |nil=>cases hi
 |cons x l ih=>
  simp only[At]at c;by_cases hx:x=i
  ·subst hx;have:l.filter q=l.filter p:=yn λj d=>a j λe=>c.1 (e▸d);simp[f,g,this]
  ·have b:i∈l:=by rcases List.mem_cons.1 hi with h|h;exact absurd h.symm hx;exact h
   have:=ih c.2 b;rw[List.filter_cons,List.filter_cons,a x hx];by_cases hpx:p x=true
   ·rw[if_pos hpx,if_pos hpx,pm,pm];omega
   ·rw[if_neg hpx,if_neg hpx];exact this
theorem Qk{ops:Array Oper}{a:Array Bool}{i:Nat}(d:a.size=ops.size)(hi:i<ops.size)(b:¬Lst a i):unl ops (a.setIfInBounds i true)+1=unl ops a:=by
 unfold unl;refine Er List.nodup_range (by simpa using hi) ?_ ?_ (λj c=> ?_)
 ·unfold Lst at b;simpa using b
 ·simp[pt,gy,show i<a.size by omega]
 ·simp[pt,gy,Ne.symm c]
theorem Nj{ops:Array Oper}{a:Array Bool}(h:unl ops a=0):∀i,i<ops.size->Lst a i:=by
 intro i d;have b:=List.length_eq_zero_iff.1 h;rw[List.filter_eq_nil_iff]at b;have c:=b i (by simpa using d);unfold Lst;simpa using c
def Ord(ops:List Oper):List Nat->Prop
 |[]=>True
 |i::d=>(∀p∈jt ops i,p∈d)/\Ord ops d
theorem DI{ops:Array Oper}{a:Array Bool}{i:Nat}(hi:i<ops.size)(h:a.size=ops.size)(b:¬Lst a i)(g:∀p∈jt ops.toList i,Lst a p):i∈Region.ready .any ops a:=by
 rw[mem_ready];obtain⟨o,c⟩:∃o,ops[i]? =some o:=⟨ops[i],by simp[hi]⟩;refine⟨?_,o,c,λe f d=> ?_⟩
 ·unfold Lst at b;simp[pt,show i<a.size by omega]at b⊢;exact b
 ·refine g e.on ?_;simp only[jt,cH,Cl,c,EX,List.mem_map,List.mem_filter,Array.mem_toList_iff];exact⟨e,⟨f,d⟩,rfl⟩
theorem Gm{ops:List Oper}{a:Array Bool}:∀{d:List Nat},Ord ops d->(∃j∈d,¬Lst a j)->∃j∈d,¬Lst a j/\∀p∈jt ops j,Lst a p
 |[],_,⟨j,c,_⟩=>by cases c
 |x::d,ho,hex=>by
  by_cases h:∃j∈d,¬Lst a j
  ·obtain⟨j,h1,h2⟩:=Gm ho.2 h;exact⟨j,bz _ h1,h2⟩
  ·have b:∀j∈d,Lst a j:=λj c=>Classical.byContradiction λe=>h ⟨j,c,e⟩;obtain⟨j,c,e⟩:=hex;rcases List.mem_cons.1 c with rfl|c
   ·exact⟨j,b6 ..,e,λp f=>b p (ho.1 p f)⟩
   ·exact(e (b j c)).elim
theorem topo_not{as:List aP}{ops:List Oper}:∀{is done:List Nat},topoOk as ops done is=true->∀p∈is,p ∉ done
 |[],_,_,p,hp=>by cases hp
 |i::is,done,h,p,hp=>by
  obtain⟨_,t2,t3,_⟩:=topo_cons h;rcases List.mem_cons.1 hp with rfl|hp
  ·exact t2
  ·exact λa=>topo_not t3 p hp (bz _ a)
variable {ops:Array Oper} {as:List aP} {bf:List Nat} {base:Nat} {μ0 μ:Mu} {h0 h:Heap} {w0 w:World} {a0 a:Act} {listed:Array Bool} {done is:List Nat} {rs:List Rec} {e:Env}
theorem Inv.Fh(hI:Inv P ops as bf base μ0 h0 w0 a0 listed μ a w done is rs e h)(ho:Ord ops.toList done)(hr:Region.ready .any ops listed=[]):∀i,i<ops.size->Lst listed i:=by
 have b:∀j∈done,Lst listed j:=λj l=>Classical.byContradiction λn=>by
  obtain⟨k,c,d,f⟩:=Gm ho ⟨j,l,n⟩;have:=DI (hI.lt k c) hI.size d f;rw[hr]at this;cases this
 intro i g;rcases hI.all i g with h|h
 ·exact b i h
 ·exfalso;cases is with
  |nil=>cases h
  |cons x is=>
   obtain⟨q,r,_⟩:=topo_cons hI.topo;have:=DI (hI.y6 x (b6 ..)) hI.size (λm=>r (hI.sub x m)) (λp o=>b p (q p o));rw[hr]at this;cases this
theorem Inv.fin(hI:Inv P ops as bf base μ0 h0 w0 a0 listed μ a w done is rs e h)(b:∀i,i<ops.size->Lst listed i):BU P μ0 h0 w0 a0 .normal e h .normal a w:=
 ⟨μ,trivial,hI.rel,hI.st,λt v c=>by
  rcases hI.env t v c with⟨r,h1,h2,_⟩|h
  ·exact(h2 (b _ (hI.lt _ (hI.p8 r h1).done))).elim
  ·exact h,hI.tm,hI.df⟩
theorem Inv.run{nt:Nat}{m:Option Nat}{Q:Exit->Act->World->Prop}(n:Stat as ops.toList bf)(g:cB P nt ops ops.toList=some as)(j:nt<=a0.tmps.size)(ho:Ord ops.toList done)
 (c:∀(b:Array Bool) (μ:Mu) (a:Act) (w:World),Inv P ops as bf base μ0 h0 w0 a0 b μ a w done is rs e h->(∀i,i<ops.size->Lst b i)->Q .normal a w)
 (d:∀(b:Array Bool) (μ:Mu) (a:Act) (w:World) (i:Nat),Inv P ops as bf base μ0 h0 w0 a0 b μ a w done is rs e h→i∈Region.ready .any ops b→i ∉ done→∀k,unl ops (b.setIfInBounds i true)=k→
   wpOpIn (Fw m) 0 P ops Q i (wpAnyIn (Fw m) 0 P .any ops Q k (b.setIfInBounds i true)) a w):
 ∀(k:Nat) (b:Array Bool) (μ:Mu) (a:Act) (w:World),unl ops b=k->Inv P ops as bf base μ0 h0 w0 a0 b μ a w done is rs e h->wpAnyIn (Fw m) 0 P .any ops Q k b a w
 |0,b,μ,a,w,hk,hI=>by
  have hall:=Nj hk;refine⟨?_,c _ _ _ _ hI hall⟩;rw[AC];intro i f;exact(nU hI.size f).2 (hall i (eZ f).1)
 |k+1,b,μ,a,w,hk,hI=>by
  refine⟨λo=>c _ _ _ _ hI (hI.Fh ho o),λi f=> ?_⟩;have q:=Qk hI.size (eZ f).1 (nU hI.size f).2;by_cases hd:i∈done
  ·exact hI.iN n (by rw[hI.tm];exact j) g f hd λμ' p r l=>Inv.run n g j ho c d k _ _ _ _ (by omega) l
  ·exact d _ _ _ _ _ hI f hd k (by omega)
theorem zW{base:Nat}{h:Heap}:∀{rs:List Rec},mS h base rs=true->∀r∈rs,si h base r=true
 |[],_,r,hr=>by cases hr
 |x::rs,h,r,hr=>by
  simp only[mS,cond_eq_ite]at h;split at h
  ·rename_i hx;rcases List.mem_cons.1 hr with rfl|hr
   ·exact hx
   ·exact zW h r hr
  ·cases h
theorem zl{bf:List Nat}{i:Nat}:∀{a:List Nat},oW bf i a=true->∀{j:Nat},j∈a->∃m,bf[j]? =some m/\Nat.testBit m i=true
 |[],_,_,hj=>by cases hj
 |x::a,h,j,hj=>by
  simp only[oW]at h;split at h
  ·rename_i m hm;rw[cH]at hm;simp only[cond_eq_ite]at h;split at h
   ·rename_i ht;rcases List.mem_cons.1 hj with rfl|hj
    ·exact⟨m,hm,ht⟩
    ·exact zl h hj
   ·cases h
  ·cases h
def nZ(P:Program)(T:Nat->Option aq)(n:Nat):Prop:=∀base as is bf rs e h x e' h',dU T n base as is bf rs e h=some (x,e',h')→
 ∀(ops:Array Oper) nt μ0 h0 w0 a0 listed μ a w done rd (Q:Exit->Act->World->Prop),cB P nt ops ops.toList=some as->Stat as ops.toList bf->nt<=a0.tmps.size→
  Inv P ops as bf base μ0 h0 w0 a0 listed μ a w done is rs e h->Ord ops.toList done->(∀ex a' w',BU P μ0 h0 w0 a0 x e' h' ex a' w'→Q ex a' w')→
  wpAnyIn (Fw rd) 0 P .any ops Q (unl ops listed) listed a w
theorem nZ.succ(hT:ez P T)(hD:nZ P T n)(hC:ql P T n):nZ P T (n+1):=by
 intro base as is bf rs e h x e' h' d ops nt μ0 h0 w0 a0 listed μ a w done rd Q B A y z ho hQ;cases is with
 |nil=>
  simp only[dU]at d;cases d;refine z.run A B y ho (λ_ _ _ _ c u=>hQ _ _ _ (c.fin u)) (λ_ _ _ _ i c hi hd=> ?_) _ _ _ _ _ rfl;rcases c.all i (eZ hi).1 with q|q
  ·exact(hd q).elim
  ·cases q
 |cons i is=>
  simp only[dU]at d;split at d
  ·rename_i o mask ho' hm';rw[cH]at ho' hm';obtain⟨t1,t2,t3,ai,t4,t5⟩:=topo_cons z.topo;rw[ho']at t4;injection t4 with t4
   subst t4;have E:Ord ops.toList (i::done):=⟨t1,ho⟩;have ae:i<ops.size:=z.y6 i (b6 ..);obtain⟨oo,Y⟩:∃oo,ops[i]? =some oo:=⟨ops[i],by simp[ae]⟩;obtain⟨ao,q1,c1,c2,c3,c5⟩:=(kH B).2 i oo (by simpa using Y);rw[ho']at q1;injection q1 with q1
   subst q1;have ar:∀r∈rs,vJ P ops base h0 listed μ h r:=λr hr=>(z.p8 r hr).kind;split at d
   ·rename_i hw;exact hD _ _ _ _ _ _ _ _ _ _ d ops nt μ0 h0 w0 a0 listed μ a w (i::done) rd Q B A y (z.adv A ho' z.rel z.st (bl _) ⟨hw,rfl⟩ ar (λb V=>by cases V)) E hQ
   ·rename_i hw
    have aw:(∀{listed:Array Bool} {μ:Mu} {a:Act} {w:World} {j:Nat},Inv P ops as bf base μ0 h0 w0 a0 listed μ a w done (i::is) rs e h->j∈Region.ready .any ops listed->j ∉ done->j=i)→
     ∀{v:Value} {D:Heap} {U:List Rec},aop {h with log:=[]} h.next (bD e (cA o)) o.op=some (.val v D)->br {D with log:=aB base h.log D.log} base D.log mask rs=some U→
     dU T n base as is bf U (bN e o.dst v) {D with log:=aB base h.log D.log}=some (x,e',h')->wpAnyIn (Fw rd) 0 P .any ops Q (unl ops listed) listed a w:=by
     intro W v D U f L bj;refine z.run A B y ho (λ_ _ _ _ c u=>(t2 (c.sub i (u i ae))).elim) (λlisted μ a w j c G C k H=> ?_) _ _ _ _ _ rfl;have X:=W c G C;subst X;have hE:cK μ (bD e (cA o)) a.tmps:=c.look A G ho' λt v S=>lY S;unfold wpOpIn;simp only[Y];rw[c5 (λs _ _ v S=>hE s v S) hw];simp only[if_true];refine⟨λ_ _=>gF,?_⟩;rw[Oper.semAt_eq _ _ _ (tr c3 (A.EI _ o ho'))];have hA:=oZ f;have J:R P μ ({h with log:=[]}:Heap) w:=c.rel.congr rfl rfl;refine xU (Gk J hE c3 f) λμ' v' Z F k2 M=> ?_;have M:St μ h w μ' D Z:=M.pq rfl rfl;subst H;rw[←c2];exact hD _ _ _ _ _ _ _ _ _ _ bj ops nt μ0 h0 w0 a0 _ μ' _ Z (j::done) rd Q B A y (c.bar A G ho' hm' (by rw[c2];exact c1) (by rw[c.tm];exact y) F (k2.congr rfl rfl) (M.ja rfl) hA.next (λb V hl=>hA.same b V V hl) L) E hQ
    simp only[cond_eq_ite]at d;split at d
    ·rename_i heager;split at d
     ·rename_i v D f;split at d
      ·rename_i hnew;split at d
       ·rename_i N;obtain⟨bi,rfl,cf⟩:=OM hnew c3 f;obtain⟨r1,r2⟩:=z.rel.X4 bi;have ci:μ h.next=none:=by
         cases hm:μ h.next with
         |none=>rfl
         |some k=>exact absurd (z.rel.dom _ _ hm).1 (pp _)
        refine hD _ _ _ _ _ _ _ _ _ _ d ops nt μ0 h0 w0 a0 listed μ a w (i::done) rd Q B A y (z.adv A ho' r1 (z.st.trans r2 z.nx0) (ti _) ⟨hw,A.EI i o ho',bi,oo,Y,by rw[Heap.dH,if_pos rfl],cf,z.nx0,λ_=>ci⟩ (λr hr=> ?_) (λb V r hr O=> ?_)) E hQ
        ·have H:=ar r hr;unfold vJ at H⊢;cases O:r.k with
         |skip=>rw[O]at H;exact H
         |quiet=>
          rw[O]at H;obtain⟨F,k2,M,_⟩:=H;exact⟨F,k2,M,Gx (zW N r hr) O M⟩
         |made b=>
          rw[O]at H;obtain⟨F,k2,ob,o2,M,k4,k5⟩:=H;have:=z.rel.lt b _ k4;exact⟨F,k2,ob,o2,M,by rw[Heap.dH,if_neg (by omega)];exact k4,k5⟩
        ·cases V;have H:=ar r hr;unfold vJ at H;rw[O]at H;obtain⟨_,_,ob,_,_,k4,_⟩:=H;exact pp _ (z.rel.lt _ _ k4)
       ·cases d
      ·rename_i hnew;split at d
       ·rename_i hnx;have be:cQ o.op=true:=by
         unfold jb at heager;simp only[oB]at heager;rcases heager with q|q
         ·exact q
         ·exact(hnew q).elim
        have hh:D=h:=by
         rcases zm be f with q|⟨ob,rfl⟩
         ·exact q
         ·rw[beq_eq]at hnx;simp only[decide_eq_true_eq]at hnx;exact absurd hnx (by show¬h.next+1=h.next;omega)
        subst hh;exact hD _ _ _ _ _ _ _ _ _ _ d ops nt μ0 h0 w0 a0 listed μ a w (i::done) rd Q B A y (z.adv A ho' z.rel z.st (bl _) ⟨hw,A.EI i o ho',be,f⟩ ar (λb V=>by cases V)) E hQ
       ·split at d
        ·rename_i u;split at d
         ·rename_i v D f;split at d
          ·rename_i U L;exact aw (λ{listed μ a w j} c G C=>by
            rcases c.all j (eZ G).1 with q|q
            ·exact(C q).elim
            ·rcases List.mem_cons.1 q with q|q
             ·exact q
             ·obtain⟨m,bo,cd⟩:=zl u q;exact(t2 (c.sub i (c.before A G bo ae cd))).elim) f L d
          ·cases d
         ·cases d
        ·cases d
     ·cases d
    ·rename_i hne;have W:∀{listed:Array Bool} {μ:Mu} {a:Act} {w:World} {j:Nat},Inv P ops as bf base μ0 h0 w0 a0 listed μ a w done (i::is) rs e h->j∈Region.ready .any ops listed->j ∉ done->j=i:=λ{listed μ a w j} c G C=>by
      rcases c.all j (eZ G).1 with q|q
      ·exact(C q).elim
      ·rcases List.mem_cons.1 q with q|q
       ·exact q
       ·rcases t5 with t5|t5
        ·exact(hne t5).elim
        ·obtain⟨p,cj,cJ⟩:=t5 j q;exact(topo_not c.topo p cJ (c.sub p ((eZ G).2.2 p cj))).elim
     have aE:∀(listed:Array Bool) (μ:Mu) (a:Act) (w:World),Inv P ops as bf base μ0 h0 w0 a0 listed μ a w done (i::is) rs e h->(∀i,i<ops.size->Lst listed i)->Q .normal a w:=λ_ _ _ _ c u=>(t2 (c.sub i (u i ae))).elim;split at d
     ·rename_i v D f;split at d
      ·rename_i U L;exact aw W f L d
      ·cases d
     ·rename_i fn args h3 f;split at d
      ·rename_i v D hcall;split at d
       ·rename_i U L;refine z.run A B y ho aE (λlisted μ a w j c G C k H=> ?_) _ _ _ _ _ rfl;have X:=W c G C;subst X;have hE:cK μ (bD e (cA o)) a.tmps:=c.look A G ho' λt v S=>lY S;unfold wpOpIn;simp only[Y];rw[c5 (λs _ _ v S=>hE s v S) hw];simp only[if_true];refine⟨λ_ _=>gF,?_⟩;have J:R P μ ({h with log:=[]}:Heap) w:=c.rel.congr rfl rfl;obtain⟨_,nd,I,ha,K⟩:=Ba J hE c3 f;rw[Oper.semAt_eq _ _ _ nd];have ba:oQ P (gU P μ ({h with log:=[]}:Heap) w (.ret v) D) ((execOp a.eval oo).run P w):=by
         obtain⟨g1,g2⟩:=hC _ _ _ _ _ hcall rfl μ w I J ha;rcases K with⟨g,e1,e2⟩|⟨l,k,e1,e2,e3⟩
         ·rw[e2];exact g1 g e1
         ·rw[e3];exact g2 l k e1 e2
        have hA:=(eO.all hT.aF n).iZ _ _ _ _ _ hcall rfl;refine jo ba (λv' Z N=> ?_) (λch Z N=> ?_) (λZ N=> ?_)
        ·obtain⟨μ',F,k2,M⟩:=N;have M:St μ h w μ' D Z:=M.pq rfl rfl;subst H;rw[←c2];exact hD _ _ _ _ _ _ _ _ _ _ d ops nt μ0 h0 w0 a0 _ μ' _ Z (j::done) rd Q B A y (c.bar A G ho' hm' (by rw[c2];exact c1) (by rw[c.tm];exact y) F (k2.congr rfl rfl) (M.ja rfl) hA.next (λb V hl=>hA.same b V V hl) L) E hQ
        ·obtain⟨μ',F,_⟩:=N;exact F.elim
        ·obtain⟨μ',F,_⟩:=N;exact F.elim
       ·cases d
      ·rename_i v D hcall;cases d;refine z.run A B y ho aE (λlisted μ a w j c G C k H=> ?_) _ _ _ _ _ rfl;have X:=W c G C;subst X;have hE:cK μ (bD e (cA o)) a.tmps:=c.look A G ho' λt v S=>lY S;unfold wpOpIn;simp only[Y];rw[c5 (λs _ _ v S=>hE s v S) hw];simp only[if_true];refine⟨λ_ _=>gF,?_⟩;have J:R P μ ({h with log:=[]}:Heap) w:=c.rel.congr rfl rfl;obtain⟨_,nd,I,ha,K⟩:=Ba J hE c3 f;rw[Oper.semAt_eq _ _ _ nd];have ba:oQ P (gU P μ ({h with log:=[]}:Heap) w (.panic v) D) ((execOp a.eval oo).run P w):=by
        obtain⟨g1,g2⟩:=hC _ _ _ _ _ hcall rfl μ w I J ha;rcases K with⟨g,e1,e2⟩|⟨l,k,e1,e2,e3⟩
        ·rw[e2];exact g1 g e1
        ·rw[e3];exact g2 l k e1 e2
       refine jo ba (λv' Z N=> ?_) (λch Z N=> ?_) (λZ N=> ?_)
       ·obtain⟨μ',F,_⟩:=N;exact F.elim
       ·obtain⟨μ',F,k2,M⟩:=N;exact hQ _ _ _ ⟨μ',F,k2.congr rfl rfl,(c.st.trans (M.pq rfl rfl) c.nx0).ja rfl,(λt v S=>by cases S),c.tm,c.df⟩
       ·obtain⟨μ',F,_⟩:=N;exact F.elim
      ·cases d
     ·cases d
   ·cases d
  ·cases d
theorem nZ.ok(J:ez P T)(F:nZ P T n):I7 P T n:=by
 intro base as u bf e h x C D E K ops Y μ w a rd X B id d l o k G g _ L;obtain⟨d1,y,z,A,I⟩:=Cw (kH d).1 l;refine wpIn_region_any J.mixed ?_;obtain⟨Z,r2⟩:=k.world (w':={w with drawn:=w.drawn+1}) rfl;have c:∀i,¬Lst (Array.replicate ops.size false) i:=λi=>by
  unfold Lst;simp[pt,Array.getElem?_replicate];split<;>simp
 have H:Inv P ops as bf base μ h w a (Array.replicate ops.size false) μ a {w with drawn:=w.drawn+1} [] u [] e h:=
  ⟨by simp,λi f=>(c i f).elim,λi f=>(by cases f),λi m p f=>(c i f).elim,A,λj b=>(by cases b),λj m p b=>(by cases b),λj b=>(by cases b),λj b=> .inr (z j (by simpa using b)),λj b=>by simpa using y j b,
   λr q=>(by cases q),λr q=>(by cases q),Z,r2,bl _,K,k.big,λt v O=> .inr (G t v O),rfl,rfl⟩
 have N:unl ops (Array.replicate ops.size false)=ops.size:=by
  unfold unl;rw[List.filter_eq_self.2]
  ·simp
  ·intro j _;have:=c j;unfold Lst at this;simpa using this
 have:=F _ _ _ _ _ _ _ _ _ _ E ops Y μ h w a _ μ a _ [] rd (Post P μ h w X a.tmps.size x C B D) d I o H trivial (λex a' w' M=> ?_)
 ·rw[N]at this;exact this
 ·obtain⟨μ',Q,S,s,U,V,W⟩:=M;exact⟨μ',Q,S,s,U,by rw[W];exact g.step s (s.mono k),V⟩
theorem R.Kl{d:Heap}(e:∀b,d.get b=h1.get b)(h:d.next=h1.next)(c:R P μ h1 w):R P μ d w:=
 ⟨by rw[h];exact c.big,λg o h1 d=>c.lR g o h1 (by rw[←e];exact d),λb o a=>c.obj b o (by rw[←e];exact a),λb o a=>by rw[h];exact c.lt b o (by rw[←e];exact a),
  λb k a=>by rw[h];exact c.dom b k a,λb j o m k l i a f=>c.kT b j o m k l i (by rw[←e];exact a) (by rw[←e];exact f)⟩
theorem Wr.Kl{a:Heap}(c:∀b,a.get b=h1.get b){r:Nat}(d:Wr μ a r):Wr μ h1 r:=by
 obtain⟨b,o,k,e,f⟩:=d;exact⟨b,o,k,by rw[←c];exact e,f⟩
theorem R.forget{μ0:Mu}{a:Heap}{w0 g:World}(c:R P μ0 a w0)(i:R P μ1 h1 g)(p:St μ0 a w0 μ1 h1 g)(h:AS a.next a h1)(j:h1.log=[]):
 R P μ0 a g/\St μ0 a w0 μ0 a g:=by
 obtain⟨μ2,l,_,e,_⟩:=Kk c i p h (v:= .bool true) (v':= .bool true) (.bool true);have f:gcA a h1 (.bool true)={h1 with cm:=nH (h1.next-a.next) h1.cm,next:=a.next}:=by
  unfold gcA;rw[j];rfl
 have q:(gcA a h1 (.bool true)).next=a.next:=by rw[f]
 have d:∀b,a.get b=(gcA a h1 (.bool true)).get b:=λb=>by
  rw[f];rw[show({h1 with cm:=nH (h1.next-a.next) h1.cm,next:=a.next}:Heap).get b=if b<a.next then h1.get b else none from Kj c h b];split
  ·rename_i hb;exact(h.same b hb hb (by rw[j];rfl)).symm
  ·rename_i hb;cases hq:a.get b with
   |none=>rfl
   |some o=>exact(hb (c.lt b o hq)).elim
 have u:μ2=μ0:=funext λb=>by
  by_cases hb:b<a.next
  ·exact e.ext b hb
  ·have m:μ2 b=none:=by
    cases hq:μ2 b with
    |none=>rfl
    |some k=>have:=(l.dom b k hq).1;omega
   have n:μ0 b=none:=by
    cases hq:μ0 b with
    |none=>rfl
    |some k=>exact(hb (c.dom b k hq).1).elim
   rw[m,n]
 subst u;exact⟨l.Kl d q.symm,⟨e.ext,e.le,e.keep,λr s t=>e.wr r s (t.Kl d),e.loops,e.same⟩⟩
theorem mT(a:h.get m=some (.map es))(b:Nat):(roM h m es).get b=if b=m then some (.qX es)else h.get b:=by
 have:(roM h m es).get b=if b=m then(h.get m).map (λ_=> .qX es)else h.get b:=tW _ _ _ _
 rw[this];split
 ·rw[a];rfl
 ·rfl
theorem Wr.SK(d:h.get m=some (.map es)){r:Nat}(e:Wr μ (roM h m es) r):Wr μ h r:=by
 obtain⟨b,o,k,a,f,c,g⟩:=e;rw[mT d]at a;split at a
 ·cases a;cases c
 ·exact⟨b,o,k,a,f,c,g⟩
theorem R.toRo(i:R P μ h w)(j:h.get m=some (.map es)):R P μ (roM h m es) w:=by
 refine⟨i.big,λg o z n=> ?_,λb o d=> ?_,λb o d=> ?_,i.dom,λb p o C k u l d f A B v x s=> ?_⟩
 ·rw[mT j]at n;split at n
  ·rename_i e;subst e;cases n;obtain⟨k,a,b,c,_⟩:=i.lR g _ z j;refine⟨k,a,b,c,λ_ _ E t F D=> ?_⟩;obtain⟨y,r,z1,_⟩:=i.obj g _ j k a;rw[D]at z1;cases z1
  ·exact i.lR g o z n
 ·rw[mT j]at d;split at d
  ·rename_i e;subst e;cases d;have q:=i.obj b _ j;exact q
  ·exact i.obj b o d
 ·rw[mT j]at d;split at d
  ·rename_i e;subst e;cases d;exact i.lt b _ j
  ·exact i.lt b o d
 ·rw[mT j]at d f;split at d
  ·rename_i e1;subst e1;cases d;rw[if_neg (Ne.symm l)]at f;have:=i.kT b p _ C k u l j f rfl B v x s;cases this.1
  ·split at f
   ·rename_i e2;subst e2;cases f;have:=i.kT b p o _ k u l d j A rfl v x s;cases this.2
   ·exact i.kT b p o C k u l d f A B v x s
theorem R.SK{w0:World}(f:R P μ h w0)(l:h.get m=some (.map es))(d:R P μ (roM h m es) w):R P μ h w:=by
 have s:∀b o,h.get b=some o->b≠m->(roM h m es).get b=some o:=λb o i p=>by rw[mT l,if_neg p];exact i
 have j:(roM h m es).get m=some (.qX es):=by rw[mT l,if_pos rfl]
 refine⟨d.big,λg o r n=> ?_,λb o i=> ?_,f.lt,d.dom,f.kT⟩
 ·by_cases e:g=m
  ·subst e;rw[l]at n;cases n;obtain⟨k,a,b,c,_⟩:=d.lR g _ r j;exact⟨k,a,b,c,λq=>by cases q⟩
  ·exact d.lR g o r (s g o n e)
 ·by_cases e:b=m
  ·subst e;rw[l]at i;cases i;have q:=d.obj b _ j;exact q
  ·exact d.obj b o (s b o i e)
theorem R.dead(f:R P μ h w){r:Nat}(hr:r<w.heap.size):R P (upd μ h.next ⟨r,0,0,0⟩) (h.push .dead) w/\St μ h w (upd μ h.next ⟨r,0,0,0⟩) (h.push .dead) w:=by
 have s:∀d,μ h.next=some d→False:=λd G=>pp _ (f.dom _ _ G).1
 have z:∀b d,μ b=some d→upd μ h.next ⟨r,0,0,0⟩ b=some d:=λb d a=>by
  unfold upd;rw[if_neg];exact a;intro e;subst e;exact s _ a
 have j:=f.big;refine⟨⟨xa j,λg q H A=> ?_,λb y a=> ?_,λb y a=> ?_,λb d a=> ?_,λb D M N u K p a c B C v x hr=> ?_⟩,⟨λb a=> ?_,bl _,λr hr _=>rfl,λr hr t=> ?_,λr L J=>⟨L,J, .refl L⟩, .refl w⟩⟩
 ·rw[Heap.dH,if_neg (by omega)]at A;obtain⟨u,i,l,m,F⟩:=f.lR g q H A;exact⟨u,z _ _ i,l,m,F⟩
 ·rw[Heap.dH]at a;split at a
  ·cases a;trivial
  ·rename_i e;exact OR.mono z (by unfold upd;rw[if_neg e]) (λd I=>rfl) (f.obj b y a)
 ·rw[Heap.dH]at a;split at a
  ·rename_i e;subst e;exact go _
  ·exact tb (f.lt b y a)
 ·unfold upd at a;split at a
  ·rename_i e;subst e;cases a;exact⟨go _,hr⟩
  ·have:=f.dom b d a;exact⟨tb this.1,this.2⟩
 ·rw[Heap.dH]at a c;unfold upd at v x;split at a
  ·cases a;cases B
  ·rename_i e1;split at c
   ·cases c;cases C
   ·rename_i e2;rw[if_neg e1]at v;rw[if_neg e2]at x;exact f.kT b D M N u K p a c B C v x hr
 ·unfold upd;rw[if_neg (by omega)]
 ·obtain⟨b,o,k,i,l,m,n,E⟩:=t;rw[Heap.dH]at i;split at i
  ·cases i;cases l
  ·rename_i e;unfold upd at n;rw[if_neg e]at n;exact⟨b,o,k,i,l,m,n,E⟩
theorem R.BE(d:R P μ h w){r:Nat}(hr:∀b k,μ b=some k->k.r≠r)(m:w'.heap.size=w.heap.size)(f:∀r',r'≠r->w'.heap[r']? =w.heap[r']?):R P μ h w':=
 ⟨d.big,λg o i j=>let⟨k,a,b,c,x⟩:=d.lR g o i j;⟨k,a,b,c,x.get (f _ (hr _ _ a))⟩,λb o e=>OR.mono (λ_ _ h=>h) rfl (λk l=>f _ (hr _ _ l)) (d.obj b o e),d.lt,λb k e=>⟨(d.dom b k e).1,by have:=(d.dom b k e).2;omega⟩,d.kT⟩
theorem mN{b:AOp}(a:gO P op=some b):
 (∀x,b= .nq x->∃t kt et,op= .range t x/\P.underlying t=some (.map kt et)/\aH P x=true)/\(∀x s,b= .next x s->op= .next x s)/\(∀x i,b= .extract x i->op= .extract x i)/\(∀x,b= .entry x->op= .entry x):=by
 unfold gO at a;split at a
 ·rename_i hall;cases op<;>(try dsimp only at a)
  case range t x=>
   split at a
   ·cases a;exact⟨λ_ h=>(by cases h),λ_ _ h=>(by cases h),λ_ _ h=>(by cases h),λ_ h=>(by cases h)⟩
   ·rename_i kt et hd;cases a;exact⟨λ_ h=>(by cases h;exact⟨_,_,_,rfl,hd,by simpa[Op.operands]using hall⟩),λ_ _ h=>(by cases h),λ_ _ h=>(by cases h),λ_ h=>(by cases h)⟩
   ·cases a
  case next x s=>cases a;exact⟨λ_ h=>(by cases h),λ_ _ h=>(by cases h;rfl),λ_ _ h=>(by cases h),λ_ h=>(by cases h)⟩
  case extract x s=>cases a;exact⟨λ_ h=>(by cases h),λ_ _ h=>(by cases h),λ_ _ h=>(by cases h;rfl),λ_ h=>(by cases h)⟩
  case entry x=>cases a;exact⟨λ_ h=>(by cases h),λ_ _ h=>(by cases h),λ_ _ h=>(by cases h),λ_ h=>(by cases h;rfl)⟩
  all_goals
   repeat' split at a
   all_goals first
    |contradiction
    |(cases a;done)
    |(cases a;exact⟨λ_ h=>(by cases h),λ_ _ h=>(by cases h),λ_ _ h=>(by cases h),λ_ h=>(by cases h)⟩)
    |(obtain⟨_,_,rfl⟩:=ew a;exact⟨λ_ h=>(by cases h),λ_ _ h=>(by cases h),λ_ _ h=>(by cases h),λ_ h=>(by cases h)⟩)
 ·cases a
theorem pn{nt:Nat}{ops:Array Oper}:∀{l:List Oper} {as c:List aP} {g:aP},cB P nt ops l=some as->yq as=some (c,g)→
 ∃h o,l=h++[o]/\cB P nt ops h=some c/\cB P nt ops [o]=some [g]
 |[],as,c,g,h1,h2=>by simp only[cB]at h1;cases h1;cases h2
 |o::os,as,c,g,h1,h2=>by
  cases as with
  |nil=>cases h2
  |cons a as=>
   obtain⟨c1,c2,c3,c4,_⟩:=iD h1;have f:∀e d,cB P nt ops e=some d→cB P nt ops (o::e)=some (a::d):=λe d m=>by
    simp only[cB]at h1⊢;rw[if_pos c1]at h1⊢;rw[c3,m];rw[c3,c4]at h1;dsimp only at h1⊢;cases hg:o.guard with
    |none=>rw[hg]at h1;dsimp only at h1⊢;simp only[Option.some.injEq,List.cons.injEq,and_true]at h1⊢;exact h1
    |some gb=>
     rw[hg]at h1;dsimp only at h1⊢;cases hj:(ops[gb.1]?).bind (·.dst)with
     |none=>rw[hj]at h1;dsimp only at h1;cases h1
     |some t=>rw[hj]at h1;dsimp only at h1⊢;simp only[Option.some.injEq,List.cons.injEq,and_true]at h1⊢;exact h1
   cases as with
   |nil=>
    cases h2;have:os=[]:=by
     cases os with
     |nil=>rfl
     |cons o2 os2=>
      simp only[cB]at c4;repeat' split at c4
      all_goals cases c4
    subst this;exact⟨[],o,rfl,rfl,h1⟩
   |cons b bs=>
    simp only[yq]at h2;split at h2
    ·rename_i l' y hu;cases h2;obtain⟨h,n,i,j,k⟩:=pn c4 hu;exact⟨o::h,n,by rw[i];rfl,f _ _ j,k⟩
    ·cases h2
theorem BM{g:Exit->Act->World->Prop}(d:∀a w,K a w->j a w)(f:∀e a w,e≠ .normal->Q e a w->g e a w){r:Result Next}(b:o.uponIn F n P a K Q r):
 o.uponIn F n P a j g r:=by
 have k:LetsOut Q->LetsOut g:=λ⟨a,w,h⟩=>⟨a,w,f _ _ _ (by simp) h⟩;cases r with
 |ok x w'=>
  cases x<;>simp only[Oper.uponIn]at b⊢ <;>
   first
    |exact d _ _ b
    |exact⟨b.1,CallsIn.mono b.2 (λe i c=>by cases e<;>first|exact d _ _ c|exact f _ _ _ (by simp) c|exact k c)⟩
    |exact⟨b.1,RowsIn.mono b.2 (λ_ _ c=>d _ _ c)⟩
    |exact⟨b.1,RoundIn.mono b.2 (λe i c=>by cases e<;>first|exact d _ _ c|exact f _ _ _ (by simp) c|exact k c)⟩
 |halt x w'=>cases x<;>simp only[Oper.uponIn]at b⊢ <;>first|exact b|exact f _ _ _ (by simp) b
theorem jU{F:Fence}{n:Nat}{ops:Array Oper}{Q:Exit->Act->World->Prop}:∀(l b:List Nat) (a:Act) (w:World),
 wpOpsIn F n P ops (Exit.then (wpOpsIn F n P ops Q b) Q) l a w->wpOpsIn F n P ops Q (l++b) a w
 |[],_,_,_,h=>h
 |i::l,b,a,w,h=>by
  simp only[wpOpsIn,wc]at h⊢;split at h
  ·exact jU l b _ _ h
  ·rename_i o ho;split at h
   ·rename_i hw;rw[if_pos hw];exact⟨h.1,BM (λa w=>jU l b a w) (λe a w hne hq=>by cases e<;>first|exact(hne rfl).elim|exact hq) h.2⟩
   ·rename_i hw;rw[if_neg hw];exact⟨h.1,jU l b _ _ h.2⟩
variable{d:Nat}
theorem qj{f:Option Nat}{ops:Array Oper}{i:Nat}{l:List Nat}{g:AOp}{as:List aP}(b:ops[i]? =some o)(m:cB P nt ops (o::os)=some (⟨some d,g,none⟩::as))
 (n:∀c,o.op≠ .defer c)(hr:(execOp a.eval o).run P w= .ok (.value v) w')(h:wpOpsIn (Fw f) 0 P ops Q l (a.put (some d) v) w'):wpOpsIn (Fw f) 0 P ops Q (i::l) a w:=by
 obtain⟨r,j,s,t,k⟩:=iD m;have q:Region.wanted o (yielded ops a.tmps)=true:=k (e:=[]) (μ:=λ_=>none) (λ_ _ p=>by cases p) rfl;simp only[wpOpsIn,b,q,if_true];refine⟨λ_ _=>gF,?_⟩;rw[Oper.semAt_eq _ _ _ n,hr,Oper.uponIn_value];have:o.dst=some d:=j.symm;rw[this];exact h
theorem pZ(b:d<a.tmps.size):(a.put (some d) v).eval (.tmp d)=v:=by
 show((a.put (some d) v).tmps).getD d undef=v;rw[gQ];simp[Array.getD,b]
theorem Fs{e j:Nat}{k:List Nat}{c:Code}{H:Option Nat}(G:gJ P nt c (.region [⟨some e, .next (.tmp t) false,none⟩,⟨some j, .extract (.tmp e) 0,none⟩] k))(q:nt<=a.tmps.size)
 {r:Nat}(p:a.eval (.tmp t)= .pointer (some ⟨r,0,none⟩)){b:Bool}{l:List Value}(i:∀ty,(Instr.next (.pointer (some ⟨r,0,none⟩)) false ty).run P w= .ok (.tuple (.bool b::l).toArray) w')
 (h:j<nt->e<nt->Q .normal ((a.put (some e) (.tuple (.bool b::l).toArray)).put (some j) (.bool b)) w'):c.wpIn (Fw H) 0 P Q a w:=by
 obtain⟨id,ops,rfl,d⟩:=G.inv;refine wpIn_region ?_;cases hl:ops.toList with
 |nil=>rw[hl]at d;simp[cB]at d
 |cons o1 l1=>
  rw[hl]at d;obtain⟨u,A,B,m,_⟩:=iD d;cases l1 with
  |nil=>simp[cB]at m
  |cons o2 l2=>
   obtain⟨x,C,D,n,_⟩:=iD m;have:l2=[]:=by
    cases l2 with
    |nil=>rfl
    |cons o3 l3=>
     simp only[cB]at n;repeat' split at n
     all_goals cases n
   subst this;have s:ops.size=2:=by
    have:=congrArg List.length hl;simpa using this
   have E:ops[0]? =some o1:=by
    have:ops.toList[0]? =some o1:=by rw[hl];rfl
    simpa using this
   have F:ops[1]? =some o2:=by
    have:ops.toList[1]? =some o2:=by rw[hl];rfl
    simpa using this
   have y:o1.op= .next (.tmp t) false:=(mN B).2.1 _ _ rfl
   have z:o2.op= .extract (.tmp e) 0:=(mN D).2.2.1 _ _ rfl;have f:e<nt:=by
    have:o1.dst=some e:=A.symm;rw[this]at u;simpa[lJ,ub]using u
   have o:j<nt:=by
    have:o2.dst=some j:=C.symm;rw[this]at x;simpa[lJ,ub]using x
   rw[s,show List.range 2=[0,1]from rfl];refine qj E d (λc g=>by rw[y]at g;cases g) (v:= .tuple (.bool b::l).toArray) (w':=w') ?_ ?_
   ·simp only[execOp,y,p];simp[ey,i]
   ·refine qj F m (λc g=>by rw[z]at g;cases g) (v:= .bool b) (w':=w') ?_ (h o f);simp only[execOp,z];rw[pZ (hK f q)];simp[Instr.extract]
open Go.ChangeMaps (setBlock)
theorem AJ:∀{e:Env} {t:Nat} {v:Value},geT e t=some v->(t,v)∈e
 |(k,u)::e,t,v,hq=>by
  simp only[geT,cond_eq_ite,beq_eq,decide_eq_true_eq]at hq;split at hq
  ·rename_i hk;subst hk;cases hq;exact b6
  ·exact bz _ (AJ hq)
theorem BL{a:Env}:∀{e:Env},DY a e=true->∀t v,(t,v)∈e->geT a t=some v
 |(k,u)::e,hs,t,v,hq=>by
  simp only[DY]at hs;split at hs
  ·rename_i v' hv';simp only[cond_eq_ite,Bool.if_false_right,ed,decide_eq_true_eq]at hs;rcases List.mem_cons.1 hq with hh|hh
   ·cases hh;rw[hv',tE hs.1]
   ·exact BL hs.2 t v hh
  ·cases hs
theorem Bd{eo:Env}:∀{a:Env},xm eo a=true->∀t v,(t,v)∈a->flat v=true∨geT eo t=some v
 |(k,u)::a,hs,t,v,hq=>by
  simp only[xm,cond_eq_ite]at hs;split at hs
  ·rename_i hf;rcases List.mem_cons.1 hq with hh|hh
   ·cases hh;exact .inl hf
   ·exact Bd hs t v hh
  ·split at hs
   ·rename_i v' hv';split at hs
    ·rename_i hsm;rcases List.mem_cons.1 hq with hh|hh
     ·cases hh;exact .inr (by rw[hv',tE hsm])
     ·exact Bd hs t v hh
    ·cases hs
   ·cases hs
theorem xZ:∀{a b:Env},tD a b=true->a=b
 |[],[],_=>rfl
 |[],_::_,hs=>by simp[tD]at hs
 |_::_,[],hs=>by simp[tD]at hs
 |(t,v)::e,(t',v')::e',hs=>by
  simp only[tD,cond_eq_ite,beq_eq,decide_eq_true_eq]at hs;split at hs
  ·rename_i ht;subst ht;split at hs
   ·rename_i hv;rw[tE hv,xZ hs]
   ·cases hs
  ·cases hs
def oV(nxt:Nat)(e e2:Env)(x:bk):Prop:=(x= .normal∨x= .exit nxt)/\DY e2 e=true
def Rv(nxt:Nat)(eo e2:Env)(x:bk)(r:Option (bk×Env)):Prop:=(x= .ret∨∃i,x= .exit i/\i≠nxt)/\xm eo e2=true/\r=some (x,e2)
def Rnd(fo fe:Env->Heap->Option (bk×Env×Dfs×Heap))(pr:Nat)(k2:List Nat)(e:Env)(h:Heap)(C:bk->Env->Prop)(p:Value×Value):Prop:=
 ∃e1 h1 x e2 h2,fo ((pr, .tuple #[p.1,p.2])::e) h=some (.normal,e1,[],h1)/\fe (bD e1 k2) h1=some (x,e2,[],h2)/\h2.log=[]/\C x e2
theorem Rnd.mono{b fe:Env->Heap->Option (bk×Env×Dfs×Heap)}{c:List Nat}{C a:bk->Env->Prop}{p:Value×Value}(f:∀x e,C x e->a x e)(hr:Rnd b fe d c e h C p):Rnd b fe d c e h a p:=
 let⟨e1,h1,x,e2,h2,q1,q2,q3,q4⟩:=hr;⟨e1,h1,x,e2,h2,q1,q2,q3,f _ _ q4⟩
theorem zo{g fe:Env->Heap->Option (bk×Env×Dfs×Heap)}{nxt n:Nat}{l:List Nat}{e eo:Env}{h:Heap}:∀{es:List (Value×Value)} {r:Option (bk×Env)},ng g fe nxt n l e eo h es=some r→
 (∀p∈es,Rnd g fe n l e h (λx b=>oV nxt e b x∨Rv nxt eo b x r) p)/\((∀p∈es,Rnd g fe n l e h (λx b=>oV nxt e b x) p)->r=none)
 |[],r,a=>by cases a;exact⟨λp t=>by simp at t,λ_=>rfl⟩
 |(k,v)::es,r,a=>by
  simp only[ng]at a;split at a
  ·rename_i e1 h1 hq1;split at a
   ·rename_i x b h2 hq2;split at a
    ·rename_i hl;split at a
     ·rename_i r0 hr0;obtain⟨i1,i2⟩:=zo hr0;have D:∀C:bk->Env->Prop,C x b->Rnd g fe n l e h C (k,v):=λC c=>⟨e1,h1,x,b,h2,hq1,hq2,hl,c⟩;have w:∀C:bk->Env->Prop,Rnd g fe n l e h C (k,v)->C x b:=λC c=>by
       obtain⟨E,H,K,F,I,y,u,_,G⟩:=c;rw[hq1]at y;cases y;rw[hq2]at u;cases u;exact G
      have o:oV nxt e b x->r0=r->(∀p∈(k,v)::es,Rnd g fe n l e h (λx b=>oV nxt e b x∨Rv nxt eo b x r) p)/\((∀p∈(k,v)::es,Rnd g fe n l e h (λx b=>oV nxt e b x) p)->r=none):=λJ A=>by
       subst A;refine⟨λp t=> ?_,λd=>i2 λp t=>d p (bz _ t)⟩;rcases List.mem_cons.1 t with hh|hh
       ·subst hh;exact D _ (.inl J)
       ·exact i1 p hh
      have m:(x= .ret∨∃i,x= .exit i/\i≠nxt)->xm eo b=true->r=some (x,b)->(r0=none∨r0=r)->(∀p∈(k,v)::es,Rnd g fe n l e h (λx b=>oV nxt e b x∨Rv nxt eo b x r) p)/\((∀p∈(k,v)::es,Rnd g fe n l e h (λx b=>oV nxt e b x) p)->r=none):=λB s z f=>by
       refine⟨λp t=> ?_,λd=> ?_⟩
       ·rcases List.mem_cons.1 t with hh|hh
        ·subst hh;exact D _ (.inr ⟨B,s,z⟩)
        ·refine(i1 p hh).mono λK L c=> ?_;rcases c with c|c
         ·exact .inl c
         ·rcases f with f|f
          ·rw[f]at c;cases c.2.2
          ·rw[f]at c;exact .inr c
       ·have:=w _ (d (k,v) b6);rcases B with rfl|⟨i,rfl,hi⟩
        ·rcases this.1 with q|q<;>cases q
        ·rcases this.1 with q|q
         ·cases q
         ·cases q;exact(hi rfl).elim
      unfold Ga at a;split at a
      ·simp only[cond_eq_ite,dk]at a;exact o ⟨.inl rfl,a.1⟩ (by injection a.2)
      ·cases a
      ·rename_i i;simp only[cond_eq_ite,beq_eq,decide_eq_true_eq]at a;split at a
       ·rename_i hi;subst hi;simp only[dk]at a;exact o ⟨.inr rfl,a.1⟩ (by injection a.2)
       ·rename_i hi;split at a
        ·rename_i s;split at a
         ·cases a;exact m (.inr ⟨i,rfl,hi⟩) s rfl (.inl rfl)
         ·simp only[dk,ed,decide_eq_true_eq]at a;obtain⟨⟨y,u⟩,j⟩:=a;have:=xZ u;subst this;subst y;injection j with j
          exact m (.inr ⟨i,rfl,hi⟩) s j.symm (.inr j)
         ·cases a
        ·cases a
      ·simp only[cond_eq_ite,dk]at a;obtain⟨s,a⟩:=a;split at a
       ·cases a;exact m (.inl rfl) s rfl (.inl rfl)
       ·simp only[dk]at a;obtain⟨u,j⟩:=a;have:=xZ u;subst this;injection j with j
        exact m (.inl rfl) s j.symm (.inr j)
       ·cases a
     ·cases a
    ·cases a
   ·cases a
  ·cases a
theorem MR.at{ms:List MapEntry}(c:MR μ es ms):∀(i:Nat) (a:MapEntry),ms[i]? =some a->∃k v,es[i]? =some (k,v)/\VR μ k a.key/\VR μ v a.val:=by
 induction c with
 |nil=>intro i a b;simp at b
 |cons h1 h2 _ ih=>
  intro i a b;cases i with
  |zero=>simp at b;subst b;exact⟨_,_,rfl,h1,h2⟩
  |succ i=>exact ih i a (by simpa using b)
theorem AS.low{b':Nat}{d:Heap}(a:AS b' h1 d)(hb:b<=b'):AS b h1 d:=
 ⟨a.next,a.keys,λx c=>a.mono x (hK c hb),λx c=>a.same x (hK c hb)⟩
theorem tX{e:Env}:∀{l:List Nat} {t:Nat} {v:Value},geT (bD e l) t=some v->t∈l
 |y::l,t,v,hq=>by
  simp only[bD]at hq;split at hq
  ·simp only[geT,cond_eq_ite,beq_eq,decide_eq_true_eq]at hq;split at hq
   ·rename_i hy;subst hy;exact b6
   ·exact bz _ (tX hq)
  ·exact bz _ (tX hq)
theorem cK.xF(c:cK μ e a.tmps)(f:geT e d=none):cK μ e (a.put (some d) v).tmps:=by
 intro t u b;obtain⟨j,h,i⟩:=c t u b;refine⟨j,?_,i⟩;rw[gQ];have:d≠t:=λg=>by subst g;rw[f]at b;cases b
 simp[this,h]
theorem DR.AO{lo:Nat}{a:Dfs}{ms:List Deferred}(b:DR μ h w lo a ms){w':World}(c:∀(r:Nat) (x:Option (List Deferred)),w.heap[r]? =some (Obj.deferred x)->w'.heap[r]? =some (Obj.deferred x)):DR μ h w' lo a ms:=by
 induction b with
 |nil=>exact .nil
 |cons h1 h2 h3 _ ih=>exact .cons h1 h2 h3 ih
 |mark h1 h0 h2 h3 _ ih=>exact .mark h1 h0 (c _ _ h2) h3 ih
theorem DR.back{ms:List Deferred}(j:R P μ h w)(f:DR μ' h' w lo [] ms):DR μ h w lo [] ms:=by
 generalize hds:([]:Dfs)=ds at f;induction f with
 |nil=>exact .nil
 |cons h1 h2 h3 _ ih=>cases hds
 |mark h1 h0 h2 h3 _ ih=>
  refine .mark h1 h0 h2 (λ⟨b,o,k,g,i,n,d,e⟩=> ?_) (ih hds);have a:=j.obj b o g;cases o with
  |dead=>cases i
  |cells vs own sz=>obtain⟨_,c,l,m,z1,_⟩:=a k d;rw[e,h2]at z1;cases z1
  |map es=>obtain⟨_,_,z1,_⟩:=a k d;rw[e,h2]at z1;cases z1
  |qX es=>obtain⟨_,_,z1,_⟩:=a k d;rw[e,h2]at z1;cases z1
  |loop _ _ _ _ _ _=>obtain⟨_,z1,_⟩:=a k d;rw[e,h2]at z1;cases z1
  |lN _ _=>have z1:=(a k d).2;rw[e,h2]at z1;cases z1
theorem St.X3(a:h.get m=some (.map es))(s:St μ (roM h m es) w μ (roM h m es) w'):St μ h w μ h w':=
 ⟨λ_ _=>rfl,s.le,λr c b=>s.keep r c λq=>b (q.SK a),λ_ _ q=>q,s.loops,s.same⟩
theorem St.BE{μ0:Mu}{w0:World}(s:St μ0 c w0 μ h w){r:Nat}(hr:w0.heap.size<=r)(m:w'.heap.size=w.heap.size)(e:∀a,a≠r->w'.heap[a]? =w.heap[a]?)(b:Same w w'):St μ0 c w0 μ h w':=
 ⟨s.ext,by have:=s.le;omega,λa g i=>(e a (by omega)).trans (s.keep a g i),s.wr,λa L d=>by
  have j:a<w0.heap.size:=(Array.getElem?_eq_some_iff.1 d).1;obtain⟨f,k,l⟩:=s.loops a L d;exact⟨f,(e a (by omega)).trans k,l⟩,s.same.trans b⟩
structure TS (P:Program) (μ0:Mu) (h0:Heap) (wI:World) (μI:Mu) (hI:Heap) (lo sz it r bm clock:Nat) (eo:Env) (ents:Array MapEntry) (es:List (Value×Value)) (C:Value×Value->Prop) (seen:Array Nat) (c0:Nat) (a:Act) (w:World):Prop where
 size:a.tmps.size=sz
 it:a.tmps[it]? =some (.pointer (some ⟨r,0,none⟩))
 env:cK μ0 eo a.tmps
 dr:DR μ0 h0 w lo [] a.defers
 rel:R P μ0 h0 w
 st:St μI hI wI μ0 h0 w
 iter:w.heap[r]? =some (.mapIter (some bm) clock seen c0)
 map:w.heap[bm]? =some (.map ents clock)
 c0:clock<=c0
 done:∀(i:Nat) (en:MapEntry) (p:Value×Value),ents.toList[i]? =some en->es[i]? =some p->seen.contains en.born=true->C p
theorem getElem?_lt_size{α:Type}{a:Array α}{i:Nat}{x:α}(h:a[i]? =some x):i<a.size:=(Array.getElem?_eq_some_iff.1 h).1
theorem MJ(w:ez P T){n:Nat}{μ0:Mu}{a:Heap}{c f:World}{μ2:Mu}{e:Heap}{r:Nat}(h:a.get m=some (.map es))(i:R P μ0 a c)(p:r<c.heap.size)
 (j:AS (a.next+1) ((roM a m es).push .dead) h1)(l:AS (a.next+1) h1 e)(u:e.log=[])(o:R P μ2 e f)(t:St (upd μ0 a.next ⟨r,0,0,0⟩) ((roM a m es).push .dead) c μ2 e f):
 R P μ0 a f/\St μ0 a c μ0 a f/\(∀x,x<c.heap.size->¬Wr μ0 (roM a m es) x->f.heap[x]? =c.heap[x]?)/\(∀b k,μ0 b=some k->μ2 b=some k):=by
 have d:=(i.toRo h).dead p;have g:St μ0 (roM a m es) c μ2 e f:=d.2.trans t (ti _);have s:AS (roM a m es).next (roM a m es) e:=(AS.push _ _ _).trans ((j.trans l).low (ti _))
 obtain⟨v,q⟩:=R.forget (i.toRo h) o g s u;refine⟨R.SK i h v,q.X3 h,q.keep,g.mono (i.toRo h)⟩
theorem OO(hT:ez P T)(hO:uD P T n)(hE:mY P T n){μ0 μI:Mu}{y hI:Heap}{wI:World}{B r G f nx mo out nxt pr:Nat}{km:Blk}{eo:Env}{s:Array MapEntry}
 {O:List aP}{k k2:List Nat}{aE:Option (bk×Env)}{c:Code}
 (eQ:ng (λe h=>fZ T n (y.next+1) rnd O e [] h) (λe h=>cC T n (y.next+1) rnd body e [] h) nxt pr k2 (itE B y eo) eo ((roM y m es).push .dead) es=some aE)
 (hm:y.get m=some (.map es))(eJ:μ0 m=some km)(dC:km.r=G)(du:MR μ0 es s.toList)(hB:qU s.toList f)(J:∀b k,μ0 b=some k->k.r≠r)(ii:wI.heap.size<=r)(hn:hI.next<=y.next)
 (hc:gJ P nt c (.seq (.region [⟨some nx, .next (.tmp B) false,none⟩,⟨some mo, .extract (.tmp nx) 0,none⟩] k) (.seq (.cond (.tmp mo) .skip (.exit out)) (.block nxt (.seq (.region (⟨some pr, .entry (.tmp B),none⟩::O) k2) body)))))
 (aw:nt<=sz)(ke:nx≠mo)(hY:B≠nx)(hJ:B≠mo)(K:geT eo nx=none/\geT eo mo=none)(ik:RdR μ0 rnd rd)(kd:lo<=wI.heap.size)
 (f9:aE=none->∀a w,Post P μI hI wI lo sz .normal eo [] y .normal a w->Q (.exit out) a w)
 (fd:∀i E,aE=some (.exit i,E)->∀a w,Post P μI hI wI lo sz (.exit i) E [] y (.exit i) a w->Q (.exit i) a w)
 (fb:∀E,aE=some (.ret,E)->∀a w,Post P μI hI wI lo sz .ret E [] y .ret a w->Q .ret a w):
 ∀(d:Nat) (u:Array Nat) (c0:Nat) (a:Act) (w:World),(leftOf s u).size<d→
  TS P μ0 y wI μI hI lo sz B r G f eo s es (Rnd (λe h=>fZ T n (y.next+1) rnd O e [] h) (λe h=>cC T n (y.next+1) rnd body e [] h) pr k2 (itE B y eo) ((roM y m es).push .dead) (λx E=>oV nxt (itE B y eo) E x)) u c0 a w→
  c.roundsIn (Fw rd) 0 P Q d a w:=by
 obtain⟨cP,cX⟩:=zo eQ;obtain⟨cs,cz,rfl,dT,gg⟩:=hc.inv;obtain⟨cc,cb,rfl,fX,fw⟩:=gg.inv;obtain⟨cx,cy,rfl,_,D,ge⟩:=fX.inv;have e9:cx= .skip∨∃l,cx= .label l:=D.inv;have:cy= .exit out:=ge.inv;subst this;obtain⟨cq,rfl,fY⟩:=fw.inv;obtain⟨ca,S,rfl,fp,ar⟩:=fY.inv;intro d;induction d with
 |zero=>intro u c0 a w hd;omega
 |succ d ih=>
  intro u c0 a w hd z;have be:a.eval (.tmp B)= .pointer (some ⟨r,0,none⟩):=by
   show a.tmps.getD B undef=_;rw[pt,z.it];rfl
  refine wpIn_seq ?_;have dE:G≠r:=λhh=>J m km eJ (dC.trans hh);have cd:∀x∈s.toList,x.born<f:=λx hx=>hB.2 _ (List.mem_map_of_mem hx);have bo:∀v,cK μ0 eo (a.put (some nx) v).tmps:=λv=>z.env.xF K.1;rcases run_next_at (P:=P) w 0 r G f c0 u s f z.iter z.map cd z.c0 with⟨h0',_⟩|_
  ·
   have M:∀ty,(Instr.next (.pointer (some ⟨r,0,none⟩)) false ty).run P w= .ok (.tuple (.bool false::[]).toArray) w:=λty=>by
    rcases run_next_at (P:=P) w ty r G f c0 u s f z.iter z.map cd z.c0 with⟨_,q⟩|⟨A,W,_⟩
    ·exact q
    ·have:(leftOf s u).toList=[]:=by
      rw[←List.length_eq_zero_iff];simpa using h0'
     rw[this]at W;simp at W
   refine Fs dT (by rw[z.size];exact aw) be M λi5 i7=> ?_;have f0:nx<(a.put (some nx) (.tuple (.bool false::[]).toArray)).tmps.size/\mo<(a.put (some nx) (.tuple (.bool false::[]).toArray)).tmps.size:=by
    rw[dK,z.size];omega
   refine wpIn_seq (wpIn_cond_false (pZ f0.2) (wpIn_exit ?_));refine f9 (cX λp X=> ?_) _ _ ⟨μ0,trivial,z.rel,z.st,(bo _).xF K.2,?_,?_⟩
   ·obtain⟨i,i0,i9⟩:=List.mem_iff_getElem.1 X;have hl:es.length=s.toList.length:=du.length;have eK:i<s.toList.length:=by omega
    refine z.done i s.toList[i] p (bx eK) (by rw[bx i0,i9]) ?_;exact all_seen s u h0' _ (sm _)
   ·rw[put_defers,put_defers];exact z.dr
   ·rw[dK,dK];exact z.size
  ·
   rename_i hround;obtain⟨A,W,w1,d9,Y⟩:=hround;have bj:=mem_left W;have M:∀ty,(Instr.next (.pointer (some ⟨r,0,none⟩)) false ty).run P w= .ok (.tuple (.bool true::[A.key,A.val]).toArray) (setBlock w1 r (.mapIter (some G) f (u.push A.born) f)):=λty=>Y;have il:r<w.heap.size:=getElem?_lt_size z.iter;have N:w1.heap=w.heap:=by rcases d9 with rfl|rfl<;>rfl
   have F:Same w w1:=by rcases d9 with rfl|rfl<;>exact⟨rfl,rfl,rfl,by first|exact bl _|exact qt _ _⟩
   generalize hw2:setBlock w1 r (.mapIter (some G) f (u.push A.born) f)=w2 at M;have g1:w2.heap.size=w.heap.size:=by rw[←hw2];simp[setBlock,N]
   have g2:∀r',r'≠r->w2.heap[r']? =w.heap[r']? :=λr' i6=>by
    rw[←hw2];simp[setBlock,N,gy,Ne.symm i6]
   have g3:w2.heap[r]? =some (.mapIter (some G) f (u.push A.born) f):=by
    rw[←hw2];simp[setBlock,N,gy,il]
   have g4:Same w w2:=by rw[←hw2];exact⟨F.os,F.tape,F.out,F.drawn⟩
   clear hw2 Y F N d9;have R2:R P μ0 y w2:=z.rel.BE J g1 g2;have S2:St μI hI wI μ0 y w2:=z.st.BE ii g1 g2 g4;have D2:DR μ0 y w2 lo [] a.defers:=z.dr.AO λr' x hx=>(g2 r' (λhh=>by rw[hh,z.iter]at hx;cases hx)).trans hx;have L:w2.heap[G]? =some (.map s f):=(g2 _ dE).trans z.map;obtain⟨j,hj,hZ⟩:=List.mem_iff_getElem.1 bj.1;have eI:s.toList[j]? =some A:=by rw[bx hj,hZ]
   obtain⟨kk,vv,X,ip,ix⟩:=du.at j A eI;have ib:(kk,vv)∈es:=eA X;obtain⟨e1,h1,x,E,h2,q1,q2,q3,q4⟩:=cP _ ib;refine Fs dT (by rw[z.size];exact aw) be M λi5 i7=> ?_;generalize ha2:(a.put (some nx) (.tuple (.bool true::[A.key,A.val]).toArray)).put (some mo) (.bool true)=a2;have z1:a2.tmps.size=sz:=by rw[←ha2,dK,dK];exact z.size
   have z2:cK μ0 eo a2.tmps:=by rw[←ha2];exact(bo _).xF K.2
   have z3:a2.defers=a.defers:=by rw[←ha2,put_defers,put_defers]
   have z4:a2.eval (.tmp mo)= .bool true:=by rw[←ha2];exact pZ (by rw[dK,z.size];omega)
   have z5:a2.tmps[B]? =some (.pointer (some ⟨r,0,none⟩)):=by
    rw[←ha2,gQ,gQ];simp[Ne.symm hY,Ne.symm hJ,z.it]
   clear ha2;have ba:∀{Q:Exit->Act->World->Prop} {a:Act} {w:World},Q .normal a w->cx.wpIn (Fw rd) 0 P Q a w:=λhq=>by
    rcases e9 with rfl|⟨l,rfl⟩
    ·exact wpIn_skip hq
    ·exact wpIn_label hq
   refine wpIn_seq (wpIn_cond_true z4 (ba ?_));refine wpIn_block (wpIn_seq ?_);obtain⟨ju,C,rfl,V⟩:=fp.inv;refine wpIn_region ?_;cases hl:C.toList with
   |nil=>rw[hl]at V;simp[cB]at V
   |cons o1 l1=>
    have H:=V;rw[hl]at H;obtain⟨c1,c2,c3,c4,_⟩:=iD H;have io:C.size=l1.length+1:=by
     have:=congrArg List.length hl;simpa using this
    have eh:C[0]? =some o1:=by
     have:C.toList[0]? =some o1:=by rw[hl];rfl
     simpa using this
    have dj:o1.op= .entry (.tmp B):=(mN c3).2.2.2 _ rfl;have ie:pr<nt:=by
     have:o1.dst=some pr:=c2.symm;rw[this]at c1;simpa[lJ,ub]using c1
    have eg:a2.eval (.tmp B)= .pointer (some ⟨r,0,none⟩):=by
     show a2.tmps.getD B undef=_;rw[pt,z5];rfl
    rw[io,List.range_eq_range',List.range'_succ];refine qj eh H (λc hh=>by rw[dj]at hh;cases hh) (v:= .tuple #[A.key,A.val]) (w':=w2) ?_ ?_
    ·simp only[execOp,dj,eg];have:=run_entry_at (P:=P) w2 r G f u s f A g3 L bj.1 hB.1;simp[ey,this]
    ·have dd:=(R2.toRo hm).dead (r:=r) (by omega);have Z:∀b k,μ0 b=some k->upd μ0 y.next ⟨r,0,0,0⟩ b=some k:=dd.2.mono (R2.toRo hm)
     have E0:cK (upd μ0 y.next ⟨r,0,0,0⟩) (itE B y eo) a2.tmps:=by
      intro t v hv;simp only[itE,geT,cond_eq_ite,beq_eq,decide_eq_true_eq]at hv;split at hv
      ·rename_i ht;subst ht;cases hv;exact⟨_,z5,VR.ptr (o:=0) (k:=⟨r,0,0,0⟩) (ek _ _ _)⟩
      ·exact(z2.mono Z) t v hv
     have E1:cK (upd μ0 y.next ⟨r,0,0,0⟩) ((pr, .tuple #[kk,vv])::itE B y eo) (a2.put (some pr) (.tuple #[A.key,A.val])).tmps:=
      cK.put (dst:=some pr) E0 (by simpa[lJ,ub]using ie) (by rw[z1];exact aw) (VR.lI (.cons (ip.mono Z) (.cons (ix.mono Z) .nil)))
     have dv:RdR (upd μ0 y.next ⟨r,0,0,0⟩) rnd rd:=ik.mono Z;have D3:DR (upd μ0 y.next ⟨r,0,0,0⟩) ((roM y m es).push .dead) w2 lo [] (a2.put (some pr) (.tuple #[A.key,A.val])).defers:=by
      rw[put_defers,z3];exact(DR.back (R2.toRo hm) D2).step dd.2 Z
     have bi:lo<=w2.heap.size:=by have:=z.st.le;omega
     have ae:=(eO.all hT.aF n).ops _ _ _ _ _ _ _ _ _ _ q1 (bl _);have f8:=(eO.all hT.aF n).exec _ _ _ _ _ _ _ _ _ _ q2 ae.next
     have ho:=hO _ _ _ _ _ _ _ _ _ _ q1 (bl _) C 1 l1.length nt _ w2 (a2.put (some pr) (.tuple #[A.key,A.val])) rd lo (by omega) (by rw[hl];simpa using c4) (by rw[dK,z1];exact aw) dd.1 E1 D3 dv bi;refine gz (λex a3 w3 X=> ?_) _ _ _ ho;cases ex with
     |exit i=>obtain⟨_,g,_⟩:=X;exact g.elim
     |goto l=>obtain⟨_,g,_⟩:=X;exact g.elim
     |ret=>obtain⟨_,g,_⟩:=X;exact g.elim
     |panic ch=>obtain⟨_,g,_⟩:=X;exact g.elim
     |outgrown=>obtain⟨_,g,_⟩:=X;exact g.elim
     |normal=>
      obtain⟨μ1,_,p2,p3,p4,p5,p6⟩:=X;have i4:=p3.mono dd.1;have jz:a3.tmps.size=sz:=by rw[p6,dK];exact z1
      have he:=hE _ _ _ _ _ _ _ _ _ _ q2 ae.next S nt μ1 w3 a3 rd lo ar (by omega) p2 (p4.keep k2) p5 (dv.mono i4) (gd bi p3.le)
      refine ej (λex a5 w5 i8=> ?_) he;obtain⟨μ2,x1,x2,x3,x4,x5,x6⟩:=i8.trans p3 ae.next
      obtain⟨y1,y2,y3,y4⟩:=MJ hT (n:=n) hm R2 (by omega) ae f8 q3 x2 x3;have jp:¬Wr μ0 (roM y m es) r:=λ⟨b,o,k',U,f2,f3,f4,f5⟩=>J b k' f4 f5;have jn:¬Wr μ0 (roM y m es) G:=λ⟨b,o,k',U,f2,f3,f4,f5⟩=>by
       rw[mT hm]at U;split at U
       ·cases U;cases f3
       ·rename_i hbm';have:=z.rel.kT b m o _ k' km hbm' U hm f2 rfl f4 eJ (f5.trans dC.symm);cases this.2
      have fj:G<w2.heap.size:=getElem?_lt_size L;have u7:w5.heap[r]? =some (.mapIter (some G) f (u.push A.born) f):=(y3 r (by omega) jp).trans g3;have u8:w5.heap[G]? =some (.map s f):=(y3 G fj jn).trans L;have u5:a5.tmps.size=sz:=x6.trans jz;have S5:St μI hI wI μ0 y w5:=S2.trans y2 hn;have D5:DR μ0 y w5 lo [] a5.defers:=DR.back y1 x5;have da:xm eo E=true->cK μ0 E a5.tmps:=λho t v hv=>by
       obtain⟨v',U,f2⟩:=x4 t v hv;refine⟨v',U,?_⟩;rcases Bd ho t v (AJ hv)with hf|hf
       ·rw[(VR.flat hf).2 _ f2];exact(VR.flat hf).1
       ·obtain⟨v0,_,f3⟩:=z.env t v hf;exact f3.inj y4 f2▸f3
      have dp:oV nxt (itE B y eo) E x->TS P μ0 y wI μI hI lo sz B r G f eo s es (Rnd (λe h=>fZ T n (y.next+1) rnd O e [] h) (λe h=>cC T n (y.next+1) rnd body e [] h) pr k2 (itE B y eo) ((roM y m es).push .dead) (λx E=>oV nxt (itE B y eo) E x)) (u.push A.born) f a5 w5:=λD=>by
       have cf:=D.2;refine⟨u5,?_,λt v hv=> ?_,D5,y1,S5,u7,u8,bl _,λi ci p' cj cJ cY=> ?_⟩
       ·obtain⟨v',U,f2⟩:=x4 B _ (BL cf B _ b6);cases f2 with
        |ptr hk=>
         rename_i k';rw[x3.ext y.next (go _)]at hk;replace hk:upd μ0 y.next ⟨r,0,0,0⟩ y.next=some k':=hk
         rw[ek]at hk;cases hk;exact U
       ·obtain⟨v',U,f2⟩:=x4 t v (BL cf t v (bz _ (AJ hv)));obtain⟨v0,_,f3⟩:=z.env t v hv;exact⟨v',U,f3.inj y4 f2▸f3⟩
       ·rw[contains_push]at cY;by_cases hse:u.contains ci.born=true
        ·exact z.done i ci p' cj cJ hse
        ·have fg:ci.born=A.born:=by
          simp only[Bool.not_eq_true]at hse;rw[hse]at cY;simpa using cY
         have gt:i=j:=by
          refine(List.getElem?_inj (l:=s.toList.map (·.born)) ?_ hB.1).1 ?_
          ·rw[po];exact(List.getElem?_eq_some_iff.1 cj).1
          ·rw[rb,rb,cj,eI];simp[fg]
         subst gt;rw[X]at cJ;cases cJ;exact⟨e1,h1,x,E,h2,q1,q2,q3,D⟩
      have next:oV nxt (itE B y eo) E x->Code.roundsIn (Fw rd) 0 P (Code.seq cs (Code.seq (Code.cond (.tmp mo) cx (.exit out)) (Code.block nxt (Code.seq (Code.region ju C false) S)))) Q d a5 w5:=λD=>
       ih _ _ _ _ (by have:=left_shrinks s u A W;omega) (dp D)
      rcases q4 with D|⟨hx,ho,hr⟩
      ·have f7:=next D
       rcases D.1 with rfl|rfl
       ·cases ex with
        |normal=>exact f7
        |_=>exact x1.elim
       ·cases ex with
        |exit i=>
         have:nxt=i:=x1;subst this;simp only[Exit.then,Exit.inBlock,if_true];exact f7
        |_=>exact x1.elim
      ·have E5:=da ho;rcases hx with rfl|⟨i,rfl,hine⟩
       ·cases ex with
        |ret=>exact fb E hr _ _ ⟨μ0,trivial,y1,S5,E5,D5,u5⟩
        |_=>exact x1.elim
       ·cases ex with
        |exit i'=>
         have:i=i':=x1;subst this;simp only[Exit.then,Exit.inBlock,if_neg hine];exact fd i E hr _ _ ⟨μ0,rfl,y1,S5,E5,D5,u5⟩
        |_=>exact x1.elim
theorem iA{l:List Nat}(h:t ∉ l):geT (bD e l) t=none:=by
 cases hq:geT (bD e l) t with
 |none=>rfl
 |some v=>exact(h (tX hq)).elim
theorem Ff(hT:ez P T)(hO:uD P T n)(hE:mY P T n):∀base C ops F ox keep H G pr A k2 z e ds h x N u E,cC T (n+1) base C (.rangeMap ops F ox keep H G pr A k2 z) e ds h=some (x,N,u,E)->base<=h.next→
 ∀c nt μ w (a:Act) rd M,gJ P nt c (.rangeMap ops F ox keep H G pr A k2 z)->nt<=a.tmps.size->R P μ h w->cK μ e a.tmps->DR μ h w M ds a.defers->RdR μ C rd->M<=w.heap.size->c.wpIn (Fw rd) 0 P (Post P μ h w M a.tmps.size x N u E) a w:=by
 intro base C ops F ox keep H G pr A k2 z e ds h x N u E f hb c nt μ w a rd M hc ba hR cd hD be aE;simp only[cC]at f;obtain⟨cy,cz,du,nx,mo,k,wK,rfl,cJ,hu,cP,da,cY,cX,y⟩:=hc.inv;obtain⟨id,j,rfl,cj⟩:=cJ.inv;refine wpIn_seq (wpIn_region ?_);obtain⟨l0,o,hl,hc0,O⟩:=pn cj hu;have dj:j.size=l0.length+1:=by
  have:=congrArg List.length hl;simpa using this
 have K:j[l0.length]? =some o:=by
  have:j.toList[l0.length]? =some o:=by rw[hl];simp
  simpa using this
 rw[dj,A1,List.range_eq_range'];refine jU _ _ _ _ ?_;have run:∀x N u E,fZ T n base C ops e ds h=some (x,N,u,E)->wpOpsIn (Fw rd) 0 P j (Post P μ h w M a.tmps.size x N u E) (List.range' 0 l0.length) a w:=λx N u E hq=>
  hO _ _ _ _ _ _ _ _ _ _ hq hb j 0 l0.length nt μ w a rd M (by omega) (by rw[hl];simpa using hc0) ba hR cd hD be aE
 split at f
 ·rename_i e0 ds0 h0 hq;have hA:=(eO.all hT.aF n).ops _ _ _ _ _ _ _ _ _ _ hq hb;refine gz (λex V D s=> ?_) _ _ _ (run _ _ _ _ hq);cases ex with
  |exit i=>obtain⟨_,g,_⟩:=s;exact g.elim
  |goto l=>obtain⟨_,g,_⟩:=s;exact g.elim
  |ret=>obtain⟨_,g,_⟩:=s;exact g.elim
  |panic ch=>obtain⟨_,g,_⟩:=s;exact g.elim
  |outgrown=>obtain⟨_,g,_⟩:=s;exact g.elim
  |normal=>
   obtain⟨μ1,_,S,p3,p4,p5,p6⟩:=s;have d9:=p3.mono hR;have Z:=O;obtain⟨c1,c2,c3,_,_⟩:=iD Z;obtain⟨ty,kt,et,eo,bi,bj⟩:=(mN c3).1 _ rfl;have dp:F<nt:=by
    have:o.dst=some F:=c2.symm;rw[this]at c1;simpa[lJ,ub]using c1
   have L:F<V.tmps.size:=by omega
   obtain⟨cq,rfl,ci⟩:=cP.inv;obtain⟨cl,rfl,Y⟩:=ci.inv;have B:F ∉ keep/\nx ∉ keep/\mo ∉ keep:=⟨λq=>(y _ q).1 rfl,λq=>(y _ q).2.1 rfl,λq=>(y _ q).2.2 rfl⟩;split at f
   ·cases f
   ·split at f
    ·
     rename_i hx;cases f;have g:=bW S p4 bj hx;generalize hev:V.eval ox=xv at g;cases g;refine qj K O (λc hh=>by rw[eo]at hh;cases hh) (v:= .pointer (some ⟨D.heap.size,0,none⟩)) (w':=D.alloc (.mapIter none 0 #[] 0)) ?_ ?_
     ·simp only[execOp,eo,hev];simp[ey,run_range_nilMap D ty kt et bi]
     ·obtain⟨j1,j2⟩:=S.AO (w':=D.alloc (.mapIter none 0 #[] 0)) rfl;have ar:(V.put (some F) (.pointer (some ⟨D.heap.size,0,none⟩))).eval (.tmp F)= .pointer (some ⟨D.heap.size,0,none⟩):=pZ L;refine wpIn_block (wpIn_loop_rounds 1 ?_);rw[roundsIn_succ];obtain⟨dv,dC,rfl,W,X⟩:=Y.inv;obtain⟨cc,cb,rfl,cf,dE⟩:=X.inv;obtain⟨cx,bo,rfl,_,dT,ae⟩:=cf.inv;have:bo= .exit H:=ae.inv;subst this;refine wpIn_seq ?_;refine Fs W (by rw[dK];omega) ar (b:=false) (l:=[]) (λt=>run_next_nilMap D t 0 0 #[]) λe9 eg=> ?_;refine wpIn_seq (wpIn_cond_false (pZ (by rw[dK,dK];omega)) (wpIn_exit ?_));simp only[Exit.then,Exit.inBlock,if_true];refine⟨μ1,trivial,j1,p3.trans j2 hA.next,(((p4.keep keep).xF (iA B.1)).xF (iA B.2.1)).xF (iA B.2.2),?_,?_⟩
      ·rw[put_defers,put_defers,put_defers];exact p5.step j2 (λ_ _ h=>h)
      ·rw[dK,dK,dK];exact p6
    ·
     rename_i m hx;split at f
     ·rename_i es hmg;obtain⟨rfl,rfl⟩:=F2 f;have g:=bW S p4 bj hx;generalize hev:V.eval ox=xv at g;cases g with
      |map hkm=>
       rename_i km;obtain⟨J,d,z1,z2,z3⟩:=S.obj m _ hmg km hkm;refine qj K O (λc hh=>by rw[eo]at hh;cases hh) (v:= .pointer (some ⟨D.heap.size,0,none⟩)) (w':=D.alloc (.mapIter (some km.r) d #[] d)) ?_ ?_
       ·simp only[execOp,eo,hev];simp[ey,run_range_map D ty kt et km.r J d bi z1]
       ·obtain⟨j1,j2⟩:=S.AO (w':=D.alloc (.mapIter (some km.r) d #[] d)) rfl;have Q:∀b k,μ1 b=some k->k.r≠D.heap.size:=λb k hb=>by have:=(S.dom b k hb).2;omega
        have aw:=(S.dom m km hkm).2;generalize hres:ng (λe h=>fZ T n (E.next+1) C A e [] h) (λe h=>cC T n (E.next+1) C z e [] h) G pr k2 (itE F E (bD e0 keep)) (bD e0 keep) ((roM E m es).push .dead) es=R1 at f;cases R1 with
        |none=>cases f
        |some res=>
         refine wpIn_block (wpIn_loop_rounds ((leftOf J #[]).size+1) ?_);refine OO hT hO hE (wI:=w) (μI:=μ) (hI:=h) (lo:=M) (sz:=a.tmps.size) hres hmg hkm rfl z2 z3 Q p3.le hA.next Y ba da cY cX ⟨iA B.2.1,iA B.2.2⟩ (be.mono d9) aE ?_ ?_ ?_ _ #[] d _ _ (go _) ?_
         ·intro hr a' U s;subst hr;cases f;simp only[Exit.then,Exit.inBlock,if_true];exact s
         ·intro i e2 hr a' U s;subst hr;simp only[Hl,cond_eq_ite,beq_eq,decide_eq_true_eq]at f;split at f
          ·rename_i hio;cases f;simp only[Exit.then,Exit.inBlock,if_pos hio];obtain⟨μ',q1,q2⟩:=s;exact⟨μ',trivial,q2⟩
          ·rename_i hio;cases f;simp only[Exit.then,Exit.inBlock,if_neg hio];exact s
         ·intro e2 hr a' U s;subst hr;cases f;simp only[Exit.then,Exit.inBlock];exact s
         ·refine⟨by rw[dK];exact p6,?_,(p4.keep keep).xF (iA B.1),?_,j1,p3.trans j2 hA.next,?_,?_,bl _,λi en p _ _ hs=> ?_⟩
          ·rw[gQ];simp[L]
          ·rw[put_defers];exact p5.step j2 (λ_ _ h=>h)
          ·exact heap_alloc_new _ _
          ·exact(heap_alloc_old _ _ aw).trans z1
          ·simp at hs
     ·cases f
    ·cases f
 ·rename_i hne;refine gz (λex V D s=> ?_) _ _ _ (run _ _ _ _ f);cases ex with
  |normal=>have:=s.normal;subst this;exact(hne _ _ _ f).elim
  |_=>exact s
structure sD (P:Program) (T:Nat->Option aq) (n:Nat):Prop where
 exec:mY P T n
 loop:tN P T n
 ops:uD P T n
 draw:nZ P T n
 iZ:ql P T n
 call:tM P T n
 unw:zj P T n
 defer:sE P T n
 gp:qm P T n
 kj:tO P T n
theorem sD.zero:sD P T 0 where
 exec:=λ_ _ _ _ _ _ _ _ _ _ h=>by simp[cC]at h
 loop:=λ_ _ _ _ _ _ _ _ _ _ h=>by simp[cC]at h
 ops:=λ_ _ _ _ _ _ _ _ _ _ h=>by simp[fZ]at h
 draw:=λ_ _ _ _ _ _ _ _ _ _ h=>by simp[dU]at h
 iZ:=λ_ _ _ _ _ h=>by simp[gG]at h
 call:=λ_ _ _ _ _ h=>by simp[iJ]at h
 unw:=λ_ _ _ _ _ _ _ _ h=>by simp[nE]at h
 defer:=λ_ _ _ _ _ _ h=>by simp[jF]at h
 gp:=λ_ _ _ _ _ _ _ _ _ h=>by simp[gH]at h
 kj:=λ_ _ _ _ _ _ _ _ _ h=>by simp[iO]at h
theorem sD.succ(b:ez P T){n:Nat}(a:sD P T n):sD P T (n+1):=
 have c:=tN.succ b a.exec a.loop
 {exec:=mY.V6 b a.exec a.ops (a.draw.ok b) c (Ff b a.ops a.exec) (PJ b a.call)
  loop:=c
  ops:=uD.succ b a.ops a.iZ
  draw:=nZ.succ b a.draw a.iZ
  iZ:=ql.succ b a.exec a.call
  call:=tM.succ b a.exec a.unw
  unw:=zj.succ b a.unw a.defer
  defer:=sE.succ b a.gp
  gp:=qm.succ b a.gp a.kj
  kj:=tO.succ b a.kj}
theorem sD.all(a:ez P T):∀n,sD P T n
 |0=> .zero
 |n+1=> .succ a (sD.all a n)
theorem Eh(c:ez P T){f:Nat}{args:List Value}{a:Res}(h1:iJ T n f args h=some (a,h'))(e:h.log=[]){args':List Value}(b:R P μ h w)(d:LR μ args args'):
 oQ P (gU P μ h w a h') ((callFunc f args'.toArray).run P w):=(sD.all c n).call _ _ _ _ _ h1 e _ _ _ b d
theorem mM(b:ez P T){f:Nat}{args:List Value}{a:Res}(h1:iJ T n f args h=some (a,h'))(g:h.log=[])(e:gw (T f)=false){args':List Value}(c:R P μ h w)(d:LR μ args args'):
 Calls P f args'.toArray w (gU P μ h w a h'):=by
 have:=Eh b h1 g c d;rw[jP b e]at this;exact callsIn_wide.1 this
end Go.A
end
