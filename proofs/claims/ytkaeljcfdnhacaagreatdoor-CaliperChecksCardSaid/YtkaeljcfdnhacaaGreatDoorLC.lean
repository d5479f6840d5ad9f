/- The runs of the machine are sound. -/
import Derived.Test.YtkaeljcfdnhacaaGreatDoorLB
import Derived.RangeFuncLeaves
import Derived.RangeFuncCalls
import Derived.RecoverIn
import Derived.LoopNIn
import Derived.Scope
import Derived.OrdersIn
import Derived.Maps.RangeRun
set_option linter.all false
section
namespace Go.A
variable {P:Program} {μ:Mu} {h:Heap} {w:World} {e:Env} {a:Act} {base:Nat}
def kindOk(ao:AOp):cZ->Prop
 | .val _ _=>True
 | .call _ _ _=>∃f as,ao= .call f as
 | .kF _ _=>∃f as,ao= .kF f as
 | .panic _ _=>∃x,ao= .uN x
 | .recover=>ao= .recover
theorem lF{b:AOp}{x:Option (Value×Heap)}{a:cZ}(h1:fS x=some a):kindOk b a:=by
 cases x with
 |none=>cases h1
 |some p=>cases h1;trivial
theorem mH{c:AOp}{b:cZ}(h1:aop h base e c=some b):kindOk c b:=by
 cases c;case call f as=>
  cases b<;>first|trivial|exact⟨_,_,rfl⟩|skip
  all_goals
   simp only[aop]at h1;split at h1
   ·unfold qp at h1;repeat' split at h1
    all_goals cases h1
   ·cases h1
 case kF f as=>
  cases b<;>first|trivial|exact⟨_,_,rfl⟩|skip
  all_goals
   simp only[aop]at h1;repeat' split at h1
   all_goals cases h1
 case uN x=>
  cases b<;>first|trivial|exact⟨_,rfl⟩|skip
  all_goals
   obtain⟨v,_,a⟩:=aA h1;split at a<;>cases a
 case recover=>cases h1;rfl
 case mov=>obtain⟨v,_,a⟩:=aA h1;cases a;trivial
 case box=>obtain⟨v,_,a⟩:=aA h1;cases a;trivial
 case iT=>obtain⟨v,_,a⟩:=aA h1;cases a;trivial
 case un=>obtain⟨v,_,a⟩:=aA h1;obtain⟨v,_,a⟩:=aA a;cases a;trivial
 case load=>obtain⟨v,_,a⟩:=aA h1;obtain⟨v,_,a⟩:=aA a;cases a;trivial
 case conv=>obtain⟨v,_,a⟩:=aA h1;exact lF a
 case store=>
  obtain⟨v,_,a⟩:=aA h1;obtain⟨v,_,a⟩:=aA a;split at a<;>cases a;trivial
 case cM=>
  obtain⟨v,_,a⟩:=aA h1;split at a<;>cases a;trivial
 case bin op x y=>
  cases op;case num=>
   obtain⟨v,_,a⟩:=aA h1;obtain⟨v,_,a⟩:=aA a;obtain⟨v,_,a⟩:=aA a;cases a;trivial
  case beq=>simp only[aop]at h1;split at h1<;>cases h1;trivial
  case nil=>
   obtain⟨v,_,a⟩:=aA h1;obtain⟨v,_,a⟩:=aA a;split at a<;>cases a;trivial
  case agg=>
   obtain⟨v,_,a⟩:=aA h1;obtain⟨v,_,a⟩:=aA a;split at a
   ·split at a<;>cases a;trivial
   ·cases a
 case pick=>
  simp only[aop]at h1;split at h1
  ·obtain⟨v,_,a⟩:=aA h1;cases a;trivial
  ·obtain⟨v,_,a⟩:=aA h1;cases a;trivial
  ·cases h1
 case slice k x lo hi mx=>
  cases k<;>cases mx<;>simp only[aop]at h1
  ·repeat' split at h1
   all_goals first|(cases h1;done)|skip
   simp only[cond_eq_ite,b7]at h1;obtain⟨_,h1⟩:=h1;cases h1;trivial
  ·cases h1
  all_goals
   split at h1
   ·exact lF h1
   ·cases h1
 case len k x=>
  match k with
  |0=>simp only[aop]at h1;split at h1<;>cases h1;trivial
  |1=>simp only[aop]at h1;split at h1<;>cases h1;trivial
  |k+2=>
   simp only[aop]at h1;split at h1
   ·cases h1;trivial
   ·split at h1<;>cases h1;trivial
   ·cases h1
 case append=>
  simp only[aop]at h1;split at h1
  ·split at h1
   ·exact lF h1
   ·cases h1
  ·cases h1
 case mY=>
  simp only[aop]at h1;split at h1
  ·split at h1
   ·simp only[cond_eq_ite,b7]at h1;exact lF h1.2
   ·cases h1
  ·cases h1
 case next x s=>
  cases s
  ·cases h1
  ·simp only[aop]at h1;repeat' split at h1
   all_goals first|(cases h1;done)|skip
   simp only[cond_eq_ite]at h1;split at h1<;>cases h1<;>trivial
 case cQ=>simp only[aop]at h1;repeat' split at h1
          all_goals first|(cases h1;done)|(simp only[cond_eq_ite,b7]at h1;obtain⟨_,h1⟩:=h1;cases h1;trivial)
 case aD=>simp only[aop]at h1;repeat' split at h1
          all_goals first|(cases h1;done)|(simp only[cond_eq_ite,b7]at h1;obtain⟨_,h1⟩:=h1;cases h1;trivial)
 case nN=>cases h1;trivial
 case new=>cases h1;trivial
 case mkMap=>cases h1;trivial
 all_goals
  revert h1;simp only[aop,cond_eq_ite];intro h1;repeat' split at h1
  all_goals first
   |(cases h1;done)
   |(cases h1;trivial)
   |(obtain⟨v,_,a⟩:=aA h1;cases a;trivial)
   |(exact lF h1)
variable{o:Oper}{v:Value}{h':Heap}
theorem UQ(u:R P μ h w)(q:cW μ e a.tmps){F:AOp}{c:Call}(A:o.op= .call c)(g:ig P o.op=some F)(h1:aop h base e F=some (.val v h')):
 Ran P μ h w base ((execOp a.eval o).run P w) v h':=by
 unfold ig at g;split at g
 ·rename_i hall;rw[A]at g hall;dsimp only at g;cases hcal:c.callee with
  |value f=>
   rw[hcal]at g;cases g;simp only[aop]at h1;split at h1
   ·unfold qp at h1;repeat' split at h1
    all_goals cases h1
   ·cases h1
  |invoke r nm=>rw[hcal]at g;cases g
  |builtin b=>
   rw[hcal]at g;dsimp only at g;have j:c.args.toList.all (aN P)=true:=by
    simp only[Op.operands,Call.operands,hcal,M2,Kd,dk]at hall;exact hall.2
   have D:∃G,(execOp a.eval o).run P w=(builtin b c.argTypes o.type G (c.args.map a.eval)).run P w:=⟨_,by
    simp[execOp,A,resolve,hcal,invoke];rfl⟩
   obtain⟨G,D⟩:=D;rw[D];have l:∀{x:Operand},c.args.toList=[x]->(c.args.map a.eval)[0]? =some (a.eval x)/\aN P x=true:=λ{x} i=>by
    rw[i]at j;refine⟨?_,by simpa using j⟩;rw[←Array.getElem?_toList,Array.toList_map,i];rfl
   have p:∀{x y:Operand},c.args.toList=[x,y]->(c.args.map a.eval)[0]? =some (a.eval x)/\(c.args.map a.eval)[1]? =some (a.eval y)/\aN P x=true/\aN P y=true:=λ{x y} i=>by
    rw[i]at j;refine⟨?_,?_,by simpa using j⟩
    ·rw[←Array.getElem?_toList,Array.toList_map,i];rfl
    ·rw[←Array.getElem?_toList,Array.toList_map,i];rfl
   have B:∀{x:TypeId},c.argTypes.toList=[x]->c.argTypes[0]? =some x:=λ{x} i=>by rw[←Array.getElem?_toList,i];rfl
   have E:∀{x y:TypeId},c.argTypes.toList=[x,y]->c.argTypes[0]? =some x/\c.argTypes[1]? =some y:=λ{x y} i=>by
    rw[←Array.getElem?_toList,←Array.getElem?_toList,i];exact⟨rfl,rfl⟩
   split at g
   ·rename_i t x ht i;have:=B ht;have:=l i;split at g
    ·cases g;exact dQ (Gn (ts:=c.argTypes) (ty:=o.type) (xs:=c.args.map a.eval) u q (B ht) (l i).1 (.inl ⟨rfl,by assumption⟩) (l i).2 h1) (by simp[builtin])
    ·cases g;exact dQ (Gn (ts:=c.argTypes) (ty:=o.type) (xs:=c.args.map a.eval) u q (B ht) (l i).1 (.inr (.inl ⟨rfl,_,by assumption⟩)) (l i).2 h1) (by simp[builtin])
    ·cases g;exact dQ (Gn (ts:=c.argTypes) (ty:=o.type) (xs:=c.args.map a.eval) u q (B ht) (l i).1 (.inr (.inr ⟨rfl,_,_,by assumption⟩)) (l i).2 h1) (by simp[builtin])
    ·cases g
    ·split at g
     ·cases g
     ·cases g
    ·cases g
   ·rename_i t x ht i;split at g
    ·cases g
    ·cases g
   ·rename_i st xt s x ht i;split at g
    ·split at g
     ·rename_i z b n hz hb C;split at g
      ·rename_i hcc;cases g
      ·cases g
     ·cases g
    ·rename_i el xd hni hst hxt;split at g
     ·rename_i n b z C hb hz;split at g
      ·rename_i hcc;cases g;exact dQ (JF (ts:=c.argTypes) (ty:=o.type) (xs:=c.args.map a.eval) u q (E ht).1 (E ht).2 (p i).1 (p i).2.1 (by assumption) (by assumption) (λk H=>hni k H) C hb hz hcc.1 hcc.2.1 hcc.2.2.1 (p i).2.2.1 (p i).2.2.2 h1) (by simp[builtin])
      ·cases g
     ·cases g
    ·cases g
   ·rename_i dt xt d s ht i;split at g
    ·obtain⟨n,C,rfl⟩:=ff g;exact dQ (Rr (ts:=c.argTypes) (ty:=o.type) (xs:=c.args.map a.eval) u q (E ht).1 (p i).1 (p i).2.1 (by assumption) C (p i).2.2.1 (p i).2.2.2 h1) (by simp[builtin])
    ·cases g
   ·split at g
    ·rename_i h2;cases g;exact dQ (A0 (ts:=c.argTypes) (ty:=o.type) (mx:=true) u q j h2 h1) (by simp[builtin])
    ·cases g
   ·split at g
    ·rename_i h2;cases g;exact dQ (A0 (ts:=c.argTypes) (ty:=o.type) (mx:=false) u q j h2 h1) (by simp[builtin])
    ·cases g
   ·rename_i mt xt m k ht i;split at g
    ·split at g
     ·rename_i hl;cases g
     ·cases g
    ·cases g
   ·rename_i t x ht i;split at g
    ·split at g
     ·rename_i z hz;split at g
      ·rename_i hs;cases g;exact dQ (NQ (ts:=c.argTypes) (ty:=o.type) (xs:=c.args.map a.eval) u q (B ht) (l i).1 (by assumption) hz hs (l i).2 h1) (by simp[builtin])
      ·cases g
     ·cases g
    ·cases g
   ·cases g;cases h1
   ·cases g
 ·cases g
variable{f:AOp}
theorem Ik(i:R P μ h w)(g:cW μ e a.tmps)(j:ig P o.op=some f)(h1:aop h base e f=some (.val v h')):
 Ran P μ h w base ((execOp a.eval o).run P w) v h':=by
 by_cases b:∃c,o.op= .call c
 ·obtain⟨c,b⟩:=b;exact UQ i g b j h1
 ·exact UP i g j h1 λc d=>b ⟨c,d⟩
variable{op:Op}
theorem j0{e:AOp}(a:ig P op=some e):
 (∀f as,e= .call f as->∃c,op= .call c/\c.callee= .value f/\c.args.toList=as/\aN P f=true/\as.all (aN P)=true)∧
 (∀f as,e= .kF f as->∃c,op= .defer c/\c.callee= .value f/\c.args.toList=as/\aN P f=true/\as.all (aN P)=true)∧
 (∀x,e= .uN x->op= .panic x/\aN P x=true)/\(e= .recover->∃c,op= .call c/\c.callee= .builtin .recover):=by
 unfold ig at a;split at a
 ·rename_i hall;have l:∀(c:Call) (f:Operand),c.callee= .value f->c.operands.toList.all (aN P)=true->aN P f=true/\c.args.toList.all (aN P)=true:=λc f d i=>by
   simp only[Call.operands,d,M2,Kd,dk]at i;exact⟨by simpa using i.1,i.2⟩
  cases op<;>(try dsimp only at a)
  case call c=>
   split at a
   ·rename_i f d;cases a;obtain⟨j,k⟩:=l c f d hall;refine⟨λg as h=> ?_,λg as h=>(by cases h),λx h=>(by cases h),λh=>(by cases h)⟩;cases h;exact⟨c,rfl,d,rfl,j,k⟩
   ·cases a
   ·rename_i b hb;repeat' split at a
    all_goals first
     |(cases a;done)
     |(cases a;exact⟨λ_ _ h=>(by cases h),λ_ _ h=>(by cases h),λ_ h=>(by cases h),λ_=>⟨c,rfl,hb⟩⟩)
     |(cases a;exact⟨λ_ _ h=>(by cases h),λ_ _ h=>(by cases h),λ_ h=>(by cases h),λh=>(by cases h)⟩)
     |(obtain⟨_,_,rfl⟩:=ff a;exact⟨λ_ _ h=>(by cases h),λ_ _ h=>(by cases h),λ_ h=>(by cases h),λh=>(by cases h)⟩)
  case defer c=>
   split at a
   ·rename_i f d;cases a;obtain⟨j,k⟩:=l c f d hall;refine⟨λg as h=>(by cases h),λg as h=> ?_,λx h=>(by cases h),λh=>(by cases h)⟩;cases h;exact⟨c,rfl,d,rfl,j,k⟩
   ·cases a
  case panic x=>
   cases a;refine⟨λg as h=>(by cases h),λg as h=>(by cases h),λx h=> ?_,λh=>(by cases h)⟩;cases h;exact⟨rfl,by simpa[Op.operands]using hall⟩
  all_goals
   repeat' split at a
   all_goals first
    |contradiction
    |(cases a;done)
    |(cases a;exact⟨λ_ _ h=>(by cases h),λ_ _ h=>(by cases h),λ_ h=>(by cases h),λh=>(by cases h)⟩)
    |(obtain⟨_,_,rfl⟩:=ff a;exact⟨λ_ _ h=>(by cases h),λ_ _ h=>(by cases h),λ_ h=>(by cases h),λh=>(by cases h)⟩)
 ·cases a
variable{fn:Fn}
theorem Ch(y:R P μ h w)(x:cW μ e a.tmps){u:AOp}(B:ig P o.op=some u){args:List Value}(h1:aop h base e u=some (.call fn args h')):
 h'=h/\(∀c,o.op≠ .defer c)/\∃args',LR μ args args'∧((∃g,fn= .func g/\(execOp a.eval o).run P w=(callFunc g args'.toArray).run P w)∨
  (∃l k,fn= .yield l/\μ l=some k/\(execOp a.eval o).run P w=(Instr.yield k.r args'.toArray).run P w)):=by
 obtain⟨f,as,rfl⟩:=mH h1;obtain⟨c,d,i,rfl,C,s⟩:=(j0 B).1 f as rfl;simp only[aop]at h1;split at h1
 ·rename_i fv av hfv hav;have p:=cV y x C hfv;have v:=vp y x s hav;have q:(c.args.map a.eval).toList=c.args.toList.map a.eval:=by simp
  generalize hev:a.eval f=fv' at p;unfold qp at h1;split at h1
  ·rename_i g first cap
   cases h1;obtain⟨A,j,n,rfl,m,t,z⟩:=p.qq;cases m;refine⟨rfl,(λn b=>by rw[d]at b;cases b),(j.toList++(c.args.toList.map a.eval++n.toList)),?_, .inl ⟨g,rfl,?_⟩⟩
   ·rw[dI,dI];exact t.append (v.append z)
   ·have:(j.toList++(c.args.toList.map a.eval++n.toList)).toArray=j++c.args.map a.eval++n:=by apply eY;simp
    rw[this];simp[execOp,d,resolve,i,hev,Deferred.ofValue,invoke]
  ·rename_i l first cap
   split at h1
   ·rename_i hcap;cases h1;obtain⟨A,j,n,rfl,m,t,z⟩:=p.qq;cases m with
    |yield hk=>
     rename_i k;refine⟨rfl,(λn b=>by rw[d]at b;cases b),(j.toList++c.args.toList.map a.eval),?_, .inr ⟨l,k,rfl,hk,?_⟩⟩
     ·rw[dI];exact t.append v
     ·have:(j.toList++c.args.toList.map a.eval).toArray=j++c.args.map a.eval:=by apply eY;simp
      rw[this];simp[execOp,d,resolve,i,hev,Deferred.ofValue,invoke]
   ·cases h1
  ·cases h1
 ·cases h1
theorem Rs(n:R P μ h w)(m:cW μ e a.tmps){k:AOp}(s:ig P o.op=some k){f:Value}{args:List Value}(h1:aop h base e k=some (.kF f args)):
 ∃g first cap first' cap' args',f= .func (.func g) first cap/\LR μ first.toList first'.toList/\LR μ cap.toList cap'.toList/\LR μ args args'∧
  (execOp a.eval o).run P w= .ok (.defer {target:= .fn (.func g) cap',args:=first'++args'.toArray}) w:=by
 obtain⟨f,as,rfl⟩:=mH h1;obtain⟨c,j,b,rfl,t,d⟩:=(j0 s).2.1 f as rfl;simp only[aop]at h1;split at h1
 ·rename_i g first cap av hfv hav
  cases h1;have l:=cV n m t hfv;have r:=vp n m d hav;generalize hev:a.eval f=fv' at l;obtain⟨x,p,q,rfl,i,u,v⟩:=l.qq;cases i;refine⟨g,first,cap,p,q,_,rfl,u,v,r,?_⟩;have:c.args.map a.eval=(c.args.toList.map a.eval).toArray:=by apply eY;simp
  simp[execOp,j,resolve,b,hev,Deferred.ofValue,this]
 ·cases h1
theorem NV(j:R P μ h w)(i:cW μ e a.tmps)(k:ig P o.op=some f)(h1:aop h base e f=some (.panic v h')):
 h'=h/\∃v',VR μ v v'∧(execOp a.eval o).run P w= .halt (.panic v') w:=by
 obtain⟨x,rfl⟩:=mH h1;obtain⟨c,l⟩:=(j0 k).2.2.1 x rfl;obtain⟨m,d,b⟩:=aA h1;have g:=cV j i l d;split at b
 ·cases b;generalize hev:a.eval x=xv' at g;refine⟨rfl,xv',g,?_⟩;cases g;simp[execOp,c,hev,Instr.panic,goPanic,Result.andThen]
 ·cases b
theorem Gu(g:ig P o.op=some f)(h1:aop h base e f=some .recover):(execOp a.eval o).run P w= .ok .recover w:=by
 have:=mH h1;obtain⟨c,d,b⟩:=(j0 g).2.2.2 this;simp[execOp,d,resolve,b,invoke,builtin]
variable{h1:Heap}
theorem R.congr{a:Heap}(c:R P μ h1 w)(ho:h1.cI=a.cI)(f:h1.next=a.next):R P μ a w:=by
 have e:∀b,a.get b=h1.get b:=λb=>by simp[Heap.get,ho]
 exact⟨f▸c.big,λg o h1 a=>c.lZ g o h1 (e g▸a),λb o d=>c.obj b o (e b▸d),λb o d=>f▸c.lt b o (e b▸d),λb k d=>f▸c.dom b k d,
  λb i o l k j h h1 a=>c.lJ b i o l k j h (e b▸h1) (e i▸a)⟩
theorem Wr.congr{a:Heap}(ho:h1.cI=a.cI){r:Nat}(d:Wr μ h1 r):Wr μ a r:=by
 obtain⟨b,o,k,c,x⟩:=d;exact⟨b,o,k,by simpa[Heap.get,ho]using c,x⟩
theorem St.jq{b:Heap}{μ0:Mu}{a:Heap}{w0:World}(s:St μ0 a w0 μ h1 w)(ho:h1.cI=b.cI):St μ0 a w0 μ b w:=
 ⟨s.ext,s.le,s.keep,λr c d=>s.wr r c (d.congr ho.symm),s.loops,s.same⟩
variable{μ':Mu}{w':World}
theorem St.qk{a:Heap}(s:St μ h1 w μ' h' w')(ho:h1.cI=a.cI)(f:h1.next=a.next):St μ a w μ' h' w':=
 ⟨λb e=>s.ext b (f▸e),s.le,λr c d=>s.keep r c λq=>d (q.congr ho),λr c d=>(s.wr r c d).congr ho,s.loops,s.same⟩
theorem mA:∀(l:List (Nat×bR)) (a n:Nat) (m:List (Nat×bR)),l.map (·.1)=dB a n->∀b,b<a->fK (l++m) b=fK m b
 |[],a,n,m,_,b,_=>rfl
 |(k,o)::l,a,0,m,h,b,_=>by simp[dB]at h
 |(k,o)::l,a,n+1,m,h,b,hb=>by
  simp only[wp,dB,List.cons.injEq]at h;obtain⟨h1,h2⟩:=h;simp only[GT,fK,cond_eq_ite,beq_eq,decide_eq_true_eq];rw[if_neg (by omega)];exact mA l a n m h2 b hb
theorem Eh:∀(l:List (Nat×bR)) (b:Nat) (o:bR),fK l b=some o->b∈l.map (·.1)
 |(k,q)::l,b,o,h=>by
  simp only[fK,cond_eq_ite,beq_eq,decide_eq_true_eq]at h;split at h
  ·rename_i e;simp[e]
  ·have:=Eh l b o h;simp at this⊢;exact .inr this
theorem Ex:∀(l:List (Nat×bR)) (b:Nat),b∈l.map (·.1)->∃o,fK l b=some o
 |(k,q)::l,b,h=>by
  simp only[fK,cond_eq_ite,beq_eq,decide_eq_true_eq];by_cases e:k=b
  ·exact⟨q,by simp[e]⟩
  ·simp only[wp,CS]at h;rcases h with h|h
   ·exact absurd h.symm e
   ·obtain⟨o,ho⟩:=Ex l b h;exact⟨o,by simp[e,ho]⟩
variable{c:Heap}
theorem Me(i:R P μ c w)(h:AS c.next c h1)(b:Nat):fK (pT (h1.next-c.next) h1.cI) b=if b<c.next then h1.get b else none:=by
 unfold pT;rw[aR];have g:=h.keys;have e:(h1.cI.take (h1.next-c.next)).map (·.1)=dB c.next (h1.next-c.next):=by
  rw[List.map_take,g];have:∀a n,(dB a n).length=n:=λa n=>by induction n<;>simp[dB, *]
  exact List.take_left' (this _ _)
 have d:(h1.cI.drop (h1.next-c.next)).map (·.1)=c.cI.map (·.1):=by
  rw[List.map_drop,g];have:∀a n,(dB a n).length=n:=λa n=>by induction n<;>simp[dB, *]
  exact List.drop_left' (this _ _)
 by_cases hb:b<c.next
 ·rw[if_pos hb];have:=mA _ _ _ (h1.cI.drop (h1.next-c.next)) e b hb;rw[xC]at this;exact this.symm
 ·rw[if_neg hb];cases hg:fK (h1.cI.drop (h1.next-c.next)) b with
  |none=>rfl
  |some o=>
   have:=Eh _ _ _ hg;rw[d]at this;obtain⟨j,f⟩:=Ex _ _ this;exact absurd (i.lt b j f) hb
theorem AK{h:Heap}{base:Nat}:∀{l:List Nat},gj h base l=true->∀b,fP l b=true->b<base→
 (∃vs own sz,h.get b=some (.cells vs own sz)/\dF vs=true)∨(∃es,h.get b=some (.map es)/\iY (es.map (·.1))=true/\iY (es.map (·.2))=true)∨h.get b=some .dead∨(∃s pos,h.get b=some (.nw s pos))
 |[],_,b,hb,_=>by cases hb
 |x::l,hc,b,hb,hlt=>by
  rw[mD]at hb;simp only[gj,cond_eq_ite,blt_eq,decide_eq_true_eq,dk]at hc;by_cases hx:x=b
  ·subst hx;rw[if_pos hlt]at hc;split at hc
   ·rename_i vs own sz hg;split at hc
    ·rename_i hs;exact .inl ⟨_,_,_,hg,hs⟩
    ·cases hc
   ·rename_i es hg;split at hc
    ·rename_i hs;exact .inr (.inl ⟨_,hg,hs.1,hs.2⟩)
    ·cases hc
   ·rename_i hg;exact .inr (.inr (.inl hg))
   ·rename_i s pos hg;exact .inr (.inr (.inr ⟨s,pos,hg⟩))
   ·cases hc
  ·have hb:fP l b=true:=by simpa[hx]using hb
   have:gj h base l=true:=by
    split at hc
    ·split at hc
     ·split at hc
      ·exact hc
      ·cases hc
     ·split at hc
      ·exact hc
      ·cases hc
     ·exact hc
     ·exact hc
     ·cases hc
    ·exact hc
   exact AK this b hb hlt
def vV(μ:Mu)(n:Nat):Mu:=λb=>if b<n then μ b else none
theorem MR.flat{es:List (Value×Value)}{ms:List MapEntry}(b:MR μ es ms){μ':Mu}(h1:iY (es.map (·.1))=true)(a:iY (es.map (·.2))=true):MR μ' es ms:=by
 induction b with
 |nil=>exact .nil
 |cons q1 q2 _ ih=>
  simp only[wp,iY,cond_eq_ite]at h1 a;split at h1
  ·rename_i f1;split at a
   ·rename_i f2;refine .cons ?_ ?_ (ih h1 a)
    ·rw[(VR.flat f1).2 _ q1];exact(VR.flat f1).1
    ·rw[(VR.flat f2).2 _ q2];exact(VR.flat f2).1
   ·cases a
  ·cases h1
variable{μ1:Mu}{es:List (Value×Value)}
theorem MR.back(c:∀b k,μ b=some k->μ1 b=some k){ms ms':List MapEntry}(h1:MR μ es ms)(a:MR μ1 es ms'):MR μ es ms':=by
 induction h1 generalizing ms' with
 |nil=>cases a;exact .nil
 |cons q1 q2 _ ih=>cases a with
  |cons p1 p2 p3=>exact .cons (q1.inj c p1▸q1) (q2.inj c p2▸q2) (ih p3)
theorem CO:∀{vs:List Value},dF vs=true->∀i,i<vs.length->nQ (gv vs i)=true
 |[],_,i,hi=>by simp at hi
 |v::vs,h,i,hi=>by
  simp only[dF,cond_eq_ite]at h;split at h
  ·rename_i hv;cases i with
   |zero=>exact hv
   |succ i=>exact CO h i (by simpa using hi)
  ·cases h
variable{v':Value}
theorem Mf{m:Heap}{w0 U:World}{μ0:Mu}(w:R P μ0 m w0)(x:R P μ1 h1 U)(A:St μ0 m w0 μ1 h1 U)(I:AS m.next m h1)(Q:VR μ1 v v'):
 ∃μ2,R P μ2 (gcA m h1 v) U/\VR μ2 v v'∧St μ0 m w0 μ2 (gcA m h1 v) U/\AS m.next m (gcA m h1 v):=by
 unfold gcA;cases hc:(cO v&&gj h1 m.next h1.log)with
 |false=>exact⟨μ1,x,Q,A,I⟩
 |true=>
  simp only[dk]at hc;obtain⟨O,Y⟩:=hc;simp only[cond_true];have N:=A.mono w;have l:∀b,({h1 with cI:=pT (h1.next-m.next) h1.cI,next:=m.next}:Heap).get b=if b<m.next then h1.get b else none:=λb=>Me w I b
  have d:∀b k,vV μ1 m.next b=some k->b<m.next/\μ1 b=some k:=λb k f=>by
   unfold vV at f;split at f
   ·exact⟨by assumption,f⟩
   ·cases f
  have E:∀b k,μ0 b=some k->vV μ1 m.next b=some k:=λb k f=>by
   unfold vV;rw[if_pos (w.dom b k f).1];exact N b k f
  have C:∀b k,vV μ1 m.next b=some k->μ0 b=some k:=λb k f=>by
   obtain⟨G,y⟩:=d b k f;rw[←A.ext b G];exact y
  refine⟨vV μ1 m.next,⟨w.big,λg o hg T=> ?_,λb o f=> ?_,λb o f=> ?_,λb k f=> ?_,λb b' o o' k k' a7 f B l1 l2 m1 m2=> ?_⟩,?_,⟨λb f=> ?_,A.le,A.keep,λr hr hw=> ?_,A.loops,A.same⟩,⟨bl _,?_,λb f Z=>I.mono b f Z,λb f hn Z=> ?_⟩⟩
  ·rw[l]at T;split at T
   ·rename_i hlt;obtain⟨k,G,y⟩:=x.lZ g o hg T;exact⟨k,by unfold vV;rw[if_pos hlt];exact G,y⟩
   ·cases T
  ·rw[l]at f;split at f
   ·rename_i hlt;have q:=x.obj b o f;cases hlog:fP h1.log b with
    |true=>
     rcases AK Y b hlog hlt with⟨vs,own,sz,u,J⟩|⟨es,u,J,X⟩|u|⟨s,pos,u⟩
     ·rw[f]at u;cases u;intro k j;obtain⟨z0,c,V,W,z1,z2,z3,z4,z5⟩:=q k (d b k j).2;refine⟨z0,c,V,W,z1,z2,z3,λi M=> ?_,z5⟩;obtain⟨v',y1,H⟩:=z4 i M;have hs:=CO J i M;exact⟨v',y1,by rw[(VR.nQ hs).2 _ H];exact(VR.nQ hs).1⟩
     ·rw[f]at u;cases u;intro k j;obtain⟨p,h,z1,z2,S⟩:=q k (d b k j).2;exact⟨p,h,z1,z2.flat J X,S⟩
     ·rw[f]at u;cases u;trivial
     ·rw[f]at u;cases u;intro k j;exact q k (d b k j).2
    |false=>
     have K:=I.same b hlt hlt hlog;rw[f]at K;have D:=w.obj b o K.symm;cases o with
     |cells vs own sz=>
      intro k j;obtain⟨z0,c,V,W,z1,z2,z3,z4,z5⟩:=q k (d b k j).2;obtain⟨_,c0,_,_,_,_,_,y4,_⟩:=D k (C b k j);refine⟨z0,c,V,W,z1,z2,z3,λi M=> ?_,z5⟩;obtain⟨v1,p1,p2⟩:=z4 i M;obtain⟨v0,G,y⟩:=y4 i M;exact⟨v1,p1,(y.inj N p2▸y).mono E⟩
     |map es=>
      intro k j;obtain⟨p,h,z1,z2,S⟩:=q k (d b k j).2;obtain⟨F,z,y1,H,_⟩:=D k (C b k j);exact⟨p,h,z1,(H.back N z2).mono E,S⟩
     |sC es=>
      intro k j;obtain⟨p,h,z1,z2,S⟩:=q k (d b k j).2;obtain⟨F,z,y1,H,_⟩:=D k (C b k j);exact⟨p,h,z1,(H.back N z2).mono E,S⟩
     |loop e ps asg body st jh=>
      intro k j;obtain⟨L,z1,z2,z3⟩:=q k (d b k j).2;obtain⟨L0,y1,H,_⟩:=D k (C b k j);refine⟨L,z1,λt v Q=> ?_,z3⟩;obtain⟨v1,p1,p2⟩:=z2 t v Q;obtain⟨v0,G,y⟩:=H t v Q;exact⟨v1,p1,(y.inj N p2▸y).mono E⟩
     |nw s pos=>intro k j;exact q k (d b k j).2
     |dead=>trivial
   ·cases f
  ·rw[l]at f;split at f
   ·assumption
   ·cases f
  ·obtain⟨G,y⟩:=d b k f;exact⟨G,(x.dom b k y).2⟩
  ·rw[l]at f B;split at f
   ·split at B
    ·exact x.lJ b b' o o' k k' a7 f B l1 l2 (d b k m1).2 (d b' k' m2).2
    ·cases B
   ·cases f
  ·rw[(VR.cO O).2 _ Q];exact(VR.cO O).1
  ·unfold vV;rw[if_pos f];exact A.ext b f
  ·obtain⟨b,o,k,u,J,X,g4,g5⟩:=hw;rw[l]at u;split at u
   ·exact A.wr r hr ⟨b,o,k,u,J,X,(d b k g4).2,g5⟩
   ·cases u
  ·simp only[xx,dB,HO];have j:=I.keys;unfold pT;rw[aR,List.map_drop,j];have:∀a n,(dB a n).length=n:=λa n=>by induction n<;>simp[dB, *]
   exact List.drop_left' (this _ _)
  ·rw[l,if_pos hn];exact I.same b f hn Z
theorem pE(base:Nat):∀(m l:List Nat) (b:Nat),fP (aH base l m) b=(fP l b||(decide (b<base)&&fP m b))
 |[],l,b=>by simp[aH,fP]
 |x::m,l,b=>by
  simp only[aH,cond_eq_ite,blt_eq];rw[pE base m,mD];by_cases hx:x<base
  ·by_cases hl:fP l x=true
   ·by_cases hb:x=b
    ·subst hb;simp[hx,hl]
    ·simp[hx,hl,hb]
   ·by_cases hb:x=b
    ·subst hb;simp[hx,hl,mD]
    ·simp[hx,hl,hb,mD]
  ·by_cases hb:x=b
   ·subst hb;simp[hx]
   ·simp[hx,hb]
theorem AS.call(d:AS h.next {h with log:=[]} c)(hb:base<=h.next):AS base h {c with log:=aH base h.log c.log}where
 next:=d.next
 keys:=d.keys
 mono:=λb _ a=>by rw[pE,a];rfl
 same:=λb e f a=>by
  rw[pE]at a;simp only[wt,wn,decide_eq_false_iff_not]at a;exact d.same b f f (by rcases a.2 with q|q;exact absurd e q;exact q)
def Fw(rd:Option Nat):Fence:={fn:=λ_=>True,depth:=none,alive:=false,round:=rd}
def RdR(μ:Mu):Option Nat->Option Nat->Prop
 |none,rd=>rd=none
 |some l,rd=>∃k,μ l=some k/\rd=some k.r
theorem RdR.mono(e:∀b k,μ b=some k->μ' b=some k){r a:Option Nat}(h:RdR μ r a):RdR μ' r a:=by
 cases r with
 |none=>exact h
 |some l=>obtain⟨k,c,d⟩:=h;exact⟨k,e _ _ c,d⟩
inductive DR (μ:Mu) (h:Heap) (w:World) (lo:Nat):Dfs->List Deferred->Prop
 |nil:DR μ h w lo [] []
 |cons {g first cap first' cap' args args' ds ms}:LR μ first.toList first'.toList->LR μ cap.toList cap'.toList->LR μ args args'→DR μ h w lo ds ms→
  DR μ h w lo ((.func (.func g) first cap,args)::ds) ({target:= .fn (.func g) cap',args:=first'++args'.toArray}::ms)
 |mark {r ds ms}:lo<=r->(∀r' as,({target:= .collected r',args:=as}:Deferred)∈ms->r'<r)->w.heap[r]? =some (.deferred (some []))->¬Wr μ h r->DR μ h w lo ds ms->DR μ h w lo ds ({target:= .collected r,args:= #[]}::ms)
variable{lo:Nat}
theorem DR.step{d:Dfs}{ms:List Deferred}(s:St μ h w μ' h' w')(c:∀b k,μ b=some k->μ' b=some k)(e:DR μ h w lo d ms):DR μ' h' w' lo d ms:=by
 induction e with
 |nil=>exact .nil
 |cons h1 h2 h3 _ ih=>exact .cons (h1.mono c) (h2.mono c) (h3.mono c) ih
 |mark h1 h0 h2 h3 _ ih=>
  have a:=(Array.getElem?_eq_some_iff.1 h2).1;exact .mark h1 h0 ((s.keep _ a h3).trans h2) (λq=>h3 (s.wr _ a q)) ih
theorem DR.marks{b:Dfs}{ms:List Deferred}(c:DR μ h w lo b ms):∀r as,({target:= .collected r,args:=as}:Deferred)∈ms->r<w.heap.size:=by
 induction c with
 |nil=>intro r as a;cases a
 |cons _ _ _ _ ih=>
  intro r as a;rcases List.mem_cons.1 a with h|h
  ·injection h with h1 h2;cases h1
  ·exact ih r as h
 |mark _ _ h2 _ _ ih=>
  intro r as a;rcases List.mem_cons.1 a with h|h
  ·injection h with h1 h3;injection h1 with h1;subst h1;exact(Array.getElem?_eq_some_iff.1 h2).1
  ·exact ih r as h
def XR(μ:Mu):bE->Exit->Prop
 | .normal, .normal=>True
 | .exit i, .exit j=>i=j
 | .ret, .ret=>True
 | .panic v, .panic chain=>∃v',chain=[{v:=v',recovered:=false}]/\VR μ v v'
 |_,_=>False
def Post(P:Program)(μ0:Mu)(h0:Heap)(w0:World)(lo sz:Nat)(x:bE)(e':Env)(ds':Dfs)(h':Heap):Exit->Act->World->Prop:=λex a' w'=>
 ∃μ',XR μ' x ex/\R P μ' h' w'∧St μ0 h0 w0 μ' h' w'∧cW μ' e' a'.tmps/\DR μ' h' w' lo ds' a'.defers/\a'.tmps.size=sz
theorem Post.trans{μ0 μ1:Mu}{b h1:Heap}{w0 e:World}{lo sz:Nat}{x:bE}{e':Env}{a:Dfs}{h':Heap}(s:St μ0 b w0 μ1 h1 e)(f:b.next<=h1.next){d:Exit}{c:Act}{w':World}
 (g:Post P μ1 h1 e lo sz x e' a h' d c w'):Post P μ0 b w0 lo sz x e' a h' d c w':=by
 obtain⟨μ',h,i,j,k⟩:=g;exact⟨μ',h,i,s.trans j f,k⟩
theorem ij(a:Act)(dst:Option Tmp)(v:Value):(a.put dst v).tmps=match dst with|some d=>a.tmps.setIfInBounds d v|none=>a.tmps:=by
 cases dst<;>rfl
theorem dP(a:Act)(dst:Option Tmp)(v:Value):(a.put dst v).tmps.size=a.tmps.size:=by
 cases dst<;>simp[Act.put]
theorem put_defers(a:Act)(dst:Option Tmp)(v:Value):(a.put dst v).defers=a.defers:=by cases dst<;>rfl
variable{nt:Nat}{dst:Option Nat}
theorem cW.put(c:cW μ e a.tmps)(d:lX nt dst=true)(f:nt<=a.tmps.size)(g:VR μ v v'):cW μ (cC e dst v) (a.put dst v').tmps:=by
 cases dst with
 |none=>exact c
 |some t=>
  simp only[lX,Co]at d;intro x y b;simp only[cC,geT,cond_eq_ite,beq_eq,decide_eq_true_eq]at b;rw[ij];simp only[gy];split at b
  ·rename_i e;subst e;cases b;exact⟨v',by simp[show t<a.tmps.size by omega],g⟩
  ·rename_i hne;obtain⟨j,h,i⟩:=c x y b;exact⟨j,by simp[hne,h],i⟩
theorem cW.keep{t:Array Value}(a:cW μ e t):∀(l:List Nat),cW μ (bU e l) t
 |[]=>λx v hv=>by cases hv
 |y::l=>by
  simp only[bU];split
  ·rename_i v hv;intro x u hu;simp only[geT,cond_eq_ite,beq_eq,decide_eq_true_eq]at hu;split at hu
   ·rename_i e;subst e;cases hu;exact a _ _ hv
   ·exact(cW.keep a l) x u hu
  ·exact cW.keep a l
def YQ(μ:Mu):Res->Ending->Prop
 | .ret v, .returned v'=>VR μ v v'
 | .panic v, .panicked chain=>∃v',chain=[{v:=v',recovered:=false}]/\VR μ v v'
 |_,_=>False
def iy(P:Program)(μ0:Mu)(h0:Heap)(w0:World)(res:Res)(h':Heap):Ending->World->Prop:=λen w'=>∃μ',YQ μ' res en/\R P μ' h' w'∧St μ0 h0 w0 μ' h' w'
def pS(P:Program)(Rp:Ending->World->Prop):Result Next->Prop
 | .ok (.value v) w'=>Rp (.returned v) w'
 | .ok (.enter f args) w'=>CallsIn Fence.wide 0 P f args w' Rp
 | .ok (.row row args) w'=>RowsIn Fence.wide 0 P row args w' λv w''=>Rp (.returned v) w''
 | .ok (.round l f tmps assign body) w'=>RoundIn Fence.wide 0 P l f tmps assign body w' Rp
 | .halt (.panic v) w'=>Rp (.panicked [{v,recovered:=false}]) w'
 |_=>False
variable{next:Act->World->Prop}{Q:Exit->Act->World->Prop}
theorem jK{g:Option Nat}{d:Ending->World->Prop}{r:Result Next}(hr:pS P d r)
 (h1:∀v b,d (.returned v) b→next (a.put o.dst v) b)(h:∀chain b,d (.panicked chain) b→Q (.panic chain) a b)(j:∀b,¬d .outgrown b):o.uponIn (Fw g) 0 P a next Q r:=by
 have i:∀e b,d e b→(match(motive:=Ending->World->Prop) e,b with
  | .returned v,w''=>next (a.put o.dst v) w''
  | .panicked chain,w''=>Q (.panic chain) a w''
  | .outgrown,_=>LetsOut Q):=λe b f=>by
  cases e with
  |returned v=>exact h1 v b f
  |panicked c=>exact h c b f
  |outgrown=>exact(j b f).elim
 cases r with
 |ok n b=>
  cases n<;>first|exact hr.elim|skip
  ·exact h1 _ _ hr
  ·exact⟨(λq=>by cases q),CallsIn.mono (F:=Fw g) hr i⟩
  ·exact⟨(λq=>by cases q),RoundIn.mono (F:=Fw g) hr i⟩
  ·exact⟨(λq=>by cases q),RowsIn.mono (F:=Fw g) hr λv b f=>h1 v b f⟩
 |halt hl b=>
  cases hl<;>first|exact hr.elim|exact h _ _ hr
def TA(base:Nat)(h:Heap):cZ->Prop
 | .val _ h'=>AS base h h'
 |_=>True
variable{size:Nat}
theorem GY{a:Option Addr}{len cap:Nat}{lo hi mx:Option Operand}(h1:ia h e size a len cap lo hi mx=some (v,h')):AS base h h':=by
 unfold ia at h1;simp only[cond_eq_ite]at h1;repeat' split at h1
 all_goals first
  |(cases h1;done)
  |(cases h1;exact .refl _ _)
  |(cases h1;exact .push _ _ _)
variable{n:Nat}
theorem xA{a:Nat}{s:Value}{b:List Value}(h1:jH h base size a s b n=some (v,h')):AS base h h':=by
 unfold jH at h1;simp only[cond_eq_ite]at h1;repeat' split at h1
 all_goals first
  |(cases h1;done)
  |(cases h1;exact .refl _ _)
  |(cases h1;exact .push _ _ _)
  |(cases h1;exact .wr _ _ _ _)
  |(cases h1;exact(AS.wr _ _ _ _).trans (.push _ _ _))
variable{x:Value}
theorem LI{c:Cv}(h1:xR h c x=some (v,h')):AS base h h':=by
 unfold xR at h1;repeat' split at h1
 all_goals first
  |(cases h1;done)
  |(cases h1;exact .refl _ _)
  |(cases h1;exact .push _ _ _)
theorem Kb(h1:tM h base n v x=some h'):AS base h h':=by
 unfold tM at h1;simp only[cond_eq_ite]at h1;repeat' split at h1
 all_goals first
  |(cases h1;done)
  |(cases h1;exact .wr _ _ _ _)
theorem rR{x:Option (Value×Heap)}{a:cZ}(h1:fS x=some a)(b:∀v h',x=some (v,h')->AS base h h'):TA base h a:=by
 cases x with
 |none=>cases h1
 |some p=>cases h1;exact b _ _ rfl
theorem TO{g:AOp}{c:cZ}(h1:aop h base e g=some c):TA base h c:=by
 cases g
 case call=>have:=mH h1;cases c<;>first|trivial|(obtain⟨f,as,b⟩:=this;cases b;done)|skip
            simp only[aop]at h1;split at h1
            ·unfold qp at h1;repeat' split at h1
             all_goals cases h1
            ·cases h1
 case kF=>
  simp only[aop]at h1;repeat' split at h1
  all_goals cases h1
  trivial
 case uN=>
  obtain⟨v,_,a⟩:=aA h1;split at a<;>cases a
  trivial
 case recover=>cases h1;trivial
 case mov=>obtain⟨v,_,a⟩:=aA h1;cases a;exact .refl _ _
 case box=>obtain⟨v,_,a⟩:=aA h1;cases a;exact .push _ _ _
 case iT=>obtain⟨v,_,a⟩:=aA h1;cases a;exact .refl _ _
 case un=>obtain⟨v,_,a⟩:=aA h1;obtain⟨v,_,a⟩:=aA a;cases a;exact .refl _ _
 case load=>obtain⟨v,_,a⟩:=aA h1;obtain⟨v,_,a⟩:=aA a;cases a;exact .refl _ _
 case conv=>obtain⟨v,_,a⟩:=aA h1;exact rR a λv d b=>LI b
 case store=>
  obtain⟨v,_,a⟩:=aA h1;obtain⟨v,_,a⟩:=aA a;split at a
  ·rename_i b;cases a;exact Kb b
  ·cases a
 case cM=>
  obtain⟨v,_,a⟩:=aA h1;split at a<;>cases a;exact .refl _ _
 case bin op x y=>
  cases op;case num=>
   obtain⟨v,_,a⟩:=aA h1;obtain⟨v,_,a⟩:=aA a;obtain⟨v,_,a⟩:=aA a;cases a;exact .refl _ _
  case beq=>simp only[aop]at h1;split at h1<;>cases h1;exact .refl _ _
  case nil=>
   obtain⟨v,_,a⟩:=aA h1;obtain⟨v,_,a⟩:=aA a;split at a<;>cases a;exact .refl _ _
  case agg=>
   obtain⟨v,_,a⟩:=aA h1;obtain⟨v,_,a⟩:=aA a;split at a
   ·split at a<;>cases a;exact .refl _ _
   ·cases a
 case pick=>
  simp only[aop]at h1;split at h1
  ·obtain⟨v,_,a⟩:=aA h1;cases a;exact .refl _ _
  ·obtain⟨v,_,a⟩:=aA h1;cases a;exact .refl _ _
  ·cases h1
 case slice k x lo hi mx=>
  cases k<;>cases mx<;>simp only[aop]at h1
  ·repeat' split at h1
   all_goals first|(cases h1;done)|skip
   simp only[cond_eq_ite,b7]at h1;obtain⟨_,h1⟩:=h1;cases h1;exact .refl _ _
  ·cases h1
  all_goals
   split at h1
   ·exact rR h1 λv d b=>GY b
   ·cases h1
 case len k x=>
  match k with
  |0=>simp only[aop]at h1;split at h1<;>cases h1;exact .refl _ _
  |1=>simp only[aop]at h1;split at h1<;>cases h1;exact .refl _ _
  |k+2=>
   simp only[aop]at h1;split at h1
   ·cases h1;exact .refl _ _
   ·split at h1<;>cases h1;exact .refl _ _
   ·cases h1
 case append=>
  simp only[aop]at h1;split at h1
  ·split at h1
   ·exact rR h1 λv d b=>xA b
   ·cases h1
  ·cases h1
 case mY=>
  simp only[aop]at h1;split at h1
  ·split at h1
   ·simp only[cond_eq_ite,b7]at h1;exact rR h1.2 λv d b=>xA b
   ·cases h1
  ·cases h1
 case next x s=>
  cases s
  ·cases h1
  ·simp only[aop]at h1;repeat' split at h1
   all_goals first|(cases h1;done)|skip
   simp only[cond_eq_ite]at h1;split at h1<;>cases h1
   ·exact .wr _ _ _ _
   ·exact .refl _ _
 case cQ=>simp only[aop]at h1;repeat' split at h1
          all_goals first|(cases h1;done)|(simp only[cond_eq_ite,b7]at h1;obtain⟨_,h1⟩:=h1;cases h1;exact .refl _ _)
 case aD=>simp only[aop]at h1;repeat' split at h1
          all_goals first|(cases h1;done)|(simp only[cond_eq_ite,b7]at h1;obtain⟨_,h1⟩:=h1;cases h1;exact .refl _ _)
 case nN=>cases h1;exact .refl _ _
 case new=>cases h1;exact .push _ _ _
 case mkMap=>cases h1;exact .push _ _ _
 all_goals
  revert h1;simp only[aop,cond_eq_ite];intro h1;repeat' split at h1
  all_goals first
   |(cases h1;done)
   |(cases h1;exact .refl _ _)
   |(cases h1;exact .push _ _ _)
   |(cases h1;exact .wr _ _ _ _)
   |(obtain⟨v,_,a⟩:=aA h1;cases a;exact .refl _ _)
variable{T:Nat->Option an}
def aM(T:Nat->Option an):Prop:=∀f p args h v h',T f=some (.mb p)->p args h=some (v,h')->h.log=[]->AS h.next h h'
structure fA (T:Nat->Option an) (n:Nat):Prop where
 exec:∀base rnd c e ds h x e' ds' h',cE T n base rnd c e ds h=some (x,e',ds',h')->base<=h.next->AS base h h'
 ops:∀base rnd ops e ds h x e' ds' h',gz T n base rnd ops e ds h=some (x,e',ds',h')->base<=h.next->AS base h h'
 draw:∀base ops order before rs e h x e' h',ef T n base ops order before rs e h=some (x,e',h')->base<=h.next->AS base h h'
 jZ:∀fn args h r h',gU T n fn args h=some (r,h')->h.log=[]->AS h.next h h'
 call:∀f args h r h',iS T n f args h=some (r,h')->h.log=[]->AS h.next h h'
 unw:∀results ds pan e h h1 r h',nV T n results ds pan e h h1=some (r,h')->AS h.next h h1->AS h.next h h'
 defer:∀g args pan h pan' h',jY T n g args pan h=some (pan',h')->h.log=[]->AS h.next h h'
 iX:∀base c e pan h x e' pan' h',gV T n base c e pan h=some (x,e',pan',h')->base<=h.next->AS base h h'
 nO:∀base ops e pan h x e' pan' h',iV T n base ops e pan h=some (x,e',pan',h')->base<=h.next->AS base h h'
theorem AS.gc'(f:AS c.next c h1)(v:Value):AS c.next c (gcA c h1 v):=by
 unfold gcA;cases hc:(cO v&&gj h1 c.next h1.log)with
 |false=>exact f
 |true=>
  simp only[cond_true];have d:∀a n,(dB a n).length=n:=λa n=>by induction n<;>simp[dB, *]
  have i:=f.keys;refine⟨bl _,?_,λb g h=>f.mono b g h,λb g j h=> ?_⟩
  ·simp only[xx,dB,HO];unfold pT;rw[aR,List.map_drop,i];exact List.drop_left' (d _ _)
  ·have e:(h1.cI.take (h1.next-c.next)).map (·.1)=dB c.next (h1.next-c.next):=by
    rw[List.map_take,i];exact List.take_left' (d _ _)
   have:=mA _ _ _ (h1.cI.drop (h1.next-c.next)) e b g;rw[xC]at this;show fK (pT _ _) b=_;unfold pT;rw[aR,←this];exact f.same b g j h
theorem fA.zero:fA T 0:=by
 constructor<;>intros<;>rename_i h1 _<;>first|(simp[cE]at h1;done)|(simp[gz]at h1;done)|(simp[ef]at h1;done)|(simp[gU]at h1;done)|(simp[iS]at h1;done)|(simp[nV]at h1;done)|(simp[jY]at h1;done)|(simp[gV]at h1;done)|(simp[iV]at h1;done)
theorem qd{a:AOp}(h1:aop h base e a=some (.val v h')):AS base h h':=TO h1
theorem P5{a:AOp}{args:List Value}(h1:aop h base e a=some (.call fn args h')):h'=h:=by
 obtain⟨f,as,rfl⟩:=mH h1;simp only[aop]at h1;split at h1
 ·unfold qp at h1;repeat' split at h1
  all_goals cases h1
  all_goals rfl
 ·cases h1
theorem Ln{b:AOp}(h1:aop h base e b=some (.panic v h')):h'=h:=by
 obtain⟨x,rfl⟩:=mH h1;obtain⟨v,_,a⟩:=aA h1;split at a<;>cases a
 rfl
theorem qw(h:Heap)(l:Nat)(o:bR)(b:Nat):({h with cI:=jt h.cI l o}:Heap).get b=if b=l then(h.get l).map (λ_=>o)else h.get b:=vr _ _ _ _
variable{b:Nat}{e' e0:Env}
theorem HN{r:Option (Option (bE×Env))}{x:bE}{a:Dfs}(h1:LN b e0 c r=some (x,e',a,h')):a=[]/\h'=c:=by
 unfold LN at h1;split at h1
 ·cases h1;exact⟨rfl,rfl⟩
 ·simp only[cond_eq_ite]at h1;split at h1<;>cases h1<;>exact⟨rfl,rfl⟩
 ·cases h1;exact⟨rfl,rfl⟩
 ·cases h1
theorem fA.succ(V:aM T)(q:fA T n):fA T (n+1):=by
 constructor;case exec=>
  intro base S c e J h x K O B j m;cases c<;>simp only[cE]at j
  case skip=>cases j;exact .refl _ _
  case exit=>cases j;exact .refl _ _
  case ret=>cases j;exact .refl _ _
  case region ops keep=>
   split at j
   ·rename_i k;cases j;exact q.ops _ _ _ _ _ _ _ _ _ _ k m
   ·exact q.ops _ _ _ _ _ _ _ _ _ _ j m
  case draw ops order before keep=>
   split at j
   ·rename_i k;cases j;exact q.draw _ _ _ _ _ _ _ _ _ _ k m
   ·rename_i k;cases j;exact q.draw _ _ _ _ _ _ _ _ _ _ k m
   ·cases j
  case seq a b=>
   split at j
   ·rename_i k;have s:=q.exec _ _ _ _ _ _ _ _ _ _ k m;exact s.trans (q.exec _ _ _ _ _ _ _ _ _ _ j (ed m s.next))
   ·exact q.exec _ _ _ _ _ _ _ _ _ _ j m
  case cond c a b=>
   split at j
   ·exact q.exec _ _ _ _ _ _ _ _ _ _ j m
   ·exact q.exec _ _ _ _ _ _ _ _ _ _ j m
   ·cases j
  case block id b=>
   split at j
   ·rename_i k;have s:=q.exec _ _ _ _ _ _ _ _ _ _ k m;simp only[cond_eq_ite]at j;split at j<;>cases j<;>exact s
   ·exact q.exec _ _ _ _ _ _ _ _ _ _ j m
  case loop b=>
   split at j
   ·rename_i k;have s:=q.exec _ _ _ _ _ _ _ _ _ _ k m;exact s.trans (q.exec _ _ _ _ _ _ _ _ _ _ j (ed m s.next))
   ·exact q.exec _ _ _ _ _ _ _ _ _ _ j m
  case scope b=>exact q.exec _ _ _ _ _ _ _ _ _ _ j m
  case rangeFunc f ps asg body=>
   simp only[cond_eq_ite]at j;split at j
   ·split at j
    ·split at j
     ·cases j
     ·have u:AS base h (h.push (.loop e ps asg body 0 .normal)):= .push _ _ _;have G:base<=(h.push (.loop e ps asg body 0 .normal)).next:=ed m u.next
      split at j
      ·rename_i k;have s:=AS.call (h:=h.push (.loop e ps asg body 0 .normal)) (base:=base) (q.call _ _ _ _ _ k rfl) G;split at j
       ·split at j
        ·cases j
        ·cases j;exact(u.trans s).trans (.wr _ _ _ _)
       ·cases j
      ·rename_i k;cases j;exact u.trans (AS.call (h:=h.push (.loop e ps asg body 0 .normal)) (base:=base) (q.call _ _ _ _ _ k rfl) G)
      ·cases j
    ·cases j
   ·cases j
  case rangeMap ops it y keep out nxt pr ops2 k2 body=>
   split at j
   ·rename_i k;have s:=q.ops _ _ _ _ _ _ _ _ _ _ k m;split at j
    ·cases j
    ·split at j
     ·cases j;exact s
     ·split at j
      ·obtain⟨_,rfl⟩:=HN j;exact s
      ·cases j
     ·cases j
   ·exact q.ops _ _ _ _ _ _ _ _ _ _ j m
 case ops=>
  intro base S ops e J h x K O B j m;cases ops with
  |nil=>simp only[gz]at j;cases j;exact .refl _ _
  |cons o os=>
   simp only[gz]at j;split at j
   ·exact q.ops _ _ _ _ _ _ _ _ _ _ j m
   ·split at j
    ·rename_i k;have s:=qd k;exact s.trans (q.ops _ _ _ _ _ _ _ _ _ _ j (ed m s.next))
    ·rename_i L as hc k;have F:=P5 k;rw[F]at j;split at j
     ·rename_i k;have s:=AS.call (h:=h) (base:=base) (q.jZ _ _ _ _ _ k rfl) m;exact s.trans (q.ops _ _ _ _ _ _ _ _ _ _ j (ed m s.next))
     ·rename_i k;cases j;exact AS.call (h:=h) (base:=base) (q.jZ _ _ _ _ _ k rfl) m
     ·cases j
    ·split at j
     ·cases j
     ·exact q.ops _ _ _ _ _ _ _ _ _ _ j m
    ·rename_i k;have:=Ln k;subst this;cases j;exact .refl _ _
    ·cases j
   ·cases j
 case draw=>
  intro base ops order before rs e h x K B j m;cases order with
  |nil=>simp only[ef]at j;cases j;exact .refl _ _
  |cons i is=>
   simp only[ef]at j;split at j
   ·split at j
    ·exact q.draw _ _ _ _ _ _ _ _ _ _ j m
    ·simp only[cond_eq_ite]at j;split at j
     ·split at j
      ·rename_i k;have s:=qd k;split at j
       ·rw[b7]at j;exact s.trans (q.draw _ _ _ _ _ _ _ _ _ _ j.2 (ed m s.next))
       ·split at j
        ·exact q.draw _ _ _ _ _ _ _ _ _ _ j m
        ·split at j
         ·split at j
          ·rename_i k;have s:=AS.call (h:=h) (base:=base) (qd k) m;split at j
           ·exact s.trans (q.draw _ _ _ _ _ _ _ _ _ _ j (ed m s.next))
           ·cases j
          ·cases j
         ·cases j
      ·cases j
     ·split at j
      ·rename_i k;have s:=AS.call (h:=h) (base:=base) (qd k) m;split at j
       ·exact s.trans (q.draw _ _ _ _ _ _ _ _ _ _ j (ed m s.next))
       ·cases j
      ·split at j
       ·rename_i k;have s:=AS.call (h:=h) (base:=base) (q.jZ _ _ _ _ _ k rfl) m;split at j
        ·exact s.trans (q.draw _ _ _ _ _ _ _ _ _ _ j (ed m s.next))
        ·cases j
       ·rename_i k;cases j;exact AS.call (h:=h) (base:=base) (q.jZ _ _ _ _ _ k rfl) m
       ·cases j
      ·cases j
    ·cases j
   ·cases j
 case jZ=>
  intro L z h r B j N;cases L<;>simp only[gU]at j<;>(try (cases j;done))
  case func f=>exact q.call _ _ _ _ _ j N
  case yield l=>
   split at j
   ·rename_i e ps asg body hg;split at j
    ·split at j
     ·rename_i e2 ds2 h2 hq1;have s:=q.exec _ _ _ _ _ _ _ _ _ _ hq1 (bl _);rw[cond_eq_ite]at j;split at j
      ·cases j
      ·have back:∀(t:Heap) (Y:Nat) (X:bE),AS h.next {h2 with cI:=jt h2.cI l (.loop e ps asg body 1 .normal)} t->∀o,(t.get l).isSome->AS h.next h (t.wr h.next l o):=λt Y X w o _=>by
        have E:=w.trans (.wr h.next t l o);have A:=s.next
        refine⟨ed A E.next,?_,λb m k=>E.mono b m (s.mono b m k),λb m H k=> ?_⟩
        ·rw[E.keys];show _++(jt h2.cI l _).map (·.1)=_;rw[mC,s.keys,←List.append_assoc];show dB h2.next _++_++_=_
         have F:(t.wr h.next l o).next-h.next=(h2.next-h.next)+((t.wr h.next l o).next-h2.next):=by have:=E.next;have:h2.next<=(t.wr h.next l o).next:=this;omega
         rw[F,oZ,show h.next+(h2.next-h.next)=h2.next by omega]
        ·have D:fP h2.log b=false:=by
          cases e:fP h2.log b with
          |false=>rfl
          |true=>rw[E.mono b m e]at k;cases k
         rw[E.same b m (kz H A) k,qw];split
         ·rename_i e;subst e;rw[Heap.Gf]at k;simp[m]at k
         ·exact s.same b m H D
       have P:∀(t:Heap),AS h.next {h2 with cI:=jt h2.cI l (.loop e ps asg body 1 .normal)} t->(t.get l).isSome->AS h.next h {t with cI:=jt t.cI l (.loop e ps asg body 0 .normal)}:=λt w W=>by
        have A:=s.next
        have Q:h2.next<=t.next:=w.next
        refine⟨ed A Q,?_,λb m k=>w.mono b m (s.mono b m k),λb m H k=> ?_⟩
        ·show(jt t.cI l _).map (·.1)=_;rw[mC,w.keys];show _++(jt h2.cI l _).map (·.1)=_;rw[mC,s.keys,←List.append_assoc];show dB h2.next (t.next-h2.next)++_++_=dB h.next (t.next-h.next)++_
         have F:t.next-h.next=(h2.next-h.next)+(t.next-h2.next):=by omega
         rw[F,oZ,show h.next+(h2.next-h.next)=h2.next by omega]
        ·have D:fP h2.log b=false:=by
          cases e:fP h2.log b with
          |false=>rfl
          |true=>rw[w.mono b m e]at k;cases k
         rw[qw];split
         ·rename_i e;subst e;obtain⟨o,U⟩:=Option.isSome_iff_exists.1 W;rw[U,hg];rfl
         ·rename_i e;have:=w.same b m (kz H A) k;rw[qw,if_neg e]at this;rw[this];exact s.same b m H D
       split at j
       ·rename_i t hq2;have w:=q.exec _ _ _ _ _ _ _ _ _ _ hq2 s.next
        split at j
        ·rename_i hg3;cases j;exact AS.gc' (P t w (by rw[hg3];rfl)) _
        ·cases j
       ·rename_i t hq2;have w:=q.exec _ _ _ _ _ _ _ _ _ _ hq2 s.next
        split at j
        ·rename_i hg3;cases j;exact back t 0 .normal w _ (by rw[hg3];rfl)
        ·cases j
       ·rename_i t hq2;have w:=q.exec _ _ _ _ _ _ _ _ _ _ hq2 s.next
        split at j
        ·rename_i hg3;cases j;exact back t 0 .normal w _ (by rw[hg3];rfl)
        ·cases j
       ·cases j
     ·cases j
    ·cases j
   ·cases j
 case call=>
  intro f z h r B j N;simp only[iS]at j;split at j
  ·cases j
  ·rename_i p hT;split at j
   ·rename_i k;cases j;exact V _ _ _ _ _ _ hT k N
   ·cases j
  ·split at j
   ·rename_i k;exact q.unw _ _ _ _ _ _ _ _ j (q.exec _ _ _ _ _ _ _ _ _ _ k (bl _))
   ·cases j
   ·rename_i k;exact q.unw _ _ _ _ _ _ _ _ j (q.exec _ _ _ _ _ _ _ _ _ _ k (bl _))
   ·cases j
 case unw=>
  intro I J pan e h j r B v M;cases J with
  |nil=>
   simp only[nV]at v;split at v
   ·cases v;exact M
   ·split at v
    ·cases v;exact M.gc' _
    ·cases v
  |cons d J=>
   obtain⟨f,z⟩:=d;cases f<;>simp only[nV]at v<;>(try (cases v;done))
   rename_i L first cap
   cases L<;>simp only at v<;>(try (cases v;done))
   split at v
   ·rename_i k;exact q.unw _ _ _ _ _ _ _ _ v (M.trans (AS.call (q.defer _ _ _ _ _ _ k rfl) M.next))
   ·cases v
 case defer=>
  intro g z pan h C B j N;simp only[jY]at j;split at j
  ·split at j
   ·rename_i k;cases j;exact q.iX _ _ _ _ _ _ _ _ _ k (bl _)
   ·rename_i k;cases j;exact q.iX _ _ _ _ _ _ _ _ _ k (bl _)
   ·cases j
  ·cases j
 case iX=>
  intro base c e pan h x K C B j m;cases c<;>simp only[gV]at j<;>(try (cases j;done))
  case skip=>cases j;exact .refl _ _
  case ret=>cases j;exact .refl _ _
  case region ops keep=>
   split at j
   ·rename_i k;cases j;exact q.nO _ _ _ _ _ _ _ _ _ k m
   ·exact q.nO _ _ _ _ _ _ _ _ _ j m
  case seq a b=>
   split at j
   ·rename_i k;have s:=q.iX _ _ _ _ _ _ _ _ _ k m;exact s.trans (q.iX _ _ _ _ _ _ _ _ _ j (ed m s.next))
   ·exact q.iX _ _ _ _ _ _ _ _ _ j m
  case cond c a b=>
   split at j
   ·exact q.iX _ _ _ _ _ _ _ _ _ j m
   ·exact q.iX _ _ _ _ _ _ _ _ _ j m
   ·cases j
 case nO=>
  intro base ops e pan h x K C B j m;cases ops with
  |nil=>simp only[iV]at j;cases j;exact .refl _ _
  |cons o os=>
   simp only[iV]at j;split at j
   ·exact q.nO _ _ _ _ _ _ _ _ _ j m
   ·split at j
    ·rename_i k;have s:=qd k;exact s.trans (q.nO _ _ _ _ _ _ _ _ _ j (ed m s.next))
    ·split at j
     ·exact q.nO _ _ _ _ _ _ _ _ _ j m
     ·exact q.nO _ _ _ _ _ _ _ _ _ j m
    ·cases j
   ·cases j
theorem fA.all(a:aM T):∀n,fA T n
 |0=> .zero
 |n+1=> .succ a (fA.all a n)
def FO(μ:Mu):Option Value->FrameMode->Prop
 |none,u=>u= .returning
 |some v,u=>∃v',VR μ v v'∧u= .panicking [{v:=v',recovered:=false}]
def xw(μ:Mu):Option Value->FrameMode->Prop
 |some v,u=>∃v',VR μ v v'∧u= .panicking [{v:=v',recovered:=false}]
 |none,u=>u= .returning∨∃v',u= .panicking [{v:=v',recovered:=true}]
def nE(P:Program)(T:Nat->Option an)(n:Nat):Prop:=∀base rnd ac e ds h x e' ds' h',cE T n base rnd ac e ds h=some (x,e',ds',h')->base<=h.next→
 ∀c nt μ w (a:Act) rd lo,gY P nt c ac->nt<=a.tmps.size->R P μ h w->cW μ e a.tmps->DR μ h w lo ds a.defers->RdR μ rnd rd->lo<=w.heap.size->c.wpIn (Fw rd) 0 P (Post P μ h w lo a.tmps.size x e' ds' h') a w
def vQ(P:Program)(T:Nat->Option an)(n:Nat):Prop:=∀base rnd as e ds h x e' ds' h',gz T n base rnd as e ds h=some (x,e',ds',h')->base<=h.next→
 ∀(ops:Array Oper) i m nt μ w (a:Act) rd lo,i+m<=ops.size->cD P nt ops ((ops.toList.drop i).take m)=some as->nt<=a.tmps.size->R P μ h w->cW μ e a.tmps->DR μ h w lo ds a.defers->RdR μ rnd rd->lo<=w.heap.size→
  wpOpsIn (Fw rd) 0 P ops (Post P μ h w lo a.tmps.size x e' ds' h') (List.range' i m) a w
def Kz(P:Program)(T:Nat->Option an)(n:Nat):Prop:=∀base as ord bf e h x e' h',ef T n base as ord bf [] e h=some (x,e',h')->base<=h.next→
 ∀(ops:Array Oper) nt μ w (a:Act) rd lo ds id,cD P nt ops ops.toList=some as->xV as ops.toList ord bf=true->nt<=a.tmps.size->R P μ h w->cW μ e a.tmps->DR μ h w lo ds a.defers->RdR μ (none:Option Nat) rd∨True->lo<=w.heap.size→
  (Code.region id ops true).wpIn (Fw rd) 0 P (Post P μ h w lo a.tmps.size x e' ds h') a w
def rO(P:Program)(T:Nat->Option an)(n:Nat):Prop:=∀fn args h res h',gU T n fn args h=some (res,h')->h.log=[]->∀μ w args',R P μ h w->LR μ args args'→
 (∀g,fn= .func g->pS P (iy P μ h w res h') ((callFunc g args'.toArray).run P w))/\(∀l k,fn= .yield l->μ l=some k->pS P (iy P μ h w res h') ((Instr.yield k.r args'.toArray).run P w))
def vc(P:Program)(T:Nat->Option an)(n:Nat):Prop:=∀f args h res h',iS T n f args h=some (res,h')->h.log=[]->∀μ w args',R P μ h w->LR μ args args'→
 pS P (iy P μ h w res h') ((callFunc f args'.toArray).run P w)
def Au(P:Program)(T:Nat->Option an)(n:Nat):Prop:=∀results ds pan e h h1 res h',nV T n results ds pan e h h1=some (res,h')->AS h.next h h1→
 ∀(fn:Func) μ w μ1 w1 tmps mds u,Fg P fn.results.toList=some results->R P μ h w->R P μ1 h1 w1->St μ h w μ1 h1 w1->cW μ1 e tmps->DR μ1 h1 w1 w.heap.size ds mds->FO μ1 pan u→
  LeavesInM Fence.wide 0 P fn tmps (iy P μ h w res h') mds u w1
def tT(P:Program)(T:Nat->Option an)(n:Nat):Prop:=∀g args pan h pan' h',jY T n g args pan h=some (pan',h')->h.log=[]->∀μ w args' u,R P μ h w->LR μ args args'→FO μ pan u→
 CallsDIn Fence.wide 0 P g args'.toArray u w λen u' w'=>∃v μ',en= .returned v/\R P μ' h' w'∧St μ h w μ' h' w'∧FO μ' pan' (settle u')
def rP(P:Program)(T:Nat->Option an)(n:Nat):Prop:=∀base ac e pan h x e' pan' h',gV T n base ac e pan h=some (x,e',pan',h')->base<=h.next→
 ∀c nt μ w (a:Act) (c0:Frame) cs u,gY P nt c ac->nt<=a.tmps.size->R P μ h w->cW μ e a.tmps->a.defers=[]->xw μ pan u→
  c.wpSIn Fence.wide 0 P (λex a' cs' w'=>∃μ' u',XR μ' x ex/\R P μ' h' w'∧St μ h w μ' h' w'∧cW μ' e' a'.tmps/\a'.defers=[]/\a'.tmps.size=a.tmps.size/\cs'={c0 with mode:=u'}::cs/\xw μ' pan' u') a ({c0 with mode:=u}::cs) w
def vf(P:Program)(T:Nat->Option an)(n:Nat):Prop:=∀base as e pan h x e' pan' h',iV T n base as e pan h=some (x,e',pan',h')->base<=h.next→
 ∀(ops:Array Oper) i nt μ w (a:Act) (c0:Frame) cs u,i<=ops.size->cD P nt ops (ops.toList.drop i)=some as->nt<=a.tmps.size->R P μ h w->cW μ e a.tmps->a.defers=[]->xw μ pan u→
  wpOpsSIn Fence.wide 0 P ops (λex a' cs' w'=>∃μ' u',XR μ' x ex/\R P μ' h' w'∧St μ h w μ' h' w'∧cW μ' e' a'.tmps/\a'.defers=[]/\a'.tmps.size=a.tmps.size/\cs'={c0 with mode:=u'}::cs/\xw μ' pan' u')
   (List.range' i (ops.size-i)) a ({c0 with mode:=u}::cs) w
structure eV (P:Program) (T:Nat->Option an):Prop where
 mixed:P.follows .mixedOrders=true
 code:∀f c rs,T f=some (.code c rs)->∃fn ks,P.funcs[f]? =some fn/\aJ P fn ks=some (.code c rs)
 mb:∀f p args h v h',T f=some (.mb p)->p args h=some (v,h')->h.log=[]->AS h.next h h'∧∀μ w args',R P μ h w->LR μ args args'→pS P (iy P μ h w (.ret v) h') ((callFunc f args'.toArray).run P w)
theorem eV.aM(g:eV P T):aM T:=λf p a h v b c d e=>(g.mb f p a h v b c d e).1
variable {μ:Mu} {h:Heap} {w:World} {e:Env} {a:Act} {base:Nat}
theorem uJ{d:AOp}(a:ig P op=some d)(e:∀f as,d≠ .kF f as):∀c,op≠ .defer c:=by
 intro c b;subst b;unfold ig at a;split at a
 ·dsimp only at a;split at a
  ·cases a;exact e _ _ rfl
  ·cases a
 ·cases a
variable{os:List Oper}
theorem iP{ops:Array Oper}{d:aZ}{as:List aZ}(a:cD P nt ops (o::os)=some (d::as)):
 lX nt o.dst=true/\d.dst=o.dst/\ig P o.op=some d.op/\cD P nt ops os=some as∧
 ∀{e:Env} {μ:Mu} {t:Array Value} {b:Bool},(∀s b0,d.guard=some (s,b0)->∀v,geT e s=some v->∃f,t[s]? =some f∧VR μ v f)->bL e d.guard=some b->Region.wanted o (yielded ops t)=b:=by
 simp only[cD]at a;split at a
 ·rename_i hd;split at a
  ·rename_i a2 as2 h1 h2;split at a
   ·rename_i hg;cases a;refine⟨hd,rfl,h1,h2,λ{e μ t b} _ c=> ?_⟩;cases c;simp[Region.wanted,hg]
   ·rename_i j b0 hg;split at a
    ·rename_i s hs;cases a;refine⟨hd,rfl,h1,h2,λ{e μ t b} i c=> ?_⟩;simp only[bL]at c;simp only[Region.wanted,hg,yielded,hs,Option.bind_some];split at c
     ·rename_i x hx;cases c;obtain⟨f,g,h⟩:=i s b0 rfl _ hx;cases h;simp[g]
     ·rename_i v hv hx;cases c;obtain⟨f,g,h⟩:=i s b0 rfl _ hx;simp only[g];cases h<;>first|rfl|exact(hv _ rfl).elim
     ·cases c
    ·cases a
  ·cases a
 ·cases a
theorem pR{ops:Array Oper}{c:aZ}{as:List aZ}(f:cD P nt ops (o::os)=some (c::as))(d:cW μ e a.tmps){b:Bool}(h:bL e c.guard=some b):
 Region.wanted o (yielded ops a.tmps)=b:=(iP f).2.2.2.2 (λs _ _ v g=>d s v g) h
theorem Fb{i:Nat}(h:i<n):List.range' i (n-i)=i::List.range' (i+1) (n-(i+1)):=by
 rw[show n-i=(n-(i+1))+1 by omega,List.range'_succ]
theorem AN{ops:Array Oper}{i:Nat}(h:ops.toList.drop i=o::os):i<ops.size/\ops[i]? =some o/\ops.toList.drop (i+1)=os:=by
 have a:i<ops.toList.length:=by
  apply Classical.byContradiction;intro b;rw[List.drop_eq_nil_of_le (by omega)]at h;cases h
 rw[wi a]at h;injection h with h1 h2
 refine⟨by simpa using a,?_,h2⟩;have:ops.toList[i]? =some o:=by rw[a6 a,h1]
 simpa using this
theorem zN{j:Option Nat}{r:Result Next}(hr:Ran P μ h w base r v h')
 (g:∀μ' c b,VR μ' v c→R P μ' h' b→St μ h w μ' h' b→next (a.put o.dst c) b):o.uponIn (Fw j) 0 P a next Q r:=by
 obtain⟨μ',c,b,i,d,e,f,_⟩:=hr;rcases i with rfl|⟨rfl,rfl⟩
 ·exact g _ _ _ d e f
 ·exact g _ _ _ d e f
variable{F:Fence}{K j:Act->World->Prop}
theorem FF{g:Exit->Act->World->Prop}(d:∀a w,K a w->j a w)(f:∀e a w,Q e a w->g e a w){r:Result Next}(b:o.uponIn F n P a K Q r):
 o.uponIn F n P a j g r:=by
 have k:LetsOut Q->LetsOut g:=λ⟨a,w,h⟩=>⟨a,w,f _ _ _ h⟩;cases r with
 |ok x w'=>
  cases x<;>simp only[Oper.uponIn]at b⊢ <;>
   first
    |exact d _ _ b
    |exact⟨b.1,CallsIn.mono b.2 (λe i c=>by cases e<;>first|exact d _ _ c|exact f _ _ _ c|exact k c)⟩
    |exact⟨b.1,RowsIn.mono b.2 (λ_ _ c=>d _ _ c)⟩
    |exact⟨b.1,RoundIn.mono b.2 (λe i c=>by cases e<;>first|exact d _ _ c|exact f _ _ _ c|exact k c)⟩
 |halt x w'=>cases x<;>simp only[Oper.uponIn]at b⊢ <;>first|exact b|exact f _ _ _ b
theorem gQ{F:Fence}{n:Nat}{ops:Array Oper}{Q c:Exit->Act->World->Prop}(b:∀e a w,Q e a w->c e a w):∀(l:List Nat) (a:Act) (w:World),wpOpsIn F n P ops Q l a w->wpOpsIn F n P ops c l a w
 |[],_,_,h=>b _ _ _ h
 |i::l,a,w,h=>by
  simp only[wpOpsIn]at h⊢;split at h
  ·exact gQ b l _ _ h
  ·rename_i o ho;split at h
   ·rename_i hw;rw[if_pos hw];exact⟨h.1,FF (λa w=>gQ b l a w) b h.2⟩
   ·rename_i hw;rw[if_neg hw];exact⟨h.1,gQ b l _ _ h.2⟩
theorem gT{a:Option Nat}{f:FuncId}:(Fw a).fn f:=trivial
theorem vQ.succ(hT:eV P T)(hO:vQ P T n)(hC:rO P T n):vQ P T (n+1):=by
 intro base am as e ds h x e' F h' d Z ops i m nt μ w a rd lo hi y A s r I Q ae;cases m with
 |zero=>
  simp only[Ok,cD]at y;cases y;simp only[gz]at d;cases d;exact⟨μ,trivial,s, .refl _ _ _,r,I,rfl⟩
 |succ m=>
  cases hdr:ops.toList.drop i with
  |nil=>
   have:=List.drop_eq_nil_iff.1 hdr;simp at this;omega
  |cons o os=>
   cases as with
   |nil=>
    rw[hdr]at y;simp only[Nm,cD]at y;repeat' split at y
    all_goals cases y
   |cons ao as=>
    rw[hdr,Nm]at y;obtain⟨aE,O,N⟩:=AN hdr;obtain⟨U,V,M,c4,_⟩:=iP y;rw[List.range'_succ];simp only[gz]at d;simp only[wpOpsIn,O];rw[←N]at c4
    have X:∀{μ1:Mu} {j:Heap} {B:World} {C:Act} {H:Env} {G:Dfs},gz T n base am as H G j=some (x,e',F,h')->base<=j.next->h.next<=j.next->C.tmps.size=a.tmps.size->R P μ1 j B->St μ h w μ1 j B→
     cW μ1 H C.tmps->DR μ1 j B lo G C.defers->wpOpsIn (Fw rd) 0 P ops (Post P μ h w lo a.tmps.size x e' F h') (List.range' (i+1) m) C B:=by
     intro μ1 j B C H G p K q k4 k5 k6 k7 k8;have z:=k6.mono s;have:=hO _ _ _ _ _ _ _ _ _ _ p K ops (i+1) m nt μ1 B C rd lo (by omega) c4 (by omega) k5 k7 k8 (Q.mono z) (ed ae k6.le);rw[k4]at this;have mo:∀(l:List Nat) (C:Act) (B:World),wpOpsIn (Fw rd) 0 P ops (Post P μ1 j B lo a.tmps.size x e' F h') l C B->True:=λ_ _ _ _=>trivial;clear mo;exact gQ (λ_ _ _ hp=>hp.trans k6 q) _ _ _ this
    split at d
    ·rename_i hw;rw[pR y r hw];simp only[xj,if_false];refine⟨λ_ _=>gT,?_⟩;refine X d Z (bl _) (dP _ _ _) s (.refl _ _ _) ?_ ?_
     ·rw[V];exact r.put U A (VR.cO (v:=undef) rfl).1
     ·rw[put_defers];exact I
    ·rename_i hw;rw[pR y r hw];simp only[if_true];refine⟨λ_ _=>gT,?_⟩;split at d
     ·rename_i v j b;rw[Oper.semAt_eq _ _ _ (uJ M λf a7 hf=>by rw[hf]at b;simp only[aop]at b;repeat' split at b;all_goals cases b)];have Y:=qd b;refine zN (Ik s r M b) λμ' v' E p K q=> ?_;have z:=q.mono s;refine X d (ed Z Y.next) Y.next (dP _ _ _) K q ?_ ?_
      ·rw[V];exact(r.mono z).put U A p
      ·rw[put_defers];exact I.step q z
     ·rename_i fn args j b;obtain⟨rfl,nd,t,ha,J⟩:=Ch s r M b;rw[Oper.semAt_eq _ _ _ nd];have a8:R P μ ({j with log:=[]}:Heap) w:=s.congr rfl rfl;have S:∀L D,gU T n fn args {j with log:=[]}=some (L,D)->pS P (iy P μ ({j with log:=[]}:Heap) w L D) ((execOp a.eval o).run P w):=λL D c=>by
       obtain⟨g1,g2⟩:=hC _ _ _ _ _ c rfl μ w t a8 ha;rcases J with⟨g,H,e2⟩|⟨l,k,H,e2,e3⟩
       ·rw[e2];exact g1 g H
       ·rw[e3];exact g2 l k H e2
      split at d
      ·rename_i v D c;have Y:=(fA.all hT.aM n).jZ _ _ _ _ _ c rfl;have hn:j.next<=D.next:=Y.next
       refine jK (S _ _ c) (λv' E b=> ?_) (λch E b=> ?_) (λE b=> ?_)
       ·obtain⟨μ',p,K,q⟩:=b;have q:St μ j w μ' D E:=q.qk rfl rfl;have z:=q.mono s;refine X d (ed Z hn) hn (dP _ _ _) (K.congr rfl rfl) (q.jq rfl) ?_ ?_
        ·rw[V];exact(r.mono z).put U A p
        ·rw[put_defers];exact I.step (q.jq rfl) z
       ·obtain⟨μ',p,_⟩:=b;exact p.elim
       ·obtain⟨μ',p,_⟩:=b;exact p.elim
      ·rename_i v D c;cases d;refine jK (S _ _ c) (λv' E b=> ?_) (λch E b=> ?_) (λE b=> ?_)
       ·obtain⟨μ',p,_⟩:=b;exact p.elim
       ·obtain⟨μ',p,K,q⟩:=b;have q:St μ j w μ' D E:=q.qk rfl rfl;have z:=q.mono s;exact⟨μ',p,K.congr rfl rfl,q.jq rfl,r.mono z,I.step (q.jq rfl) z,rfl⟩
       ·obtain⟨μ',p,_⟩:=b;exact p.elim
      ·cases d
     ·rename_i f args b;split at d
      ·cases d
      ·have:rd=none:=Q;subst this;obtain⟨g,first,aw,W,ar,t,rfl,l1,l2,l3,u⟩:=Rs s r M b;have:(Fw none).round=none:=rfl;rw[this,Oper.semAt_none,u];refine X d Z (bl _) (by rw[dP]) s (.refl _ _ _) ?_ ?_
       ·rw[V];exact cW.put (a:={a with defers:=_::a.defers}) r U A (VR.cO (v:=undef) rfl).1
       ·rw[put_defers];exact .cons l1 l2 l3 I
     ·rename_i v j b;obtain⟨rfl,v',p,u⟩:=NV s r M b;cases d;rw[Oper.semAt_eq _ _ _ (uJ M λf a7 hf=>by rw[hf]at b;simp only[aop]at b;repeat' split at b;all_goals cases b),u];exact⟨μ,⟨v',rfl,p⟩,s, .refl _ _ _,r,I,rfl⟩
     ·cases d
    ·cases d
theorem Hi{c:Code}(h:c.wpIn F n P (Exit.noGoto Q) a w):(Code.scope c).wpIn F n P Q a w:=by
 intro b k f r m p;have st1:step P (lone (b.atR a (.code (.scope c)::k)) f w)= .next (lone (b.atR a (.code c:: .inScope c::k)) f w):=step_lone_go (by simp[stepG,stepG.exec,Frame.atR])
 have st2:∀(a:Act) (w:World),step P (lone (b.atR a (.inScope c::k)) f w)= .next (lone (b.atR a k) f w):=λa w=>step_lone_go (by simp[stepG,stepG.exec,Frame.atR])
 have h0:(lone (b.atR a (.code (.scope c)::k)) f w).fenced P F:=fenced_calm m p rfl;obtain⟨e,i,j,g,d⟩:=h b (.inScope c::k) f r m p;cases e with
 |normal=>exact⟨.normal,i,j,g, .head h0 st1 (StepsIn.trans d (.one (fenced_calm m p rfl) (st2 _ _)))⟩
 |exit id'=>
  have s:exitTo id' (.inScope c::k)=exitTo id' k:=by simp[exitTo]
  exact⟨.exit id',i,j,g,λt o=> .head h0 st1 (d.1 t (by rw[s];exact o)),
   λq o=>let⟨k₁,h1,h2⟩:=d.2 q (by rw[s];exact o);⟨k₁,h1, .head h0 st1 h2⟩⟩
 |goto l=>exact g.elim
 |ret=>exact⟨_,i,j,g, .of_steps (.one h0 st1) d⟩
 |panic ch=>exact⟨_,i,j,g, .of_steps (.one h0 st1) d⟩
 |outgrown=>exact⟨_,i,j,g, .of_steps (.one h0 st1) d⟩
theorem gY.inv{c:Code}{e:aT}(h:gY P nt c e):
 match e with
 | .skip=>c= .skip∨∃l,c= .label l
 | .region as _=>∃id ops,c= .region id ops false/\cD P nt ops ops.toList=some as
 | .draw as ord bf _=>∃id ops,c= .region id ops true/\cD P nt ops ops.toList=some as/\xV as ops.toList ord bf=true
 | .seq a b=>∃x y,c= .seq x y/\gY P nt x a/\gY P nt y b
 | .cond o a b=>∃x y,c= .cond o x y/\aN P o=true/\gY P nt x a/\gY P nt y b
 | .block id b=>∃x,c= .block id x/\gY P nt x b
 | .loop b=>∃x,c= .loop x/\gY P nt x b
 | .scope b=>∃x,c= .scope x/\gY P nt x b
 | .rangeFunc f ps a b=>∃pa x y,c= .rangeFunc f pa x y/\pa.toList=ps/\aN P f=true/\(∀t∈ps,t<nt)/\gY P nt x a/\gY P nt y b
 | .rangeMap ops0 it ox keep out nxt pr ops2 k2 body=>∃y z ops nx mo k keep1,c= .seq y z/\gY P nt y (.region ops keep1)/\Ab ops=some (ops0,⟨some it, .nP ox,none⟩)∧
  gY P nt z (.block out (.loop (.seq (.region [⟨some nx, .next (.tmp it) false,none⟩,⟨some mo, .extract (.tmp nx) 0,none⟩] k) (.seq (.cond (.tmp mo) .skip (.exit out)) (.block nxt (.seq (.region (⟨some pr, .entry (.tmp it),none⟩::ops2) k2) body))))))∧
  nx≠mo/\it≠nx/\it≠mo/\(∀t∈keep,t≠it/\t≠nx/\t≠mo)
 | .exit id=>c= .exit id
 | .ret=>c= .ret:=by
 obtain⟨p,n,h⟩:=h;cases c<;>simp only[comp]at h<;>(try (cases h;done))
 case skip=>cases h;exact .inl rfl
 case label l=>cases h;exact .inr ⟨l,rfl⟩
 case scope b=>
  split at h
  ·cases h;exact⟨_,rfl,⟨_,_,by assumption⟩⟩
  ·cases h
 case exit=>cases h;rfl
 case ret=>cases h;rfl
 case region id ops d hold=>
  split at h
  ·split at h
   ·rename_i hd;split at h
    ·rename_i hk;cases h;exact⟨id,ops,by rw[hd],by assumption,hk⟩
    ·cases h
   ·rename_i hd;cases h;exact⟨id,ops,by simp[hd],by assumption⟩
  ·cases h
 case seq a b=>
  split at h
  ·rename_i a' ks1 hca;split at h
   ·rename_i b' ks2 hcb;injection h with h
    injection h with h h'
    unfold XI at h;split at h
    ·rename_i c' hf;subst h;unfold fuse? at hf;split at hf
     ·unfold Tv at hf;split at hf
      ·split at hf
       ·rename_i hu hc;obtain⟨rfl,rfl,rfl,rfl,rfl,g,i,j⟩:=hc;cases hf;refine⟨_,_,_,_,_,_,_,rfl,⟨_,_,hca⟩,hu,⟨_,_,hcb⟩,g,i,j,λt m=> ?_⟩;have:=(List.mem_filter.1 m).2;simp only[beq_eq,Hn,wt,decide_eq_false_iff_not]at this;exact⟨this.1.1,this.1.2,this.2⟩
       ·cases hf
      ·cases hf
     ·cases hf
    ·subst h;exact⟨_,_,rfl,⟨_,_,hca⟩,⟨_,_,hcb⟩⟩
   ·cases h
  ·cases h
 case cond o a b=>
  split at h
  ·split at h
   ·split at h
    ·cases h;exact⟨_,_,rfl,by assumption,⟨_,_,by assumption⟩,⟨_,_,by assumption⟩⟩
    ·cases h
   ·cases h
  ·cases h
 case block id b=>
  split at h
  ·cases h;exact⟨_,rfl,⟨_,_,by assumption⟩⟩
  ·cases h
 case loop b=>
  split at h
  ·cases h;exact⟨_,rfl,⟨_,_,by assumption⟩⟩
  ·cases h
 case rangeFunc f ps a b=>
  split at h
  ·rename_i hc;simp only[dk,GE,Co]at hc;split at h
   ·split at h
    ·cases h;exact⟨ps,_,_,rfl,rfl,hc.1,hc.2,⟨_,_,by assumption⟩,⟨_,_,by assumption⟩⟩
    ·cases h
   ·cases h
  ·cases h
def ve(P:Program)(T:Nat->Option an)(n:Nat):Prop:=∀base rnd ab e ds h x e' ds' h',cE T n base rnd (.loop ab) e ds h=some (x,e',ds',h')->base<=h.next→
 ∀c nt μ w (a:Act) rd lo,gY P nt c ab->nt<=a.tmps.size->R P μ h w->cW μ e a.tmps->DR μ h w lo ds a.defers->RdR μ rnd rd->lo<=w.heap.size→
  c.roundsIn (Fw rd) 0 P (Post P μ h w lo a.tmps.size x e' ds' h') n a w
variable{sz:Nat}
theorem Post.map{a:Dfs}(keep:List Nat){c:Exit}{b:Act}(d:Post P μ h w lo sz .normal e' a h' c b w'):Post P μ h w lo sz .normal (bU e' keep) a h' c b w':=by
 obtain⟨μ',e,f,g,i,j⟩:=d;exact⟨μ',e,f,g,i.keep keep,j⟩
theorem Post.normal{x:bE}{a:Dfs}{b:Act}(c:Post P μ h w lo sz x e' a h' .normal b w'):x= .normal:=by
 obtain⟨μ',d,_⟩:=c;cases x<;>first|rfl|exact d.elim
variable {μ:Mu} {h:Heap} {w:World} {e:Env} {a:Act} {base:Nat}
theorem eR{c:Code}{b:Exit->Act->World->Prop}(d:∀e a w,Q e a w->b e a w)(h:c.wpIn F n P Q a w):c.wpIn F n P b a w:=Go.wpIn_mono h d
theorem sK{F:Fence}{n:Nat}{c:Code}{Q b:Exit->Act->World->Prop}(d:∀e a w,Q e a w->b e a w):∀(m:Nat) (a:Act) (w:World),c.roundsIn F n P Q m a w->c.roundsIn F n P b m a w
 |0,_,_,h=>h
 |m+1,a,w,h=>eR (λe a w q=>by cases e<;>first|exact sK d m _ _ q|exact d _ _ _ q) h
theorem ve.succ(F:eV P T)(B:nE P T n)(E:ve P T n):ve P T (n+1):=by
 intro base L M e N h x O D Q j o c t μ w a v s r m q k A g f;simp only[cE]at j;split at j
 ·rename_i e1 ds1 h2 hq;have z:=(fA.all F.aM n).exec _ _ _ _ _ _ _ _ _ _ hq o;have:=B _ _ _ _ _ _ _ _ _ _ hq o c t μ w a v s r m q k A g f;refine eR (λp y C b=> ?_) this;cases p with
  |normal=>
   obtain⟨μ',d,H,u,I,J,K⟩:=b;have G:=u.mono q;have:=E _ _ _ _ _ _ _ _ _ _ j (ed o z.next) c t μ' C y v s r (by omega) H I J (g.mono G) (ed f u.le);rw[K]at this;exact sK (λ_ _ _ b=>b.trans u z.next) _ _ _ this
  |exit i=>obtain⟨μ',d,_⟩:=b;exact d.elim
  |goto l=>obtain⟨μ',d,_⟩:=b;exact d.elim
  |ret=>obtain⟨μ',d,_⟩:=b;exact d.elim
  |panic ch=>obtain⟨μ',d,_⟩:=b;exact d.elim
  |outgrown=>obtain⟨μ',d,_⟩:=b;exact d.elim
 ·rename_i hne;have:=B _ _ _ _ _ _ _ _ _ _ j o c t μ w a v s r m q k A g f;refine eR (λp y C b=> ?_) this;cases p with
  |normal=>have:=b.normal;subst this;exact(hne _ _ _ j).elim
  |_=>exact b
theorem nE.Yt(hT:eV P T)(Q:nE P T n)(hO:vQ P T n)(V:Kz P T n)(hL:ve P T (n+1))
 (a7:∀base H ops it ox keep out nxt pr ops2 k2 body e M h x K v L,cE T (n+1) base H (.rangeMap ops it ox keep out nxt pr ops2 k2 body) e M h=some (x,K,v,L)→base≤h.next→
   ∀c C μ w (a:Act) A u,gY P C c (.rangeMap ops it ox keep out nxt pr ops2 k2 body)->C<=a.tmps.size->R P μ h w->cW μ e a.tmps->DR μ h w u M a.defers->RdR μ H A->u<=w.heap.size->c.wpIn (Fw A) 0 P (Post P μ h w u a.tmps.size x K v L) a w)
 (Z:∀base H f ps asg body e M h x K v L,cE T (n+1) base H (.rangeFunc f ps asg body) e M h=some (x,K,v,L)→base≤h.next→
   ∀c C μ w (a:Act) A u,gY P C c (.rangeFunc f ps asg body)->C<=a.tmps.size->R P μ h w->cW μ e a.tmps->DR μ h w u M a.defers->RdR μ H A->u<=w.heap.size->c.wpIn (Fw A) 0 P (Post P μ h w u a.tmps.size x K v L) a w):
 nE P T (n+1):=by
 intro base H ac e M h x K v L k G c C μ w a A u I r B d D s m;have hA:=fA.all hT.aM n;cases ac;case rangeFunc f ps asg body=>exact Z _ _ _ _ _ _ _ _ _ _ _ _ _ k G c C μ w a A u I r B d D s m
 case rangeMap ops it ox keep out nxt pr ops2 k2 body=>exact a7 _ _ _ _ _ _ _ _ _ _ _ _ _ _ _ _ _ _ _ k G c C μ w a A u I r B d D s m
 case loop b=>
  obtain⟨y,rfl,J⟩:=I.inv;exact wpIn_loop_rounds _ (hL _ _ _ _ _ _ _ _ _ _ k G y C μ w a A u J r B d D s m)
 case skip=>
  have a8:c= .skip∨∃l,c= .label l:=I.inv;simp only[cE]at k;cases k;rcases a8 with rfl|⟨l,rfl⟩
  ·exact wpIn_skip ⟨μ,trivial,B, .refl _ _ _,d,D,rfl⟩
  ·exact wpIn_label ⟨μ,trivial,B, .refl _ _ _,d,D,rfl⟩
 case scope b=>
  obtain⟨y,rfl,J⟩:=I.inv;simp only[cE]at k;refine Hi (eR (λN S Y t=> ?_) (Q _ _ _ _ _ _ _ _ _ _ k G y C μ w a A u J r B d D s m));cases N with
  |goto l=>obtain⟨μ',E,_⟩:=t;cases x<;>exact E.elim
  |_=>exact t
 case exit i=>
  have:c= .exit i:=I.inv;subst this;simp only[cE]at k;cases k;exact wpIn_exit ⟨μ,rfl,B, .refl _ _ _,d,D,rfl⟩
 case ret=>
  have:c= .ret:=I.inv;subst this;simp only[cE]at k;cases k;exact wpIn_ret ⟨μ,trivial,B, .refl _ _ _,d,D,rfl⟩
 case region as keep=>
  obtain⟨id,ops,rfl,O⟩:=I.inv;simp only[cE]at k;refine wpIn_region ?_;have run:∀x K v L,gz T n base H as e M h=some (x,K,v,L)->wpOpsIn (Fw A) 0 P ops (Post P μ h w u a.tmps.size x K v L) (List.range ops.size) a w:=λx K v L F=>by
   have:=hO _ _ _ _ _ _ _ _ _ _ F G ops 0 ops.size C μ w a A u (by omega) (by rw[tb,dn (by simp)];exact O) r B d D s m;rw[←List.range_eq_range']at this;exact this
  split at k
  ·rename_i F;cases k;exact gQ (λ_ _ _ t=>t.map keep) _ _ _ (run _ _ _ _ F)
  ·exact run _ _ _ _ k
 case draw as ord bf keep=>
  obtain⟨id,ops,rfl,O,W⟩:=I.inv;simp only[cE]at k;split at k
  ·rename_i F;cases k;exact eR (λ_ _ _ t=>t.map keep) (V _ _ _ _ _ _ _ _ _ F G ops C μ w a A u M id O W r B d D (.inr trivial) m)
  ·rename_i F;cases k;exact V _ _ _ _ _ _ _ _ _ F G ops C μ w a A u M id O W r B d D (.inr trivial) m
  ·cases k
 case seq p q=>
  obtain⟨y,z,rfl,J,hz⟩:=I.inv;simp only[cE]at k;refine wpIn_seq ?_;split at k
  ·rename_i e1 ds1 h2 F;have U:=hA.exec _ _ _ _ _ _ _ _ _ _ F G;refine eR (λN S Y t=> ?_) (Q _ _ _ _ _ _ _ _ _ _ F G y C μ w a A u J r B d D s m);cases N with
   |normal=>
    obtain⟨μ',E,X,q3,q4,q5,q6⟩:=t;have hm:=q3.mono B;have:=Q _ _ _ _ _ _ _ _ _ _ k (ed G U.next) z C μ' Y S A u hz (by omega) X q4 q5 (s.mono hm) (ed m q3.le);rw[q6]at this;exact eR (λ_ _ _ t=>t.trans q3 U.next) this
   |exit i=>obtain⟨μ',E,_⟩:=t;exact E.elim
   |goto l=>obtain⟨μ',E,_⟩:=t;exact E.elim
   |ret=>obtain⟨μ',E,_⟩:=t;exact E.elim
   |panic ch=>obtain⟨μ',E,_⟩:=t;exact E.elim
   |outgrown=>obtain⟨μ',E,_⟩:=t;exact E.elim
  ·rename_i hne;refine eR (λN S Y t=> ?_) (Q _ _ _ _ _ _ _ _ _ _ k G y C μ w a A u J r B d D s m);cases N with
   |normal=>have:=t.normal;subst this;exact(hne _ _ _ k).elim
   |_=>exact t
 case cond o p q=>
  obtain⟨y,z,rfl,ho,J,hz⟩:=I.inv;simp only[cE]at k;split at k
  ·rename_i F;have g:=cV B d ho F;generalize hev:a.eval o=ov at g;cases g;exact wpIn_cond_true hev (Q _ _ _ _ _ _ _ _ _ _ k G y C μ w a A u J r B d D s m)
  ·rename_i F;have g:=cV B d ho F;generalize hev:a.eval o=ov at g;cases g;exact wpIn_cond_false hev (Q _ _ _ _ _ _ _ _ _ _ k G z C μ w a A u hz r B d D s m)
  ·cases k
 case block id b=>
  obtain⟨y,rfl,J⟩:=I.inv;simp only[cE]at k;refine wpIn_block ?_;split at k
  ·rename_i i e1 ds1 h2 F;refine eR (λN S Y t=> ?_) (Q _ _ _ _ _ _ _ _ _ _ F G y C μ w a A u J r B d D s m);obtain⟨μ',E,X⟩:=t;cases N<;>first|exact E.elim|skip
   rename_i j;have ae:i=j:=E;subst ae;simp only[cond_eq_ite,beq_eq,decide_eq_true_eq]at k;simp only[Exit.inBlock];split at k
   ·rename_i hi;cases k;rw[if_pos hi];exact⟨μ',trivial,X⟩
   ·rename_i hi;cases k;rw[if_neg hi];exact⟨μ',rfl,X⟩
  ·rename_i hne;refine eR (λN S Y t=> ?_) (Q _ _ _ _ _ _ _ _ _ _ k G y C μ w a A u J r B d D s m);cases N with
   |exit i=>
    obtain⟨μ',E,X⟩:=t;cases x<;>first|exact E.elim|skip
    exact(hne _ _ _ _ k).elim
   |_=>exact t
theorem R.An(d:R P μ h w){w':World}{j:Obj}(e:w'.heap=w.heap.push j)(i:Same w w':=by exact⟨rfl,rfl,rfl,by first|exact bl _|exact ww _ _⟩):R P μ h w'∧St μ h w μ h w':=by
 have s:=size_push e;refine⟨⟨d.big,λg o m n=>let⟨k,a,b,c,x⟩:=d.lZ g o m n;⟨k,a,b,c,x.get (fI e _ (d.dom _ _ a).2)⟩,λb o f=>OR.mono (λ_ _ h=>h) rfl (λk p=>fI e _ (d.dom _ _ p).2) (d.obj b o f),d.lt,λb k f=>⟨(d.dom b k f).1,by have:=(d.dom b k f).2;omega⟩,d.lJ⟩,
  ⟨λ_ _=>rfl,by omega,λr q _=>fI e r q,λ_ _ h=>h,λr L l=>⟨L,(fI e r (Array.getElem?_eq_some_iff.1 l).1).trans l, .refl L⟩,i⟩⟩
variable{l:Nat}{L:Loop}
theorem run_getLoop(a:w.heap[l]? =some (.loop L)):(Instr.getLoop l).run P w= .ok L w:=by
 simp only[Instr.getLoop,go,jP a (by simp),ci,hK]
variable{rnd:Option Nat}{asg body:aT}
theorem LW{B:Option Nat}{C:Dfs}{ps:Array Tmp}{x y:Code}(fn:FuncId)(i:R P μ h w)(G:cW μ e a.tmps)(r:DR μ h w lo C a.defers)(m:RdR μ rnd B)(g:rC h rnd=true)(v:lo<=w.heap.size)
 (z:nt<=a.tmps.size)(A:∀t∈ps.toList,t<nt)(I:gY P nt x asg)(J:gY P nt y body):
 ∃l mark w1,(Instr.enterLoop fn a.tmps ps x y B).run P w= .ok (l,mark) w1/\R P (upd μ h.next ⟨l,0,0,0⟩) (h.push (.loop e ps.toList asg body 0 .normal)) w1∧
  St μ h w (upd μ h.next ⟨l,0,0,0⟩) (h.push (.loop e ps.toList asg body 0 .normal)) w1/\DR (upd μ h.next ⟨l,0,0,0⟩) (h.push (.loop e ps.toList asg body 0 .normal)) w1 lo C (mark++a.defers):=by
 have alloc:∀(w0:World) (d:Nat),R P μ h w0->St μ h w μ h w0->∀(L:Loop),L={state:= .ready,pending:=none,fn,tmps:=a.tmps,params:=ps,assign:=x,body:=y,defers:=d}→
  R P (upd μ h.next ⟨w0.heap.size,0,0,0⟩) (h.push (.loop e ps.toList asg body 0 .normal)) {w0 with heap:=w0.heap.push (.loop L)}∧
  St μ h w (upd μ h.next ⟨w0.heap.size,0,0,0⟩) (h.push (.loop e ps.toList asg body 0 .normal)) {w0 with heap:=w0.heap.push (.loop L)}:=λw0 d j u L f=>by
  obtain⟨n,c⟩:=j.alloc (w':={w0 with heap:=w0.heap.push (.loop L)}) (o:= .loop e ps.toList asg body 0 .normal) (k:=⟨w0.heap.size,0,0,0⟩) rfl rfl (λk q=>by
   rw[fE]at q;cases q;refine⟨L,by simp,?_,by rw[f],⟨nt,by rw[f];exact z,A,by rw[f];exact I,by rw[f];exact J⟩, .inl ⟨rfl,by rw[f],by rw[f],rfl⟩⟩;rw[f];exact G.mono λb T D=>by
    unfold upd;rw[if_neg];exact D;intro e;subst e;exact ui _ (j.dom _ _ D).1)
  exact⟨n,u.trans c (bl _)⟩
 cases rnd with
 |none=>
  have:B=none:=m;subst this;obtain⟨K,M⟩:=i.An (w':={w with heap:=w.heap.push (.deferred (some []))}) rfl;obtain⟨n,c⟩:=alloc _ w.heap.size K M _ rfl;refine⟨_,[{target:= .collected w.heap.size,args:= #[]}],_,?_,n,c,?_⟩
  ·simp only[Instr.enterLoop,go,run_newObj,ci,hK]
  ·refine .mark v (λN as H=>r.marks N as H) ?_ ?_ (r.step c (c.mono i))
   ·simp[Array.getElem?_push]
   ·intro ⟨b,o,k,O,Q,S,p,F⟩;unfold upd at p;split at p
    ·cases p;simp at F
    ·have:=(i.dom b k p).2;omega
 |some la=>
  obtain⟨k,q,rfl⟩:=m;simp only[rC]at g;split at g
  ·rename_i hg;obtain⟨E,s,_⟩:=i.obj la _ hg k q;obtain⟨n,c⟩:=alloc w E.defers i (.refl _ _ _) _ rfl;refine⟨_,[],_,?_,n,c,r.step c (c.mono i)⟩;simp only[Instr.enterLoop,go,run_getLoop s,ci,hK];simp only[run_newObj,ci,hK,go]
  ·cases g
theorem kr(e:eV P T){g:Nat}(b:iD (T g)=false)(args:Array Value)(w:World):(callFunc g args).run P w= .ok (.enter g args) w:=by
 unfold iD at b;split at b
 ·rename_i c rs hc;obtain⟨f,h,d,a⟩:=e.code g c rs hc;unfold aJ at a;split at a
  ·rename_i body hb;split at a
   ·cases a
   ·rename_i hn;simp[callFunc,program,Sem.run,d,hb,hn]
  ·cases a
 ·cases b
theorem RV(hT:eV P T)(hC:vc P T n):∀base D f ps m b e J h x Y z h',cE T (n+1) base D (.rangeFunc f ps m b) e J h=some (x,Y,z,h')->base<=h.next→
 ∀c nt μ w (a:Act) I H,gY P nt c (.rangeFunc f ps m b)->nt<=a.tmps.size->R P μ h w->cW μ e a.tmps->DR μ h w H J a.defers->RdR μ D I->H<=w.heap.size->c.wpIn (Fw I) 0 P (Post P μ h w H a.tmps.size x Y z h') a w:=by
 intro base D f ps m b e J h x Y z h' k hb c nt μ w a I H X be K S hD cf aw;obtain⟨Q,cx,cy,rfl,rfl,hf,bj,hx,hy⟩:=X.inv;simp only[cE,cond_eq_ite]at k;split at k
 ·rename_i hra;split at k
  ·rename_i g first cap hfv
   split at k
   ·cases k
   ·rename_i s;have s:iD (T g)=false:=by simpa using s
    have gf:=cV K S hf hfv;generalize hev:a.eval f=fv' at gf;obtain⟨f',fa,fc,rfl,ar,l1,l2⟩:=gf.qq;cases ar;refine wpIn_rangeFunc (F:=Fw I) λfn _=> ?_;obtain⟨l,r,y,am,q1,q2,q3⟩:=LW fn K S hD cf hra aw be bj hx hy;have hm:=q2.mono K;let args':List Value:=fa.toList++([.func (.yield l) #[] #[]]++fc.toList);have A:LR (upd μ h.next ⟨l,0,0,0⟩) (ek first.toList (ek [.func (.yield h.next) #[] #[]] cap.toList)) args':=by
     rw[dI,dI];refine(l1.mono hm).append (.append (.cons ?_ .nil) (l2.mono hm));exact VR.Md (.yield (fE _ _ _)) .nil .nil
    have bo:R P (upd μ h.next ⟨l,0,0,0⟩) ({h.push (.loop e Q.toList m b 0 .normal)with log:=[]}:Heap) y:=q1.congr rfl rfl;refine⟨l,r,y,{target:= .fn (.func g) fc,args:=fa++ #[.func (.yield l) #[] #[]]},y,g,args'.toArray,y,am,?_,λ_ _=>gT,?_,λhq=>(by cases hq),?_⟩
    ·have ae:∀v:Value,a.eval (.const v)=v:=λ_=>rfl;simp[resolve,rangeCall,hev,Deferred.ofValue,ae]
    ·have:(fa++ #[.func (.yield l) #[] #[]])++fc=args'.toArray:=by apply eY;simp[args']
     simp only[invoke,this];exact kr hT s _ _
    ·have O:∀C hh,iS T n g (ek first.toList (ek [.func (.yield h.next) #[] #[]] cap.toList)) {h.push (.loop e Q.toList m b 0 .normal)with log:=[]}=some (C,hh)→
      CallsIn Fence.wide 0 P g args'.toArray y (iy P (upd μ h.next ⟨l,0,0,0⟩) ({h.push (.loop e Q.toList m b 0 .normal)with log:=[]}:Heap) y C hh):=λC hh hq=>by
      have:=hC _ _ _ _ _ hq rfl _ _ _ bo A;rw[kr hT s]at this;exact this
     split at k
     ·rename_i v h2 hcall;have hA:=(fA.all hT.aM n).call _ _ _ _ _ hcall rfl;have cj:h.next+1<=h2.next:=hA.next
      refine CallsIn.mono (F:=Fw I) (O _ _ hcall) λZ j hp=> ?_;obtain⟨μ',E,G,o⟩:=hp;cases Z with
      |outgrown=>exact E.elim
      |panicked ch=>exact E.elim
      |returned v'=>
       have o:St (upd μ h.next ⟨l,0,0,0⟩) (h.push (.loop e Q.toList m b 0 .normal)) y μ' h2 j:=o.qk rfl rfl;have V:St μ h w μ' h2 j:=q2.trans o (Hc _);split at k
       ·rename_i le lps la lb st jh hg2;split at k
        ·cases k
        ·rename_i t;have t:st≠1:=by simpa[beq_eq]using t
         cases k;have hμ:μ' h.next=some ⟨l,0,0,0⟩:=by
          rw[o.ext h.next (ec _)];exact fE _ _ _
         obtain⟨L,U,_,_,_,u⟩:=G.obj h.next _ hg2 _ hμ
         have aE:l<j.heap.size:=(G.dom _ _ hμ).2
         obtain⟨r1,r2⟩:=G.write (base:=base) (o':= .dead) (w':={j with heap:=j.heap.setIfInBounds l (.loop {L with state:= .exhausted})}) hg2 rfl rfl hμ (by simp)
          (fun r' cd=>by simp[gy,Ne.symm cd]) ⟨fun c el fz X=>(by rw[U]at X;cases X),fun L' N=>(by
            rw[U]at N;cases N;exact⟨{L with state:= .exhausted},by simp[gy,aE],⟨rfl,rfl,rfl,rfl,rfl,rfl⟩⟩)⟩ trivial
         have B:L.state≠ .busy:=by
          rcases u with⟨_,q,_⟩|⟨q,_⟩|⟨_,q,_⟩
          ·rw[q];simp
          ·exact(t q).elim
          ·rw[q];simp
         have p:(Instr.endLoop l).run P j= .ok L.pending {j with heap:=j.heap.setIfInBounds l (.loop {L with state:= .exhausted})}:=by
          have a8:(L.state==LoopState.busy)=false:=by
           cases hs:L.state<;>first|rfl|exact(B hs).elim
          simp only[Instr.endLoop,go,run_getLoop U,ci,a8,xj,if_false];simp[setObj,Sem.run,U]
         have M:St μ h w μ' (Heap.wr {h2 with log:=aH base h.log h2.log} base h.next .dead) {j with heap:=j.heap.setIfInBounds l (.loop {L with state:= .exhausted})}:=by
          refine St.jq (h1:=h2.wr base h.next .dead) ?_ rfl;exact V.trans r2 (by omega)
         have ba:=M.mono K;have a7:DR μ' (Heap.wr {h2 with log:=aH base h.log h2.log} base h.next .dead) {j with heap:=j.heap.setIfInBounds l (.loop {L with state:= .exhausted})} H J (r++a.defers):=by
          have d1:=q3.step o (o.mono q1);have d2:=d1.step r2 (r2.mono G);exact d2.step (St.jq (h1:=h2.wr base h.next .dead) (.refl _ _ _) rfl) (λ_ _ h=>h)
         have d:∀ex,XR μ' x ex->Post P μ h w H a.tmps.size x e J (Heap.wr {h2 with log:=aH base h.log h2.log} base h.next .dead) ex {a with defers:=r++a.defers} {j with heap:=j.heap.setIfInBounds l (.loop {L with state:= .exhausted})}:=
          λex hx=>⟨μ',hx,r1.congr rfl rfl,M,S.mono ba,a7,rfl⟩
         revert d p;generalize({j with heap:=j.heap.setIfInBounds l (.loop {L with state:= .exhausted})}:World)=W;intro p d;refine⟨L.pending,W,p,?_⟩;rcases u with⟨_,_,q,q'⟩|⟨q,_⟩|⟨_,_,q⟩
         ·rw[q];subst q';exact d .normal trivial
         ·exact(t q).elim
         ·cases x with
          |normal=>rw[show L.pending=none from q];exact d .normal trivial
          |exit i=>rw[show L.pending=some (.exit i)from q];exact wpIn_exit (d (.exit i) rfl)
          |ret=>rw[show L.pending=some .ret from q];exact wpIn_ret (d .ret trivial)
          |panic v=>exact q.elim
       ·cases k
     ·rename_i v h2 hcall;cases k;refine CallsIn.mono (F:=Fw I) (O _ _ hcall) λZ j hp=> ?_;obtain⟨μ',E,G,o⟩:=hp;cases Z with
      |outgrown=>exact E.elim
      |returned v'=>exact E.elim
      |panicked ch=>
       have o:St (upd μ h.next ⟨l,0,0,0⟩) (h.push (.loop e Q.toList m b 0 .normal)) y μ' h2 j:=o.qk rfl rfl;have V:St μ h w μ' h2 j:=q2.trans o (Hc _);exact⟨μ',E,G.congr rfl rfl,V.jq rfl,S.mono (V.mono K),(q3.step o (o.mono q1)).step (St.jq (h1:=h2) (.refl _ _ _) rfl) (λ_ _ h=>h),rfl⟩
     ·cases k
  ·cases k
 ·cases k
variable{ps:List Nat}
theorem J1{a:Heap}(q:h.get l=some (.loop e ps asg body 0 .normal))(j:AS h.next h a)
 (i:AS h.next {a with cI:=jt a.cI l (.loop e ps asg body 1 .normal)} c)(s:(c.get l).isSome):AS h.next h {c with cI:=jt c.cI l (.loop e ps asg body 0 .normal)}:=by
 have g:=j.next
 have m:a.next<=c.next:=i.next
 refine⟨ed g m,?_,λb d f=>i.mono b d (j.mono b d f),λb d n f=> ?_⟩
 ·show(jt c.cI l _).map (·.1)=_;rw[mC,i.keys];show _++(jt a.cI l _).map (·.1)=_;rw[mC,j.keys,←List.append_assoc];show dB a.next (c.next-a.next)++_++_=dB h.next (c.next-h.next)++_
  have p:c.next-h.next=(a.next-h.next)+(c.next-a.next):=by omega
  rw[p,oZ,show h.next+(a.next-h.next)=a.next by omega]
 ·have k:fP a.log b=false:=by
   cases e:fP a.log b with
   |false=>rfl
   |true=>rw[i.mono b d e]at f;cases f
  rw[qw];split
  ·rename_i e;subst e;obtain⟨o,r⟩:=Option.isSome_iff_exists.1 s;rw[r,q];rfl
  ·rename_i e;have:=i.same b d (kz n g) f;rw[qw,if_neg e]at this;rw[this];exact j.same b d n k
theorem uU{nt:Nat}:∀{ps:List Nat} {args args':List Value} {e e1:Env} {t:Array Value},jU e ps args=some e1->cW μ e t->LR μ args args'→nt<=t.size->(∀p∈ps,p<nt)→
 args'.length=ps.length/\cW μ e1 ((ps.zip args').foldl (λtmps (p:Nat×Value)=>tmps.setIfInBounds p.1 p.2) t)/\((ps.zip args').foldl (λtmps (p:Nat×Value)=>tmps.setIfInBounds p.1 p.2) t).size=t.size
 |[],[],args',e,e1,t,hs,hE,hl,_,_=>by cases hs;cases hl;exact⟨rfl,hE,rfl⟩
 |[],_::_,_,_,_,_,hs,_,_,_,_=>by cases hs
 |_::_,[],_,_,_,_,hs,_,_,_,_=>by cases hs
 |p::ps,v::vs,args',e,e1,t,hs,hE,hl,hnt,hps=>by
  cases hl with
  |cons h1 h2=>
   rename_i v' vs';simp only[jU]at hs;have hE':cW μ ((p,v)::e) (t.setIfInBounds p v'):=by
    have:=cW.put (a:=⟨t,[]⟩) (dst:=some p) (nt:=nt) hE (by simp[lX,Co];exact hps p (by simp)) hnt h1;exact this
   obtain⟨c,d,f⟩:=uU (t:=t.setIfInBounds p v') hs hE' h2 (by simpa using hnt) (λx b=>hps x (by simp[b]));exact⟨by simp[c],by simpa using d,by simpa using f⟩
variable{k:Blk}
theorem R.Bv(x:R P μ h w){L0:Loop}{u:List Nat}{z A:aT}{v:Nat}{s:bE}{st:Nat}{jh:bE}(C:h.get l=some (.loop e0 u z A v s))(m:μ l=some k)
 (g:w.heap[k.r]? =some (.loop L))(a:iI L L0)(B:cW μ e L.tmps)(D:L.params.toList=ps)(n:nt<=L.tmps.size)(o:∀t∈ps,t<nt)(i:gY P nt L.assign asg)(j:gY P nt L.body body)(q:StR st jh L0):
 (setObj k.r (.loop L0)).run P w= .ok () {w with heap:=w.heap.setIfInBounds k.r (.loop L0)}∧
 R P μ ({h with cI:=jt h.cI l (.loop e ps asg body st jh)}:Heap) {w with heap:=w.heap.setIfInBounds k.r (.loop L0)}∧
 St μ h w μ ({h with cI:=jt h.cI l (.loop e ps asg body st jh)}:Heap) {w with heap:=w.heap.setIfInBounds k.r (.loop L0)}:=by
 have f:k.r<w.heap.size:=(x.dom _ _ m).2
 obtain⟨E,F⟩:=x.write (base:=0) (o':= .loop e ps asg body st jh) (w':={w with heap:=w.heap.setIfInBounds k.r (.loop L0)}) C rfl rfl m (by simp)
  (fun K p=>by simp[gy,Ne.symm p]) ⟨fun c H I y=>(by rw[g]at y;cases y),fun G d=>(by
    rw[g]at d;cases d;exact⟨L0,by simp[gy,f],a⟩)⟩ (λJ b=>by
     rw[m]at b;cases b;exact⟨L0,by simp[gy,f],by rw[a.tmps];exact B,by rw[a.params];exact D,⟨nt,by rw[a.tmps];exact n,o,by rw[a.assign];exact i,by rw[a.body];exact j⟩,q⟩)
 exact⟨by simp[setObj,Sem.run,g],E.congr rfl rfl,F.jq rfl⟩
theorem rO.succ(hT:eV P T)(hE:nE P T n)(hC:vc P T n):rO P T (n+1):=by
 intro fn cX h d9 h' c hl μ w b hR B;refine⟨λg hg=> ?_,λl k hg hk=> ?_⟩
 ·subst hg;simp only[gU]at c;exact hC _ _ _ _ _ c hl μ w b hR B
 ·subst hg;simp only[gU]at c;split at c
  ·rename_i e ps asg body hgl;split at c
   ·rename_i e1 hsp;split at c
    ·rename_i e2 ds2 h2 hq1;rw[cond_eq_ite]at c;split at c
     ·cases c
     ·rename_i hnr;have u:=(fA.all hT.aM n).exec _ _ _ _ _ _ _ _ _ _ hq1 (bl _);have M:∃e' S a' b',h2.get l=some (.loop e' S a' b' 0 .normal):=by
       unfold notReady at hnr;split at hnr
       ·rename_i hq;exact⟨_,_,_,_,hq⟩
       ·simp at hnr
      obtain⟨ee,ep,ea,eb,M⟩:=M;obtain⟨L,hL,X,O,⟨nt,C,a8,Z,a7⟩,cY⟩:=hR.obj l _ hgl k hk;obtain⟨p1,p2,p3⟩:=uU (t:=L.tmps) hsp X B C a8;let T0:Array Value:=(L.params.zip b.toArray).foldl (λG (t,a)=>G.setIfInBounds t a) L.tmps;have bj:T0=(ps.zip b).foldl (λG (p:Nat×Value)=>G.setIfInBounds p.1 p.2) L.tmps:=by
       show(L.params.zip b.toArray).foldl _ L.tmps=_;rw[←Array.foldl_toList,←O];simp
      rw[←bj]at p2 p3;have hy:(Instr.yield k.r b.toArray).run P w= .ok (.round k.r L.fn T0 L.assign L.body) w:=by
       have cf:¬b.toArray.size≠L.params.size:=by
        have:L.params.size=ps.length:=by rw[←O];simp
        simp[this,p1]
       simp only[Instr.yield,go,run_getLoop hL,ci,cf,if_false,hK];rfl
      rw[hy];refine roundIn_of_wpIn (F:=Fence.wide) trivial ?_;refine eR (λI a1 A z=> ?_) (hE _ _ _ _ _ _ _ _ _ _ hq1 (bl _) L.assign nt μ w ⟨T0,[]⟩ (some k.r) w.heap.size Z (by rw[p3];exact C) hR p2 .nil ⟨k,hk,rfl⟩ (bl _));obtain⟨μ1,x1,R1,S1,E1,D1,z1⟩:=z;cases I<;>first|exact x1.elim|skip
      have aw:=S1.mono hR;have N:=aw _ _ hk;obtain⟨H,Y,y⟩:=S1.loops _ _ hL;obtain⟨d8,W,_,_,_,ba⟩:=R1.obj l _ M k N;rw[Y]at W;cases W;have Q:H.state= .ready:=by
       rcases ba with⟨_,q,_⟩|⟨q,_⟩|⟨q,_⟩
       ·exact q
       ·cases q
       ·cases q
      obtain⟨s1,s2,s3⟩:=R1.Bv (L0:={H with state:= .busy}) (e:=e) (ps:=ps) (asg:=asg) (body:=body) (st:=1) (jh:= .normal) (nt:=nt) M N Y ⟨rfl,rfl,rfl,rfl,rfl,rfl⟩ (by rw[y.tmps];exact X.mono aw) (by rw[y.params];exact O) (by rw[y.tmps];exact C) a8
       (by rw[y.assign];exact Z) (by rw[y.body];exact a7) (.inr (.inl ⟨rfl,rfl⟩))
      have ar:k.r<A.heap.size:=(R1.dom _ _ N).2;have K:(Instr.beginRound k.r).run P A= .ok () {A with heap:=A.heap.setIfInBounds k.r (.loop {H with state:= .busy})}:=by
       simp only[Instr.beginRound,go,run_getLoop Y,ci,s1,Q,hK]
      refine⟨_,K,?_⟩;have be:({A with heap:=A.heap.setIfInBounds k.r (.loop {H with state:= .busy})}:World).heap[k.r]? =some (.loop {H with state:= .busy}):=by simp[gy,ar]
      have cJ:iI L {H with state:= .busy}:=y.trans ⟨rfl,rfl,rfl,rfl,rfl,rfl⟩;have S2:St μ h w μ1 ({h2 with cI:=jt h2.cI l (.loop e ps asg body 1 .normal)}:Heap) {A with heap:=A.heap.setIfInBounds k.r (.loop {H with state:= .busy})}:=S1.trans s3 u.next
      have D2:=D1.step s3 (s3.mono R1);have cj:w.heap.size<=({A with heap:=A.heap.setIfInBounds k.r (.loop {H with state:= .busy})}:World).heap.size:=by simpa using S1.le
      generalize({A with heap:=A.heap.setIfInBounds k.r (.loop {H with state:= .busy})}:World)=w2 at*;generalize({H with state:= .busy}:Loop)=L2 at*
      have run:∀x J f o,cE T n h.next (some l) body e2 ds2 {h2 with cI:=jt h2.cI l (.loop e ps asg body 1 .normal)}=some (x,J,f,o)→
       AS h.next {h2 with cI:=jt h2.cI l (.loop e ps asg body 1 .normal)} o∧
       L.body.wpIn (Fw (some k.r)) 0 P (Post P μ1 ({h2 with cI:=jt h2.cI l (.loop e ps asg body 1 .normal)}:Heap) w2 w.heap.size a1.tmps.size x J f o) a1 w2:=λx J f o hq=>
       ⟨(fA.all hT.aM n).exec _ _ _ _ _ _ _ _ _ _ hq u.next,
         hE _ _ _ _ _ _ _ _ _ _ hq u.next L.body nt μ1 w2 a1 (some k.r) w.heap.size a7 (by rw[z1,p3];exact C) s2 E1 D2 ⟨k,N,rfl⟩ cj⟩
      have fin:∀(x:bE) J f o I (a3:Act) w3,AS h.next {h2 with cI:=jt h2.cI l (.loop e ps asg body 1 .normal)} o->Post P μ1 ({h2 with cI:=jt h2.cI l (.loop e ps asg body 1 .normal)}:Heap) w2 w.heap.size a1.tmps.size x J f o I a3 w3→
       ∀e' S a' b' pd,o.get l=some (.loop e' S a' b' 1 pd)->∀(st:Nat) (jh:bE) (d:Option Code),(∀V:Loop,V.state=(if d.isNone then LoopState.ready else .done)->V.pending=d->StR st jh V)→
       ∃μ3 U,(Instr.endRound k.r d).run P w3= .ok (.bool d.isNone) U/\R P μ3 ({o with cI:=jt o.cI l (.loop e ps asg body st jh)}:Heap) U/\St μ h w μ3 ({o with cI:=jt o.cI l (.loop e ps asg body st jh)}:Heap) U:=by
       intro x J f o I a3 w3 j z e' S a' b' pd m st jh d cd;obtain⟨μ3,_,R3,S3,_,_,_⟩:=z;have ae:=S2.trans S3 u.next
       have aE:=ae.mono hR;have bo:=aE _ _ hk;obtain⟨L3,am,s⟩:=S3.loops _ _ be;have s:iI L L3:=cJ.trans s
       obtain⟨r1,r2,r3⟩:=R3.Bv (L0:={L3 with state:=if d.isNone then .ready else .done,pending:=d}) (e:=e) (ps:=ps) (asg:=asg) (body:=body) (st:=st) (jh:=jh) (nt:=nt) m bo am ⟨rfl,rfl,rfl,rfl,rfl,rfl⟩ (by rw[s.tmps];exact X.mono aE)
        (by rw[s.params];exact O) (by rw[s.tmps];exact C) a8 (by rw[s.assign];exact Z) (by rw[s.body];exact a7) (cd _ rfl rfl)
       refine⟨μ3,_,?_,r2,ae.trans r3 (ed u.next j.next)⟩;simp only[Instr.endRound,go,run_getLoop am,ci,r1,hK]
      split at c
      ·rename_i J f o hq3;obtain⟨j,E⟩:=run _ _ _ _ hq3;split at c
       ·rename_i m;cases c;refine eR (λI a3 w3 z=> ?_) E;have D:=z;obtain⟨μ3,x3,_⟩:=D;cases I<;>first|exact x3.elim|skip
        obtain⟨μ4,U,t1,t2,t3⟩:=fin _ _ _ _ _ _ _ j z _ _ _ _ _ m 0 .normal none (λV q1 q2=> .inl ⟨rfl,q1,q2,rfl⟩);obtain⟨μ5,g1,g2,g3,_⟩:=Mf hR t2 t3 (J1 hgl u j (by rw[m];rfl)) (v:= .bool true) (v':= .bool true) (.bool true);exact⟨_,U,t1,μ5,g2,g1,g3⟩
       ·cases c
      ·rename_i i J f o hq3;obtain⟨j,E⟩:=run _ _ _ _ hq3;split at c
       ·rename_i m;cases c;refine eR (λI a3 w3 z=> ?_) E;have D:=z;obtain⟨μ3,x3,_⟩:=D;cases I<;>first|exact x3.elim|skip
        have:i=_:=x3;subst this;obtain⟨μ4,U,t1,t2,t3⟩:=fin _ _ _ _ _ _ _ j z _ _ _ _ _ m 2 (.exit i) (some (.exit i)) (λV q1 q2=> .inr (.inr ⟨rfl,q1,q2⟩));exact⟨_,U,t1,μ4, .bool false,t2.congr rfl rfl,t3.jq rfl⟩
       ·cases c
      ·rename_i J f o hq3;obtain⟨j,E⟩:=run _ _ _ _ hq3;split at c
       ·rename_i m;cases c;refine eR (λI a3 w3 z=> ?_) E;have D:=z;obtain⟨μ3,x3,_⟩:=D;cases I<;>first|exact x3.elim|skip
        obtain⟨μ4,U,t1,t2,t3⟩:=fin _ _ _ _ _ _ _ j z _ _ _ _ _ m 2 .ret (some .ret) (λV q1 q2=> .inr (.inr ⟨rfl,q1,q2⟩));exact⟨_,U,t1,μ4, .bool false,t2.congr rfl rfl,t3.jq rfl⟩
       ·cases c
      ·cases c
    ·cases c
   ·cases c
  ·cases c
theorem wz:∀{vs:List Value} {i t:Nat} {v:Value},geT (ej i vs) t=some v->i<=t/\vs[t-i]? =some v
 |[],_,_,_,h=>by simp[ej,geT]at h
 |x::vs,i,t,v,h=>by
  simp only[ej,geT,cond_eq_ite,beq_eq,decide_eq_true_eq]at h;split at h
  ·rename_i e;subst e;cases h;exact⟨bl _,by simp⟩
  ·obtain⟨q1,q2⟩:=wz h;exact⟨by omega,by rw[show t-i=(t-(i+1))+1 by omega];simpa using q2⟩
theorem A4{args args':List Value}(c:LR μ args args')(m:Nat):cW μ (ej 0 args) (args'.toArray++Array.replicate (m-args'.toArray.size) undef):=by
 intro t v d;obtain⟨_,q⟩:=wz d;rw[Nat.sub_zero]at q;obtain⟨f,b,e⟩:=c.get (i:=t) (by rw[bW];exact q);refine⟨f,?_,e⟩;have a:=(List.getElem?_eq_some_iff.1 b).1;rw[Array.getElem?_append_left (by simpa using a)];simpa using b
def RY(tmps:Array Value):ResultVar->Sem Value
 | .tmp t=>pure (tmps.getD t undef)
 | .cell a t=>do loadVar t (←asAddr (tmps.getD a undef))
theorem tH(d:R P μ h w):∀{rs:List ResultVar} {b:List (Nat×Option (Option Nat))} {vs:List Value} {tmps:Array Value},Fg P rs=some b->cW μ e tmps->bZ h e b=some vs→
 ∃a,LR μ vs a∧(rs.mapM (RY tmps)).run P w= .ok a w
 |[],b,vs,tmps,hp,hE,hr=>by
  cases hp;cases hr;exact⟨[], .nil,by simp⟩
 | .tmp t::rs,b,vs,tmps,hp,hE,hr=>by
   simp only[Fg]at hp;obtain⟨l,hl,rfl⟩:=ff hp;simp only[bZ]at hr;split at hr
   ·rename_i v hv;split at hr
    ·rename_i vs2 hvs;cases hr;obtain⟨a,i,j⟩:=tH d hl hE hvs;obtain⟨k,f,g⟩:=hE t v hv;refine⟨k::a, .cons g i,?_⟩;simp only[List.mapM_cons,go,RY,hK,ci,j,ut,f,Option.getD_some]
    ·cases hr
   ·cases hr
 | .cell c t::rs,b,vs,tmps,hp,hE,hr=>by
   simp only[Fg]at hp;split at hp
   ·rename_i n l hn hl;cases hp;simp only[bZ]at hr;split at hr
    ·rename_i av hav;split at hr
     ·rename_i v hv;split at hr
      ·rename_i vs2 hvs;cases hr;obtain⟨a,i,j⟩:=tH d hl hE hvs;obtain⟨q,f,g⟩:=hE c av hav;obtain⟨r,o,k,rfl,m,p⟩:=EA (P:=P) d g hv;refine⟨k::a, .cons m i,?_⟩;simp only[List.mapM_cons,go,RY,hK,ci,ut,f,Option.getD_some,asAddr,wB hn,p,j]
      ·cases hr
     ·cases hr
    ·cases hr
   ·cases hp
theorem wC(j:R P μ h w){fn:Func}{b:List (Nat×Option (Option Nat))}{vs:List Value}{tmps:Array Value}(k:Fg P fn.results.toList=some b)(i:cW μ e tmps)(hr:bZ h e b=some vs):
 ∃v',VR μ (eT vs) v'∧(results fn tmps).run P w= .ok v' w:=by
 obtain⟨a,f,l⟩:=tH j k i hr;have m:=f.length;have d:(results fn tmps).run P w= .ok (if hh:a.toArray.size=1 then a.toArray[0]else .tuple a.toArray) w:=by
  have g:results fn tmps=(do let vs ←fn.results.mapM (RY tmps);pure (if h:vs.size=1 then vs[0]else .tuple vs)):=by
   unfold results;congr 2
  rw[g,Array.mapM_eq_mapM_toList];simp[l]
 refine⟨_,?_,d⟩;cases f with
 |nil=>simp[eT];exact VR.nS (c:= #[]) (c':= #[]) .nil
 |cons h1 h2=>
  cases h2 with
  |nil=>simpa[eT]using h1
  |cons h3 h4=>
   simp only[List.size_toArray,me,show∀n:Nat,¬ (n+1+1=1)by omega,dite_false,eT];exact VR.nS (by simpa using LR.cons h1 (.cons h3 h4))
theorem R.shut(i:R P μ h w){r:Nat}{x:Option (List Deferred)}(hr:w.heap[r]? =some (.deferred x)):R P μ h {w with heap:=w.heap.setIfInBounds r (.deferred none)}:=by
 have m:∀b o k,h.get b=some o->o≠ .dead->μ b=some k->k.r≠r:=λb o k j n l e=>by
  have f:=i.obj b o j;cases o with
  |dead=>exact n rfl
  |cells vs own sz=>obtain⟨_,c,t,u,d,_⟩:=f k l;rw[e,hr]at d;cases d
  |map es=>obtain⟨_,_,d,_⟩:=f k l;rw[e,hr]at d;cases d
  |sC es=>obtain⟨_,_,d,_⟩:=f k l;rw[e,hr]at d;cases d
  |loop _ _ _ _ _ _=>obtain⟨_,d,_⟩:=f k l;rw[e,hr]at d;cases d
  |nw _ _=>have d:=(f k l).2;rw[e,hr]at d;cases d
 refine⟨i.big,λg o d p=> ?_,λb o j=> ?_,i.lt,λb k j=>⟨(i.dom b k j).1,by simpa using(i.dom b k j).2⟩,i.lJ⟩
 ·obtain⟨k,a,b,c,x⟩:=i.lZ g o d p;refine⟨k,a,b,c,λs q=>x.get ?_ s q⟩;have:=m g o k p (λe=>by subst e;cases q) a;simp[gy,Ne.symm this]
 by_cases n:o= .dead
 ·subst n;trivial
 ·exact OR.mono (λ_ _ h=>h) rfl (λk l=>by simp[gy,Ne.symm (m b o k j n l)]) (i.obj b o j)
theorem ON{r:Nat}(hr:w.heap[r]? =some (.deferred (some []))):(Instr.takeDeferred r).run P w= .ok [] {w with heap:=w.heap.setIfInBounds r (.deferred none)}:=by
 simp only[Instr.takeDeferred,go,jP hr (by simp),ci];simp[setObj,Sem.run,hr]
theorem DR.shut{r:Nat}{d:Dfs}{ms:List Deferred}(e:DR μ h w lo d ms)(b:∀a as,({target:= .collected a,args:=as}:Deferred)∈ms->a<r):DR μ h {w with heap:=w.heap.setIfInBounds r (.deferred none)} lo d ms:=by
 induction e with
 |nil=>exact .nil
 |cons h1 h2 h3 _ ih=>exact .cons h1 h2 h3 (ih λa as c=>b a as (bu _ c))
 |mark h1 h0 h2 h3 _ ih=>
  rename_i r0 _ _ _;have f:r0<r:=b r0 #[] (by simp);exact .mark h1 h0 (by simp[gy,show¬r=r0 by omega,h2]) h3 (ih λa as c=>b a as (bu _ c))
theorem St.shut{μ0:Mu}{w0:World}(s:St μ0 c w0 μ h w){r:Nat}(hr:w0.heap.size<=r):St μ0 c w0 μ h {w with heap:=w.heap.setIfInBounds r (.deferred none)}:=
 ⟨s.ext,by simpa using s.le,λa b g=>by
  rw[←s.keep a b g];simp[gy,show¬r=a by omega],s.wr,λa L d=>by
  have f:=(Array.getElem?_eq_some_iff.1 d).1;obtain⟨e,i,j⟩:=s.loops a L d;exact⟨e,by simp[gy,show¬r=a by omega,i],j⟩,s.same.trans ⟨rfl,rfl,rfl,by first|exact bl _|exact ww _ _⟩⟩
variable{u:FrameMode}
theorem N6{pan:Option Value}(a:FO μ pan u):u≠ .run:=by
 cases pan with
 |none=>rw[show u= .returning from a];simp
 |some v=>obtain⟨b,_,rfl⟩:=a;simp
theorem Au.succ(H:eV P T)(Q:Au P T n)(t:tT P T n):Au P T (n+1):=by
 intro l K pan e h o X Z c p L μ w μ1 D m A u J G b s F E a;induction A generalizing D with
 |nil=>
  cases E;simp only[nV]at c;simp only[LeavesInM];split at c
  ·cases c;obtain⟨B,z,rfl⟩:=a;exact⟨μ1,⟨B,rfl,z⟩,b,s⟩
  ·split at c
   ·rename_i vs hvs;cases c;have:u= .returning:=a;subst this;obtain⟨B,z,j⟩:=wC b J F hvs;obtain⟨μ2,M,N,O,_⟩:=Mf G b s p z;exact⟨B,j,μ2,N,M,O⟩
   ·cases c
 |cons d ms ih=>
  simp only[LeavesInM];refine⟨N6 a,?_⟩;cases E with
  |mark m1 m0 m2 m3 m4=>
   rename_i r;exact .inl ⟨r,_,rfl,ON m2,ih _ (b.shut m2) (s.shut m1) (m4.shut m0)⟩
  |cons c1 c2 c3 c4=>
   rename_i g first cap first' cap' args args' K
   simp only[nV]at c;split at c
   ·rename_i pan' h2 hq;have i:=(fA.all H.aM n).defer _ _ _ _ _ _ hq rfl;have S:o.next<=h2.next:=i.next
    have y:iD (T g)=false:=by
     cases n with
     |zero=>simp[jY]at hq
     |succ n=>
      simp only[jY]at hq;split at hq
      ·rename_i hTg;rw[hTg];rfl
      ·cases hq
    have f:LR μ1 (ek first.toList (ek args cap.toList)) (first'.toList++(args'++cap'.toList)):=by
     rw[dI,dI];exact c1.append (c3.append c2)
    refine .inr ⟨λq=>(by cases q), .func g,cap',g,(first'.toList++(args'++cap'.toList)).toArray,rfl,?_,λ_ _=>trivial,?_⟩
    ·have:(first'++args'.toArray)++cap'=(first'.toList++(args'++cap'.toList)).toArray:=by apply eY;simp
     simp only[invoke,this];exact kr H y _ _
    ·refine CallsDIn.mono (t _ _ _ _ _ _ hq rfl μ1 D _ u (b.congr rfl rfl) f a) λY u' C U=> ?_;obtain⟨v,μ',rfl,V,k,W⟩:=U;have k:St μ1 o D μ' h2 C:=k.qk rfl rfl;have I:=k.mono b;have x:St μ h w μ' ({h2 with log:=aH h.next o.log h2.log}:Heap) C:=(s.trans k p.next).jq rfl;exact Q _ _ _ _ _ _ _ _ c (p.trans (AS.call i p.next)) L μ w μ' C m ms _ J G (V.congr rfl rfl) x (F.mono I) ((c4.step k I).step (St.jq (h1:=h2) (.refl _ _ _) rfl) (λ_ _ h=>h)) W
   ·cases c
theorem vc.succ(D:eV P T)(J:nE P T n)(G:Au P T n):vc P T (n+1):=by
 intro f k h O S d L μ w a s g;simp only[iS]at d;split at d
 ·cases d
 ·rename_i p hTf;split at d
  ·rename_i v q j;cases d;exact(D.mb f p k h v _ hTf j L).2 μ w a s g
  ·cases d
 ·rename_i code results hTf;have H:iD (T f)=false:=by rw[hTf];rfl
  rw[kr D H];obtain⟨o,N,K,b⟩:=D.code f code results hTf;unfold aJ at b;split at b
  ·rename_i c hb;split at b
   ·cases b
   ·split at b
    ·rename_i ac rs hcomp hres;cases b;show CallsIn Fence.wide 0 P f a.toArray w _;refine callsIn_of_wp_marks (F:=Fence.wide) K hb trivial ?_;have l:=fA.all D.aM n
     have run:∀x r e q,cE T n h.next none code (ej 0 k) [] h=some (x,r,e,q)→
      c.wpIn (Fw none) 0 P (Post P μ h w w.heap.size (a.toArray++Array.replicate (o.ntmps-a.toArray.size) undef).size x r e q) {tmps:=a.toArray++Array.replicate (o.ntmps-a.toArray.size) undef,defers:=[]} w:=
      λx r e q j=>J _ _ _ _ _ _ _ _ _ _ j (bl _) c o.ntmps μ w ⟨_,[]⟩ none w.heap.size ⟨N,[],hcomp⟩ (by simp;omega) s (A4 g _) .nil rfl (bl _)
     split at d
     ·rename_i v r e q j;have C:=l.exec _ _ _ _ _ _ _ _ _ _ j (bl _);refine eR (λB m E I=> ?_) (run _ _ _ _ j);obtain⟨μ',t,z,A,y,u,_⟩:=I;cases B<;>first|exact t.elim|skip
      obtain⟨Q,rfl,M⟩:=t;exact G _ _ _ _ _ _ _ _ d C o μ w μ' E m.tmps m.defers _ hres s z A y u ⟨Q,M,rfl⟩
     ·cases d
     ·rename_i x r e q hnp hne j;have C:=l.exec _ _ _ _ _ _ _ _ _ _ j (bl _);refine eR (λB m E I=> ?_) (run _ _ _ _ j);obtain⟨μ',t,z,A,y,u,_⟩:=I;cases x with
      |panic v=>exact(hnp v rfl).elim
      |exit i=>exact(hne i rfl).elim
      |normal=>
       cases B<;>first|exact t.elim|skip
       exact G _ _ _ _ _ _ _ _ d C o μ w μ' E m.tmps m.defers _ hres s z A y u rfl
      |ret=>
       cases B<;>first|exact t.elim|skip
       exact G _ _ _ _ _ _ _ _ d C o μ w μ' E m.tmps m.defers _ hres s z A y u rfl
     ·cases d
    ·cases b
  ·cases b
theorem xw.mono{μ':Mu}(e:∀b k,μ b=some k->μ' b=some k){pan:Option Value}{u:FrameMode}(a:xw μ pan u):xw μ' pan u:=by
 cases pan with
 |none=>exact a
 |some v=>obtain⟨f,c,d⟩:=a;exact⟨f,c.mono e,d⟩
theorem RB{pan:Option Value}(a:FO μ pan u):xw μ pan u:=by
 cases pan with
 |none=>exact .inl a
 |some v=>exact a
theorem wv{pan:Option Value}(a:xw μ pan u):FO μ pan (settle u):=by
 cases pan with
 |none=>
  rcases a with rfl|⟨b,rfl⟩
  ·rfl
  ·rfl
 |some v=>obtain⟨b,c,rfl⟩:=a;exact⟨b,c,rfl⟩
def vR(P:Program)(μ0:Mu)(h0:Heap)(w0:World)(sz:Nat)(x:bE)(e':Env)(pan':Option Value)(h':Heap)(c0:Frame)(cs:List Frame):Exit->Act->List Frame->World->Prop:=λex a' cs' w'=>
 ∃μ' u',XR μ' x ex/\R P μ' h' w'∧St μ0 h0 w0 μ' h' w'∧cW μ' e' a'.tmps/\a'.defers=[]/\a'.tmps.size=sz/\cs'={c0 with mode:=u'}::cs/\xw μ' pan' u'
theorem vR.trans{μ0 μ1:Mu}{b h1:Heap}{w0 e:World}{sz:Nat}{x:bE}{e':Env}{pan':Option Value}{h':Heap}{c0:Frame}{cs:List Frame}(s:St μ0 b w0 μ1 h1 e)(f:b.next<=h1.next){d:Exit}{c:Act}{a:List Frame}{w':World}
 (g:vR P μ1 h1 e sz x e' pan' h' c0 cs d c a w'):vR P μ0 b w0 sz x e' pan' h' c0 cs d c a w':=by
 obtain⟨μ',l,h,i,j,k⟩:=g;exact⟨μ',l,h,i,s.trans j f,k⟩
theorem fN{F:Fence}{n:Nat}{ops:Array Oper}{Q c:Exit->Act->List Frame->World->Prop}(b:∀e a cs w,Q e a cs w->c e a cs w):∀(l:List Nat) (a:Act) (cs:List Frame) (w:World),wpOpsSIn F n P ops Q l a cs w->wpOpsSIn F n P ops c l a cs w
 |[],_,_,_,h=>b _ _ _ _ h
 |i::l,a,cs,w,h=>by
  simp only[wpOpsSIn]at h⊢;split at h
  ·exact fN b l _ _ _ h
  ·obtain⟨h0,h⟩:=h;refine⟨h0,?_⟩;split at h
   ·rename_i hw;rw[if_pos hw];split at h
    ·split at h
     ·exact fN b l _ _ _ h
     ·exact fN b l _ _ _ h
    ·exact fN b l _ _ _ h
    ·exact fN b l _ _ _ h
    ·exact b _ _ _ _ h
    ·exact h.elim
   ·rename_i hw;rw[if_neg hw];exact fN b l _ _ _ h
theorem oV{c:Code}{cs:List Frame}{Q f:Exit->Act->List Frame->World->Prop}(j:∀e a cs w,Q e a cs w->f e a cs w)(h:c.wpSIn F n P Q a cs w):c.wpSIn F n P f a cs w:=
 λb k i m g d=>let⟨e,a',cs',w',l,q,r⟩:=h b k i m g d;⟨e,a',cs',w',l,j _ _ _ _ q,r⟩
theorem vf.succ(hT:eV P T)(U:vf P T n):vf P T (n+1):=by
 intro base as e pan h x y d z f I ops i nt μ w a c0 k u hi l m t p A b;cases as with
 |nil=>
  simp only[iV]at f;cases f;have V:ops.toList.drop i=[]:=by
   cases hq:ops.toList.drop i with
   |nil=>rfl
   |cons o os=>
    rw[hq]at l;simp only[cD]at l;repeat' split at l
    all_goals cases l
  have:ops.size<=i:=by
   have:=List.drop_eq_nil_iff.1 V;simpa using this
  rw[show ops.size-i=0 by omega];exact⟨μ,u,trivial,t, .refl _ _ _,p,A,rfl,rfl,b⟩
 |cons ao as=>
  cases hdr:ops.toList.drop i with
  |nil=>rw[hdr]at l;simp[cD]at l
  |cons o os=>
   rw[hdr]at l;obtain⟨D,C,B⟩:=AN hdr;obtain⟨F,G,O,c4,_⟩:=iP l;rw[Fb D];simp only[iV]at f;simp only[wpOpsSIn,C];rw[←B]at c4
   have H:∀{μ1:Mu} {q:Heap} {E:World} {s:Act} {L:Env} {j:Option Value} {K:FrameMode},iV T n base as L j q=some (x,y,d,z)->base<=q.next->h.next<=q.next->s.tmps.size=a.tmps.size->R P μ1 q E->St μ h w μ1 q E→
    cW μ1 L s.tmps->s.defers=[]->xw μ1 j K->wpOpsSIn Fence.wide 0 P ops (vR P μ h w a.tmps.size x y d z c0 k) (List.range' (i+1) (ops.size-(i+1))) s ({c0 with mode:=K}::k) E:=by
    intro μ1 q E s L j K M N J Y Z k6 k7 k8 k9;have:=U _ _ _ _ _ _ _ _ _ M N ops (i+1) nt μ1 E s c0 k K D c4 (by omega) Z k7 k8 k9;rw[Y]at this;exact fN (λ_ _ _ _ W=>vR.trans (x:=x) (e':=y) (pan':=d) (h':=z) (c0:=c0) (cs:=k) k6 J W) _ _ _ _ this
   refine⟨λ_ _=>trivial,?_⟩;split at f
   ·rename_i hw;rw[pR l p hw];simp only[xj,if_false];refine H f I (bl _) (dP _ _ _) t (.refl _ _ _) ?_ ?_ b
    ·rw[G];exact p.put F m (VR.cO (v:=undef) rfl).1
    ·rw[put_defers];exact A
   ·rename_i hw;rw[pR l p hw];simp only[if_true];split at f
    ·rename_i v q hq;have Q:=qd hq;obtain⟨μ',r,w',c,M,N,J,_⟩:=Ik t p O hq;have S:=J.mono t;have fin:wpOpsSIn Fence.wide 0 P ops (vR P μ h w a.tmps.size x y d z c0 k) (List.range' (i+1) (ops.size-(i+1))) (a.put o.dst r) ({c0 with mode:=u}::k) w':=by
      refine H f (ed I Q.next) Q.next (dP _ _ _) N J ?_ ?_ (b.mono S)
      ·rw[G];exact(p.mono S).put F m M
      ·rw[put_defers];exact A
     rcases c with c|⟨c,rfl⟩
     ·rw[c];exact fin
     ·rw[c];exact fin
    ·rename_i hq;rw[Gu O hq];simp only;split at f
     ·rename_i v;obtain⟨r,X,rfl⟩:=b;have g:recoverD ({c0 with mode:= .panicking [{v:=r,recovered:=false}]}::k)=some (r,{c0 with mode:= .panicking [{v:=r,recovered:=true}]}::k):=rfl;rw[g];refine H f I (bl _) (dP _ _ _) t (.refl _ _ _) ?_ ?_ (.inr ⟨r,rfl⟩)
      ·rw[G];exact p.put F m X
      ·rw[put_defers];exact A
     ·have g:recoverD ({c0 with mode:=u}::k)=none:=by
       rcases b with rfl|⟨r,rfl⟩<;>rfl
      rw[g];refine H f I (bl _) (dP _ _ _) t (.refl _ _ _) ?_ ?_ b
      ·rw[G];exact p.put F m .nilIface
      ·rw[put_defers];exact A
    ·cases f
   ·cases f
theorem rP.succ(hT:eV P T)(F:rP P T n)(hO:vf P T n):rP P T (n+1):=by
 intro base Z e pan h x B f C i A c D μ w a c0 k u G j m d s b;have hA:=fA.all hT.aM n;cases Z<;>simp only[gV]at i<;>(try (cases i;done))
 case skip=>
  have L:c= .skip∨∃l,c= .label l:=G.inv;cases i;rcases L with rfl|⟨l,rfl⟩
  ·exact wpSIn_of_wpIn rfl (wpIn_skip ⟨μ,u,trivial,m, .refl _ _ _,d,s,rfl,rfl,b⟩)
  ·exact wpSIn_of_wpIn rfl (wpIn_label ⟨μ,u,trivial,m, .refl _ _ _,d,s,rfl,rfl,b⟩)
 case ret=>
  have:c= .ret:=G.inv;subst this;cases i;exact wpSIn_of_wpIn rfl (wpIn_ret ⟨μ,u,trivial,m, .refl _ _ _,d,s,rfl,rfl,b⟩)
 case region as keep=>
  obtain⟨id,ops,rfl,M⟩:=G.inv;refine wpSIn_region ?_;have run:∀x B f C,iV T n base as e pan h=some (x,B,f,C)->wpOpsSIn Fence.wide 0 P ops (vR P μ h w a.tmps.size x B f C c0 k) (List.range ops.size) a ({c0 with mode:=u}::k) w:=λx B f C r=>by
   have:=hO _ _ _ _ _ _ _ _ _ r A ops 0 D μ w a c0 k u (gK _) (by simpa using M) j m d s b;rw[Nat.sub_zero,←List.range_eq_range']at this;exact this
  split at i
  ·rename_i r;cases i;refine fN (λ_ _ _ _ v=> ?_) _ _ _ _ (run _ _ _ _ r);obtain⟨μ',I,q1,O,Q,S,U⟩:=v;exact⟨μ',I,q1,O,Q,S.keep keep,U⟩
  ·exact run _ _ _ _ i
 case seq p q=>
  obtain⟨y,z,rfl,H,N⟩:=G.inv;refine wpSIn_seq ?_;split at i
  ·rename_i e1 pan1 h2 r;have E:=hA.iX _ _ _ _ _ _ _ _ _ r A;refine oV (λK W J Y v=> ?_) (F _ _ _ _ _ _ _ _ _ r A y D μ w a c0 k u H j m d s b);obtain⟨μ',I,V,O,Q,S,U,q6,rfl,q8⟩:=v;cases K<;>first|exact V.elim|skip
   have:=F _ _ _ _ _ _ _ _ _ i (ed A E.next) z D μ' Y W c0 k I N (by omega) O S U q8;rw[q6]at this;exact oV (λ_ _ _ _ v=>vR.trans (x:=x) (e':=B) (pan':=f) (h':=C) (c0:=c0) (cs:=k) Q E.next v) this
  ·rename_i hne;refine oV (λK W J Y v=> ?_) (F _ _ _ _ _ _ _ _ _ i A y D μ w a c0 k u H j m d s b);cases K with
   |normal=>
    obtain⟨μ',I,V,_⟩:=v;cases x<;>first|exact V.elim|skip
    exact(hne _ _ _ i).elim
   |_=>exact v
 case cond o p q=>
  obtain⟨y,z,rfl,X,H,N⟩:=G.inv;split at i
  ·rename_i r;have g:=cV m d X r;generalize hev:a.eval o=ov at g;cases g;exact wpSIn_cond (t:=true) hev (F _ _ _ _ _ _ _ _ _ i A y D μ w a c0 k u H j m d s b)
  ·rename_i r;have g:=cV m d X r;generalize hev:a.eval o=ov at g;cases g;exact wpSIn_cond (t:=false) hev (F _ _ _ _ _ _ _ _ _ i A z D μ w a c0 k u N j m d s b)
  ·cases i
theorem tT.succ(J:eV P T)(H:rP P T n):tT P T (n+1):=by
 intro g j pan h e U f V μ w b u I i k;simp only[jY]at f;split at f
 ·rename_i code hTg;obtain⟨y,O,K,a⟩:=J.code g code [] hTg;unfold aJ at a;split at a
  ·rename_i c hb;split at a
   ·cases a
   ·split at a
    ·rename_i ac rs hcomp hres;cases a;have run:∀x s m,gV T n h.next code (ej 0 j) pan h=some (x,s,e,m)->(x= .normal∨x= .ret)->CallsDIn Fence.wide 0 P g b.toArray u w λG o r=>∃v μ',G= .returned v/\R P μ' m r∧St μ h w μ' m r∧FO μ' e (settle o):=λx s m l N=>by
      refine callsDIn_of_wpSIn (F:=Fence.wide) K hb trivial λc0 D M=> ?_;have hc0:({c0 with mode:=u}:Frame)=c0:=by subst M;rfl
      have:=H _ _ _ _ _ _ _ _ _ l (bl _) c y.ntmps μ w ⟨b.toArray++Array.replicate (y.ntmps-b.toArray.size) undef,[]⟩ c0 D u ⟨O,[],hcomp⟩ (by simp;omega) I (A4 i _) rfl (RB k);rw[hc0]at this;refine oV (λt S E r L=> ?_) this;obtain⟨μ',o,C,q,z,Q,A,X,rfl,B⟩:=L;obtain⟨p,W,d⟩:=wC q hres Q (vs:=[]) rfl;rcases N with rfl|rfl
      ·cases t<;>first|exact C.elim|skip
       exact⟨A,o,rfl,p,d,p,μ',rfl,q,z,wv B⟩
      ·cases t<;>first|exact C.elim|skip
       exact⟨A,o,rfl,p,d,p,μ',rfl,q,z,wv B⟩
     split at f
     ·rename_i l;cases f;exact run _ _ _ l (.inl rfl)
     ·rename_i l;cases f;exact run _ _ _ l (.inr rfl)
     ·cases f
    ·cases a
  ·cases a
 ·cases f
theorem wQ{x:Operand}(a:mQ [x]=true):ev h e x=ev h' e x:=by
 cases x<;>first|rfl|simp[mQ]at a
theorem wq{x:Operand}{l:List Operand}(a:mQ (x::l)=true):mQ [x]=true/\mQ l=true:=by
 cases x<;>simp[mQ]at a⊢ <;>exact a
theorem yb{h h':Heap}:∀{ps:List (Nat×Nat×Operand)} {z:List Value},mQ (ps.map (·.2.2))=true->j6 h e z ps=j6 h' e z ps
 |[],_,_=>rfl
 |(o,s,x)::ps,z,hx=>by
  obtain⟨h1,h2⟩:=wq hx;simp only[j6,wQ (h:=h) (h':=h') h1];split
  ·rw[yb h2]
  ·rfl
theorem CK{l:List Value}{c:Array Value}{el:TypeId}(h:w'.heap=w.heap.push (.cells c el))(a:LR μ l c.toList)(g:∀b k,μ b=some k->μ' b=some k)(hb:μ' b=some ⟨w.heap.size,0,c.size,sz⟩):
 OR P μ' w' b (.cells l true sz):=by
 intro k e;rw[hb]at e;cases e;have f:l.length=c.size:=by rw[a.length];simp
 refine⟨rfl,c,el,(0,0),by rw[h];simp,by simp only;omega,bl _,λi d=> ?_,λ_=>⟨rfl,rfl,λj _=>by simp⟩⟩;have:=(a.gv i d).mono g;refine⟨_,?_,this⟩;have q:=sW (l:=c.toList) (i:=i) (by rw[←a.length];exact d);simpa using q
def Hw(P:Program)(o:Oper)(er:Env)(b:Nat)(v:Value)(obj:bR):Prop:=
 obj.live=true/\obj.ro=false/\∀(μ:Mu) (hc:Heap) (w:World) (a:Act),R P μ hc w->cW μ er a.tmps->∃v' mobj w' k,(execOp a.eval o).run P w= .ok (.value v') w'∧Same w w'∧w'.heap=w.heap.push mobj/\k.r=w.heap.size∧
  ∀μ':Mu,(∀b k,μ b=some k->μ' b=some k)->μ' b=some k->VR μ' v v'∧OR P μ' w' b obj
theorem QZ{I:AOp}{E:Env}(A:dK I=true)(b:ig P o.op=some I)(d:aop h base E I=some (.val v h1)):∃obj,h1=h.push obj/\Hw P o E h.next v obj:=by
 unfold ig at b;split at b
 ·rename_i hall;cases hop:o.op<;>rw[hop]at b hall<;>(try dsimp only at b)<;>(try (cases b;done))
  case alloc t=>
   split at b
   ·rename_i z D;split at b
    ·rename_i hs;cases b;cases d;refine⟨_,rfl,rfl,rfl,λμ b w a u m=> ?_⟩;have S:LR μ (cellsOf z) z.cells.toList:=Dl hs;refine⟨.pointer (some ⟨w.heap.size,0,none⟩), .cells z.cells t,{w with heap:=w.heap.push (.cells z.cells t)},⟨w.heap.size,0,z.cells.size,1⟩,?_,⟨rfl,rfl,rfl,by first|exact bl _|exact ww _ _⟩,rfl,rfl,λμ' y e=>⟨VR.ptr (o:=0) e,CK rfl S y e⟩⟩;simp[execOp,hop,Instr.alloc,eH D,newVar,iF]
    ·cases b
   ·cases b
  case box t x=>
   cases b;obtain⟨xv,Z,hh⟩:=aA d;cases hh;refine⟨_,rfl,rfl,rfl,λμ b w a u m=> ?_⟩;have H:ev b E x=some xv:=by rw[←wQ (h:=h) (h':=b) A];exact Z
   have hx:aN P x=true:=by simpa[Op.operands]using hall
   have S:LR μ (cellsOf xv) (a.eval x).cells.toList:=uk (cV u m hx H);refine⟨.pointer (some ⟨w.heap.size,0,none⟩), .cells (a.eval x).cells t,{w with heap:=w.heap.push (.cells (a.eval x).cells t)},⟨w.heap.size,0,(a.eval x).cells.size,1⟩,?_,⟨rfl,rfl,rfl,by first|exact bl _|exact ww _ _⟩,rfl,rfl,λμ' y e=>⟨VR.ptr (o:=0) e,CK rfl S y e⟩⟩;simp[execOp,hop,Instr.box,newVar,iF]
  case makeMap t r=>
   have a8:∀(J:Option Value),(J=none∨∃k n kt el,J=some (.int k n)/\P.underlying t=some (.map kt el))->∀w:World,(Instr.makeMap t J).run P w= .ok (.map (some w.heap.size)) {w with heap:=w.heap.push (.map #[] 0)}:=λJ X w=>by
    rcases X with rfl|⟨k,n,kt,el,rfl,hd⟩
    ·simp[Instr.makeMap,newObj,Sem.run]
    ·simp only[Instr.makeMap,go,run_underlying hd,ci];simp[asInt,asIntOf,newObj,Sem.run]
   have fin:I= .mkMap->(∀a:Act,(r.map a.eval)=none∨∃k n kt el,(r.map a.eval)=some (.int k n)/\P.underlying t=some (.map kt el))->∃obj,h1=h.push obj/\Hw P o E h.next v obj:=λN X=>by
    subst N;cases d;refine⟨_,rfl,rfl,rfl,λμ b w a u m=> ?_⟩;refine⟨.map (some w.heap.size), .map #[] 0,{w with heap:=w.heap.push (.map #[] 0)},⟨w.heap.size,0,0,0⟩,?_,⟨rfl,rfl,rfl,by first|exact bl _|exact ww _ _⟩,rfl,rfl,λμ' y e=>⟨VR.map e,λk hk=> ?_⟩⟩
    ·simp[execOp,hop,a8 _ (X a)]
    ·rw[e]at hk;cases hk;exact⟨#[],0,by simp, .nil,List.nodup_nil,λn A=>by cases A⟩
   cases r with
   |none=>exact fin (by cases b;rfl) λa=> .inl rfl
   |some r=>
    cases r<;>(try dsimp only at b)<;>(try (cases b;done))
    rename_i c;cases c<;>(try dsimp only at b)<;>(try (cases b;done))
    rename_i k n;split at b
    ·rename_i kt el hd;exact fin (by cases b;rfl) λa=> .inr ⟨k,n,kt,el,rfl,hd⟩
    ·cases b
  case buildSlice t n ps=>
   have W:∀p∈ps.toList,aN P p.2=true:=λp hp=>List.all_eq_true.1 hall p.2 (by simpa[Op.operands]using⟨p.1,by simpa using hp⟩);split at b
   ·rename_i el hd;split at b
    ·rename_i s z hs D;split at b
     ·rename_i hcc;obtain⟨qs,hq,rfl⟩:=ff b;simp only[aop]at d;split at d
      ·rename_i cs hcs;cases d;refine⟨_,rfl,rfl,rfl,λμ b w a u m=> ?_⟩;have a7:z.cells.size=s:=by rw[IU,←cA];exact hcc.2.1
       have g:LR μ (eS n (cellsOf z)) ((Array.range (n*s)).map (z.cells[· % z.cells.size]!)).toList:=by
        have:=CJ (μ:=μ) hcc.2.2.2 n;rw[a7]at this⊢;exact this
       have F:j6 b E (eS n (cellsOf z)) qs=some cs:=by rw[←yb (h:=h) (h':=b) A];exact hcs
       obtain⟨C,M,g2⟩:=wR u m W hq g F;have V:n<UNK:=by
        have:=Nat.le_mul_of_pos_right n (A3 hcc.2.2.1);have:=hcc.1;unfold UNK;omega
       refine⟨.slice (some ⟨w.heap.size,0,none⟩) n n, .cells C el,{w with heap:=w.heap.push (.cells C el)},⟨w.heap.size,0,C.size,bM (cellsOf z)⟩,?_,⟨rfl,rfl,rfl,by first|exact bl _|exact ww _ _⟩,rfl,rfl,λμ' y e=>⟨VR.slice (o:=0) e V (bl _),CK rfl g2 y e⟩⟩;simp only[execOp,hop,go];have ae:=hcc.1;simp only[Instr.buildSlice,go,run_underlying hd,ci,run_sizeOf hs,if_neg (show¬n*s>2 ^ 24 by omega),vz];by_cases h0:n*s=0
       ·rw[if_pos h0];have:n=0:=by
         rcases Nat.mul_eq_zero.1 h0 with h|h
         ·exact h
         ·exact absurd h hcc.2.2.1
        subst this;simp only[J0,show Array.range 0= #[]from rfl,Array.map_empty]at M;simp only[J0,show Array.range 0= #[]from rfl,Array.map_empty,hK,ci,M,go,iF]
       ·rw[if_neg h0];simp only[go,eH D,ci,hK,M,iF]
      ·cases d
     ·cases b
    ·cases b
   ·cases b
  case makeSlice t l c=>
   split at b
   ·rename_i el hd;split at b
    ·rename_i s z bytes hs D hby;split at b
     ·rename_i hcc;cases b;simp only[dK]at A;obtain⟨T,U⟩:=wq A;simp only[aop]at d;split at d
      ·rename_i lv cv hlv hcv;split at d
       ·rename_i ln cn hln hcn;simp only[ble_eq,blt_eq,cond_eq_ite,dk,decide_eq_true_eq]at d;split at d
        ·rename_i hcond;obtain⟨⟨c1,c2⟩,c3⟩:=hcond;cases d;refine⟨_,rfl,rfl,rfl,λμ b w a u m=> ?_⟩;have f:aN P l=true/\aN P c=true:=by simpa[Op.operands]using hall
         obtain⟨kl,L⟩:=qQ (cV u m f.1 (by rw[←wQ (h:=h) (h':=b) T];exact hlv)) hln;obtain⟨kc,K⟩:=qQ (cV u m f.2 (by rw[←wQ (h:=h) (h':=b) U];exact hcv)) hcn;obtain⟨i,Q,D⟩:=sA D;have Y:i.size=s:=by
          obtain⟨j,G,q⟩:=sk hs;rw[Q]at G;cases G;exact q
         have O:i.bytes=bytes:=by
          simp only[mI,xn]at hby;obtain⟨j,G,q⟩:=hby;rw[Q]at G;cases G;exact q
         have B:z.cells.size=s:=by rw[IU,←cA];exact hcc.1
         have g:LR μ (eS cn (cellsOf z)) (madeCells z.cells ((cn:Int).toNat*i.size)).toList:=by
          have:=CJ (μ:=μ) hcc.2.2 cn;rw[B]at this;unfold madeCells;rw[B,Y,QP];exact this
         refine⟨.slice (some ⟨w.heap.size,0,none⟩) ln cn, .cells (madeCells z.cells ((cn:Int).toNat*i.size)) el,{w with heap:=w.heap.push (.cells (madeCells z.cells ((cn:Int).toNat*i.size)) el)},⟨w.heap.size,0,(madeCells z.cells ((cn:Int).toNat*i.size)).size,bM (cellsOf z)⟩,?_,⟨rfl,rfl,rfl,by first|exact bl _|exact ww _ _⟩,rfl,rfl,λμ' y e=>⟨VR.slice (o:=0) e c3 c1,CK rfl g y e⟩⟩;simp only[execOp,hop,L,K];simp only[go];rw[run_make w t el i z hd Q D kl kc ln cn (by omega) (by omega) (by rw[O,←Int.natCast_mul];omega) (by unfold UNK at c3;omega)];rfl
        ·cases d
       ·cases d
      ·cases d
     ·cases b
    ·cases b
   ·cases b
  all_goals
   exfalso;repeat' split at b
   all_goals first
    |contradiction
    |(cases b;done)
    |(cases b;simp[dK]at A;done)
    |(obtain⟨_,_,rfl⟩:=ff b;simp[dK]at A;done)
 ·cases b
theorem R.late(d:R P μ h w){v:Obj}{o:bR}(t:w'.heap=w.heap.push v)(J:k.r=w.heap.size)(hb:h.get b=some o)(s:μ b=none)(B:P.globals.size<=b)(ho:OR P (upd μ b k) w' b o):
 R P (upd μ b k) h w':=by
 have y:∀c i,μ c=some i→upd μ b k c=some i:=λc i a=>by
  unfold upd;rw[if_neg];exact a;intro e;subst e;rw[s]at a;cases a
 have K:=size_push t;refine⟨d.big,λg q A C=> ?_,λc q a=> ?_,d.lt,λc i a=> ?_,λc m H I u E l a n F G j f D=> ?_⟩
 ·obtain⟨u,z,x⟩:=d.lZ g q A C;exact⟨u,y _ _ z,x.1,x.2.1,x.2.2.get (fI t _ (d.dom _ _ z).2)⟩
 ·by_cases e:c=b
  ·subst e;rw[hb]at a;cases a;exact ho
  ·exact OR.mono y (by unfold upd;rw[if_neg e]) (λi p=>fI t _ (d.dom _ _ p).2) (d.obj c q a)
 ·unfold upd at a;split at a
  ·rename_i e;subst e;cases a;exact⟨d.lt _ o hb,by omega⟩
  ·have:=d.dom c i a;exact⟨this.1,by omega⟩
 ·unfold upd at j f;by_cases e1:c=b
  ·rw[if_pos e1]at j;cases j;by_cases e2:m=b
   ·exact absurd (e1.trans e2.symm) l
   ·rw[if_neg e2]at f;have:=(d.dom _ _ f).2;omega
  ·rw[if_neg e1]at j;by_cases e2:m=b
   ·rw[if_pos e2]at f;cases f;have:=(d.dom _ _ j).2;omega
   ·rw[if_neg e2]at f;exact d.lJ c m H I u E l a n F G j f D
theorem St.late{μ0:Mu}{d:Heap}{w0:World}(s:St μ0 d w0 μ h w){j:Obj}(g:w'.heap=w.heap.push j)(D:k.r=w.heap.size)(hb:d.next<=b)(y:μ b=none)(f:Same w w'):St μ0 d w0 (upd μ b k) h w':=by
 have E:=size_push g;have v:=s.le;refine⟨λx A=> ?_,by omega,λr e z=> ?_,λr e i=> ?_,λr L u=> ?_,s.same.trans f⟩
 ·unfold upd;rw[if_neg (by omega)];exact s.ext x A
 ·rw[fI g r (by omega)];exact s.keep r e z
 ·obtain⟨c,o,B,n,p,q,a,t⟩:=i;unfold upd at a;split at a
  ·cases a;omega
  ·exact s.wr r e ⟨c,o,B,n,p,q,a,t⟩
 ·obtain⟨m,l,C⟩:=s.loops r L u;exact⟨m,(fI g r (Array.getElem?_eq_some_iff.1 l).1).trans l,C⟩
theorem kZ{nt:Nat}{ops:Array Oper}:∀{l:List Oper} {as:List aZ},cD P nt ops l=some as->as.length=l.length/\∀(i:Nat) (o:Oper),l[i]? =some o->∃ao:aZ,as[i]? =some ao/\lX nt o.dst=true/\ao.dst=o.dst/\ig P o.op=some ao.op∧
 ∀{e:Env} {μ:Mu} {t:Array Value} {b:Bool},(∀s b0,ao.guard=some (s,b0)->∀v,geT e s=some v->∃v',t[s]? =some v'∧VR μ v v')->bL e ao.guard=some b->Region.wanted o (yielded ops t)=b
 |[],as,h=>by
  cases h;exact⟨rfl,λi o a=>by simp at a⟩
 |o::os,as,h=>by
  cases as with
  |nil=>
   simp only[cD]at h;repeat' split at h
   all_goals cases h
  |cons ao as=>
   obtain⟨c1,c2,c3,c4,c5⟩:=iP h;obtain⟨f,g⟩:=kZ c4;refine⟨by simp[f],λi j a=> ?_⟩;cases i with
   |zero=>simp at a;subst a;exact⟨ao,rfl,c1,c2,c3,λ{e μ t b} c d=>c5 c d⟩
   |succ i=>simpa using g i j (by simpa using a)
theorem jC:∀{l:List Nat} {n:Nat},fP l n=true↔n∈l
 |[],n=>by simp[fP]
 |x::l,n=>by
  rw[mD];simp only[q9,decide_eq_true_eq,CS,jC];exact⟨λh=>h.imp Eq.symm id,λh=>h.imp Eq.symm id⟩
structure Stat (as:List aZ) (ops:List Oper) (bf:List Nat):Prop where
 slots:∀(j p:Nat) (aj ap:aZ) (t:Nat),as[j]? =some aj->as[p]? =some ap->t∈dh aj->ap.dst=some t->p∈jT ops j∨∃m:Nat,bf[p]? =some m/\Nat.testBit m j=true
 TY:∀(j p:Nat) (aj ap:aZ) (t:Nat),as[j]? =some aj->as[p]? =some ap->aj.dst=some t->ap.dst=some t->j=p
 masks:∀(i p m:Nat),i<ops.length->p<ops.length->bf[i]? =some m->Nat.testBit m p=true->∃q∈jT ops i,p=q∨∃mq:Nat,bf[q]? =some mq/\Nat.testBit mq p=true
 Gj:∀(i:Nat) (ai:aZ),as[i]? =some ai->∀f l,ai.op≠ .kF f l
theorem DY{as:List aZ}{ops:List Oper}{a bf:List Nat}(k:as.length=ops.length)(h:xV as ops a bf=true):
 a.length=ops.length/\(∀i∈a,i<ops.length)/\(∀i,i<ops.length->i∈a)/\topoOk as ops [] a=true/\Stat as ops bf:=by
 unfold xV at h;simp only[dk,beq_eq,decide_eq_true_eq]at h;obtain⟨⟨⟨⟨⟨⟨⟨y,z⟩,A⟩,B⟩,C⟩,D⟩,E⟩,F⟩:=h;refine⟨y,λi e=>by simpa[Co]using List.all_eq_true.1 z i e,λi e=>jC.1 (List.all_eq_true.1 A i (by simpa using e)),B,⟨λj p v w t g c I o=> ?_,λj p v w t g c o r=> ?_,λi p m e c s G=> ?_,λi u n f l H=> ?_⟩⟩
 ·have b:j<ops.length:=by rw[←k];exact(List.getElem?_eq_some_iff.1 g).1
  have d:p<ops.length:=by rw[←k];exact(List.getElem?_eq_some_iff.1 c).1
  have q:=List.all_eq_true.1 C j (by simpa using b);rw[bW,g]at q;have q:=List.all_eq_true.1 q t I;have q:=List.all_eq_true.1 q p (by simpa using d);rw[bW,c]at q;simp only[o,q9,Hn,beq_eq_false_iff_ne,ne_eq,not_true_eq_false,false_or]at q;refine q.imp jC.1 λq=> ?_;rw[bW]at q;split at q
  ·rename_i m s;exact⟨m,s,q⟩
  ·cases q
 ·have b:j<ops.length:=by rw[←k];exact(List.getElem?_eq_some_iff.1 g).1
  have d:p<ops.length:=by rw[←k];exact(List.getElem?_eq_some_iff.1 c).1
  have q:=List.all_eq_true.1 D j (by simpa using b);have q:=List.all_eq_true.1 q p (by simpa using d);rw[bW,bW,g,c]at q;simp[o,r]at q;exact q
 ·have q:=List.all_eq_true.1 E i (by simpa using e);have q:=List.all_eq_true.1 q p (by simpa using c);rw[bW,s]at q;simp only[G,Hd,If,List.any_eq_true,q9,beq_eq,decide_eq_true_eq]at q;obtain⟨x,J,q⟩:=q;refine⟨x,J,q.imp id λq=> ?_⟩;rw[bW]at q;split at q
  ·rename_i mq hmq;exact⟨mq,hmq,q⟩
  ·cases q
 ·have q:=List.all_eq_true.1 F u (bz n);rw[H]at q;cases q
theorem topo_cons{as:List aZ}{ops:List Oper}{done is:List Nat}{i:Nat}(h:topoOk as ops done (i::is)=true):(∀p∈jT ops i,p∈done)/\i ∉ done/\topoOk as ops (i::done) is=true∧
 ∃ai:aZ,as[i]? =some ai/\(jM ai.op=true∨∀j∈is,∃p∈jT ops j,p∈i::is):=by
 simp only[topoOk,dk]at h;obtain⟨⟨⟨d,c⟩,a⟩,e⟩:=h;refine⟨λp b=>jC.1 (List.all_eq_true.1 d p b),λf=> ?_,e,?_⟩
 ·rw[jC.2 f]at c;cases c
 ·rw[bW]at a;split at a
  ·rename_i ai hai;refine⟨ai,hai,?_⟩;simp only[q9,GE,List.any_eq_true]at a;exact a.imp id λq j g=>let⟨p,b,hq⟩:=q j g;⟨p,b,jC.1 hq⟩
  ·cases a
theorem fG{ops:Array Oper}{a:Array Bool}{i:Nat}(hi:i∈Region.ready .any ops a):i<ops.size/\a.getD i true=false/\∀p∈jT ops.toList i,a.getD p false=true:=by
 simp only[Region.ready,List.mem_filter,List.mem_range,dk,Hn]at hi;obtain⟨e,f,c⟩:=hi;refine⟨e,f,λp b=> ?_⟩;simp only[jT,bW,Array.getElem?_toList]at b;cases ho:ops[i]? with
 |none=>rw[ho]at b;cases b
 |some o=>
  rw[ho]at b c;simp only[GB,List.mem_map,List.mem_filter,Array.mem_toList_iff]at b;obtain⟨d,⟨h,g⟩,rfl⟩:=b;simp only[Ps,Option.getD_some,Array.all_eq_true_iff_forall_mem]at c;have:=c d h;simpa[g]using this
def Lst(listed:Array Bool)(i:Nat):Prop:=listed.getD i false=true
structure V4 (P:Program) (ops:Array Oper) (as:List aZ) (base:Nat) (h0:Heap) (listed:Array Bool) (μ:Mu) (a:Act) (done:List Nat) (rs:List Rec) (e:Env) (h:Heap) (r:Rec):Prop where
 done:r.i∈done
 op:as[r.i]? =some r.o
 env:∀t v,geT r.e t=some v->t∈dh r.o/\(¬Lst listed r.i->(∃r'∈rs,¬Lst listed r'.i/\r'.o.dst=some t/\r'.v=v/\r'.i∈jT ops.toList r.i)∨
  ((∀(p:Nat) (ap:aZ),as[p]? =some ap->ap.dst=some t->p∈jT ops.toList r.i->Lst listed p)/\∃v',a.tmps[t]? =some v'∧VR μ v v'))
 dst:∀t,r.o.dst=some t->geT e t=some r.v
 kind:match r.k with
  | .skip=>bL r.e r.o.guard=some false/\r.v=undef
  | .quiet=>bL r.e r.o.guard=some true/\(∀f l,r.o.op≠ .kF f l)/\cU r.o.op=true/\aop h base r.e r.o.op=some (.val r.v h)
  | .made b=>bL r.e r.o.guard=some true/\(∀f l,r.o.op≠ .kF f l)/\∃obj o,ops[r.i]? =some o/\h.get b=some obj/\Hw P o r.e b r.v obj/\h0.next<=b/\(¬Lst listed r.i->μ b=none)
structure Inv (P:Program) (ops:Array Oper) (as:List aZ) (bf:List Nat) (base:Nat) (μ0:Mu) (h0:Heap) (w0:World) (a0:Act) (listed:Array Bool) (μ:Mu) (a:Act) (w:World) (done is:List Nat) (rs:List Rec) (e:Env) (h:Heap):Prop where
 size:listed.size=ops.size
 sub:∀i,Lst listed i->i∈done
 OF:∀i,i∈done->¬Lst listed i->∃r∈rs,r.i=i
 EG:∀(i m p:Nat),Lst listed i->bf[i]? =some m->p<ops.size->Nat.testBit m p=true->Lst listed p
 topo:topoOk as ops.toList done is=true
 closed:∀j∈done,∀p∈jT ops.toList j,p∈done
 AX:∀(j m p:Nat),j∈done->bf[j]? =some m->p<ops.size->Nat.testBit m p=true->p∈done
 lt:∀i,i∈done->i<ops.size
 all:∀i,i<ops.size->i∈done∨i∈is
 Ao:∀i,i∈is->i<ops.size
 rz:∀r∈rs,V4 P ops as base h0 listed μ a done rs e h r
 alone:∀r∈rs,∀r'∈rs,∀b,r.k= .made b->r'.k= .made b->r.i=r'.i
 rel:R P μ h w
 st:St μ0 h0 w0 μ h w
 nx0:h0.next<=h.next
 nxb:base<=h.next
 big:P.globals.size<=h0.next
 env:∀t v,geT e t=some v->(∃r∈rs,¬Lst listed r.i/\r.o.dst=some t)∨∃v',a.tmps[t]? =some v'∧VR μ v v'
 tm:a.tmps.size=a0.tmps.size
 df:a.defers=a0.defers
variable {ops:Array Oper} {as:List aZ} {bf:List Nat} {base:Nat} {μ0 μ:Mu} {h0 h:Heap} {w0 w:World} {a0 a:Act} {listed:Array Bool} {done is:List Nat} {rs:List Rec} {e:Env} {i:Nat}
theorem Lst.set{i j:Nat}(hi:i<listed.size):Lst (listed.setIfInBounds i true) j↔(j=i∨Lst listed j):=by
 unfold Lst;simp only[ut,gy];by_cases h:i=j
 ·subst h;simp[hi]
 ·simp[h,Ne.symm h]
variable{m:Nat}
theorem Inv.before(hI:Inv P ops as bf base μ0 h0 w0 a0 listed μ a w done is rs e h)(f:Stat as ops.toList bf){i:Nat}(hi:i∈Region.ready .any ops listed)(hb:bf[i]? =some m){p:Nat}(d:p<ops.size)(j:Nat.testBit m p=true):Lst listed p:=by
 obtain⟨q,g,c⟩:=f.masks i p m (by simpa using(fG hi).1) (by simpa using d) hb j;have b:=(fG hi).2.2 q g;rcases c with rfl|⟨mq,h1,h2⟩
 ·exact b
 ·exact hI.EG q mq p b h1 d h2
variable{t:Nat}
theorem Inv.fresh(hI:Inv P ops as bf base μ0 h0 w0 a0 listed μ a w done (i::is) rs e h)(C:Stat as ops.toList bf){k:aZ}(n:as[i]? =some k)(D:t∈dh k)(z:geT e t=some v):
 (∃b∈rs,¬Lst listed b.i/\b.o.dst=some t/\b.v=v/\b.i∈jT ops.toList i)∨((∀(p:Nat) (l:aZ),as[p]? =some l->l.dst=some t->p∈jT ops.toList i->Lst listed p)/\∃v',a.tmps[t]? =some v'∧VR μ v v'):=by
 obtain⟨E,F,_⟩:=topo_cons hI.topo;have jh:∀b∈rs,b.o.dst=some t->b.v=v/\b.i∈jT ops.toList i:=λb x j=>by
  have d:=hI.rz b x;have c:=d.dst t j;rw[z]at c;injection c with c
  refine⟨c.symm,?_⟩;rcases C.slots i b.i k b.o t n d.op D j with q|⟨m,q1,q2⟩
  ·exact q
  ·exact(F (hI.AX b.i m i d.done q1 (hI.Ao i (bx ..)) q2)).elim
 by_cases hp:∃b∈rs,¬Lst listed b.i/\b.o.dst=some t
 ·obtain⟨b,c,f,g⟩:=hp;obtain⟨A,B⟩:=jh b c g;exact .inl ⟨b,c,f,g,A,B⟩
 ·right;refine⟨λp l s j u=>Classical.byContradiction λy=> ?_,?_⟩
  ·obtain⟨b,c,f⟩:=hI.OF p (E p u) y;have:=(hI.rz b c).op;rw[f,s]at this;injection this with this
   exact hp ⟨b,c,by rw[f];exact y,by rw[←this];exact j⟩
  ·rcases hI.env t v z with⟨r,c,f,g⟩|q
   ·exact(hp ⟨r,c,f,g⟩).elim
   ·exact q
theorem Inv.look(hI:Inv P ops as bf base μ0 h0 w0 a0 listed μ a w done (i::is) rs e h)(k:Stat as ops.toList bf)(hi:i∈Region.ready .any ops listed){d:aZ}(b:as[i]? =some d){f:Env}
 (c:∀t v,geT f t=some v->t∈dh d/\geT e t=some v):cW μ f a.tmps:=by
 intro t v l;obtain⟨g,j⟩:=c t v l;rcases hI.fresh k b g j with⟨r',q1,q2,q3,q4,q5⟩|⟨_,q⟩
 ·exact(q2 ((fG hi).2.2 _ q5)).elim
 ·exact q
theorem Inv.XV(hI:Inv P ops as bf base μ0 h0 w0 a0 listed μ a w done is rs e h){r:Rec}(hr:r∈rs)(hi:r.i∈Region.ready .any ops listed)(b:¬Lst listed r.i):cW μ r.e a.tmps:=by
 intro t v c;rcases((hI.rz r hr).env t v c).2 b with⟨r',q1,q2,q3,q4,q5⟩|⟨_,q⟩
 ·exact(q2 ((fG hi).2.2 _ q5)).elim
 ·exact q
theorem oE{i:Nat}(d:listed.size=ops.size)(hi:i∈Region.ready .any ops listed):i<listed.size/\¬Lst listed i:=by
 obtain⟨c,b,_⟩:=fG hi;have a:i<listed.size:=by omega
 refine⟨a,λh=> ?_⟩;unfold Lst at h;simp[ut,a]at h b;rw[h]at b;cases b
theorem Inv.took(hI:Inv P ops as bf base μ0 h0 w0 a0 listed μ a w done is rs e h)(T:Stat as ops.toList bf){i:Nat}(hi:i∈Region.ready .any ops listed){r:Rec}(hr:r∈rs)(y:r.i=i)(g:r.o.dst=dst)
 (M:lX nt dst=true)(aw:nt<=a.tmps.size)(hv:VR μ' r.v v')(hR:R P μ' h w')(W:St μ0 h0 w0 μ' h w')(hm:∀b k,μ b=some k->μ' b=some k)
 (a8:∀s∈rs,s.i≠i->¬Lst listed s.i->∀b,s.k= .made b->μ b=none->μ' b=none):Inv P ops as bf base μ0 h0 w0 a0 (listed.setIfInBounds i true) μ' (a.put dst v') w' done is rs e h:=by
 obtain⟨Z,a7⟩:=oE hI.size hi;have c:∀j,Lst (listed.setIfInBounds i true) j↔(j=i∨Lst listed j):=λj=>Lst.set Z;have f:=hI.rz r hr;refine⟨by simpa using hI.size,λj I=> ?_,λj I C=> ?_,λj m p I H hp hb=> ?_,hI.topo,hI.closed,hI.AX,hI.lt,hI.all,hI.Ao,λs O=> ?_,hI.alone,hR,W,hI.nx0,hI.nxb,hI.big,λt v S=> ?_,by rw[dP];exact hI.tm,by rw[put_defers];exact hI.df⟩
 ·rcases(c j).1 I with rfl|h
  ·rw[←y];exact f.done
  ·exact hI.sub j h
 ·exact hI.OF j I λh=>C ((c j).2 (.inr h))
 ·refine(c p).2 ?_;rcases(c j).1 I with rfl|h
  ·obtain⟨q,hq,ae⟩:=T.masks j p m (by simpa using(fG hi).1) (by simpa using hp) H hb;have J:=(fG hi).2.2 q hq;rcases ae with rfl|⟨mq,x,E⟩
   ·exact .inr J
   ·exact .inr (hI.EG q mq p J x hp E)
  ·exact .inr (hI.EG j m p h H hp hb)
 ·have l:=hI.rz s O;refine⟨l.done,l.op,λt u hu=> ?_,l.dst,?_⟩
  ·obtain⟨q0,q⟩:=l.env t u hu;refine⟨q0,λC=> ?_⟩;have K:s.i≠i:=λe=>C ((c _).2 (.inl e));have n:¬Lst listed s.i:=λe=>C ((c _).2 (.inr e));rcases q n with⟨r2,A,G,D,U,k5⟩|⟨A,v2,G,D⟩
   ·by_cases E:r2.i=i
    ·right;have L:r2.o=r.o:=by
      have x:=(hI.rz r2 A).op;rw[E,←y,f.op]at x;injection x with x;exact x.symm
     rw[L,g]at D;subst D;have am:r.v=u:=by
      have x:=f.dst t g;have z:=(hI.rz r2 A).dst t (by rw[L];exact g);rw[x]at z;injection z with z
      rw[z,U]
     refine⟨λp V B X N=>(c p).2 (.inl ?_),v',?_,am▸hv⟩
     ·exact T.TY p i V r.o t B (by rw[←y];exact f.op) X g
     ·simp only[lX,Co]at M;rw[ij];simp[gy,show t<a.tmps.size by omega]
    ·exact .inl ⟨r2,A,λh=>((c _).1 h).elim E G,D,U,k5⟩
   ·right;refine⟨λp V B X N=>(c p).2 (.inr (A p V B X N)),v2,?_,D.mono hm⟩;rw[ij];cases hdd:dst with
    |none=>exact G
    |some d=>
     have Y:d≠t:=λh=>by
      subst h;have Q:r.o.dst=some d:=by rw[g,hdd]
      rcases T.slots s.i i s.o r.o d l.op (by rw[←y];exact f.op) q0 Q with q|⟨m,q1,q2⟩
      ·exact a7 (A i r.o (by rw[←y];exact f.op) Q q)
      ·exact n (hI.before T hi q1 (hI.lt _ l.done) q2)
     simp[gy,Y,G]
  have F:=l.kind;cases hrk:s.k with
  |skip=>rw[hrk]at F;exact F
  |quiet=>rw[hrk]at F;exact F
  |made b=>
   rw[hrk]at F;obtain⟨A,G,ar,o,D,U,k5,k6,k7⟩:=F;refine⟨A,G,ar,o,D,U,k5,k6,λC=> ?_⟩;have K:s.i≠i:=λe=>C ((c _).2 (.inl e));have n:¬Lst listed s.i:=λe=>C ((c _).2 (.inr e));exact a8 s O K n b hrk (k7 n)
 ·by_cases ht:dst=some t
  ·right;have:=f.dst t (by rw[g];exact ht);rw[S]at this;cases this;subst ht;simp only[lX,Co]at M;refine⟨v',?_,hv⟩;rw[ij];simp[gy,show t<a.tmps.size by omega]
  ·rcases hI.env t v S with⟨s,q1,q2,q3⟩|⟨v2,q1,q2⟩
   ·left;refine⟨s,q1,λh=> ?_,q3⟩;rcases(c _).1 h with h|h
    ·have l:=hI.rz s q1;have:s.o=r.o:=by
      have x:=l.op;have E:=f.op;rw[h,←y,E]at x;injection x with x;exact x.symm
     rw[this,g]at q3;exact ht q3
    ·exact q2 h
   ·right;refine⟨v2,?_,q2.mono hm⟩;rw[ij];cases dst with
    |none=>exact q1
    |some d=>
     have:d≠t:=λh=>ht (by rw[h]);simp[gy,this,q1]
variable{rd:Option Nat}
theorem Inv.jh(hI:Inv P ops as bf base μ0 h0 w0 a0 listed μ a w done is rs e h)(H:Stat as ops.toList bf)(l:nt<=a.tmps.size)(N:cD P nt ops ops.toList=some as){i:Nat}(hi:i∈Region.ready .any ops listed)(hd:i∈done)
 (G:∀μ' a' y,Inv P ops as bf base μ0 h0 w0 a0 (listed.setIfInBounds i true) μ' a' y done is rs e h->K a' y):wpOpIn (Fw rd) 0 P ops Q i K a w:=by
 obtain⟨a8,j⟩:=oE hI.size hi;obtain⟨r,n,d⟩:=hI.OF i hd j;have x:=hI.rz r n;have O:i<ops.size:=(fG hi).1;obtain⟨o,T⟩:∃o,ops[i]? =some o:=⟨ops[i],by simp[O]⟩;obtain⟨ao,h1,C,D,E,c5⟩:=(kZ N).2 i o (by simpa using T);have I:ao=r.o:=by
  have:=x.op;rw[d,h1]at this;injection this
 subst I;have F:cW μ r.e a.tmps:=hI.XV n (by rw[d];exact hi) (by rw[d];exact j);have U:∀b,bL r.e r.o.guard=some b->Region.wanted o (yielded ops a.tmps)=b:=λb J=>c5 (λs _ _ v hv=>F s v hv) J;have g:=x.kind;unfold wpOpIn;simp only[T];cases hrk:r.k with
 |skip=>
  rw[hrk]at g;rw[U _ g.1];simp only[xj,if_false];refine⟨λ_ _=>gT,G μ _ _ ?_⟩;exact hI.took H hi n d D C l (by rw[g.2];exact(VR.cO (v:=undef) rfl).1) hI.rel hI.st (λ_ _ h=>h) (λ_ _ _ _ _ _ h=>h)
 |quiet=>
  rw[hrk]at g;obtain⟨W,X,_,A⟩:=g;rw[U _ W];simp only[if_true];refine⟨λ_ _=>gT,?_⟩;rw[Oper.semAt_eq _ _ _ (uJ E X)];refine zN (Ik hI.rel F E A) λμ' v' y Z B p=>G μ' _ _ ?_;have z:=p.mono hI.rel;refine hI.took H hi n d D C l Z B (hI.st.trans p hI.nx0) z λr' m _ u b J f=> ?_;have t:=(hI.rz r' m).kind;rw[J]at t;obtain⟨_,_,Y,_,_,hg,_⟩:=t;rw[p.ext b (hI.rel.lt b _ hg)];exact f
 |made b=>
  rw[hrk]at g;obtain⟨W,X,Y,o',A,k4,k5,k6,k7⟩:=g;rw[d,T]at A;cases A;rw[U _ W];simp only[if_true];refine⟨λ_ _=>gT,?_⟩;rw[Oper.semAt_eq _ _ _ (uJ E X)];obtain⟨v',a7,y,k,Z,qs,B,p,q4⟩:=k5.2.2 μ h w a hI.rel F;have f:=k7 (by rw[d];exact j);have z:∀c V,μ c=some V→upd μ b k c=some V:=λc V M=>by
   unfold upd;rw[if_neg];exact M;intro e;subst e;rw[f]at M;cases M
  obtain⟨s1,s2⟩:=q4 (upd μ b k) z (fE _ _ _);rw[Z];refine G (upd μ b k) _ y ?_;refine hI.took H hi n d D C l s1 (hI.rel.late B p k4 f (ed hI.big k6) s2) (hI.st.late B p k6 f qs) z λr' m S u b' L q=> ?_;unfold upd;rw[if_neg]
  ·exact q
  ·intro e;subst e;exact S ((hI.alone r' m r n b' L hrk).trans d)
theorem rH:∀{a b:List Value},(∀x∈a,∀y,kH x y=true->x=y)->kI a b=true->a=b
 |[],[],_,_=>rfl
 |[],_::_,_,h=>by simp[kI]at h
 |_::_,[],_,h=>by simp[kI]at h
 |x::xs,y::ys,hx,h=>by
  simp only[kI,cond_eq_ite]at h;split at h
  ·rename_i h1;rw[hx x (by simp) y h1,rH (λz hz=>hx z (by simp[hz])) h]
  ·cases h
theorem I3{a b:ByteArray}(h:a.data.toList=b.data.toList):a=b:=by
 obtain⟨⟨x⟩⟩:=a;obtain⟨⟨y⟩⟩:=b;simp at h;rw[h]
variable{y:Value}
theorem rG(h:kH x y=true):x=y:=by
 unfold kH at h;split at h<;>(try simp only[dk,beq_iff_eq]at h)
 all_goals first
  |rfl
  |(cases h;done)
  |(subst h;rfl)
  |(obtain⟨a,b⟩:=h;subst a;subst b;rfl)
  |(rw[I3 h];done)
  |(obtain⟨⟨a,b⟩,c⟩:=h;subst a;subst b;subst c;rfl)
theorem uT(h:jb x y=true):x=y:=by
 unfold jb at h;split at h
 ·rw[eY (rH (λ_ _ _ h=>rG h) h)]
 ·rw[eY (rH (λ_ _ _ h=>rG h) h)]
 ·simp only[dk,beq_iff_eq]at h;obtain⟨a,b,c⟩:=h;rw[a,eY (rH (λ_ _ _ h=>rG h) b),eY (rH (λ_ _ _ h=>rG h) c)]
 ·exact rG h
theorem Ax(i:cU f=true)(h1:aop h base e f=some (.val v h')):h'=h∨∃o,h'=h.push o:=by
 have j:∀{size:Nat} {a:Option Addr} {len cap:Nat} {lo hi mx:Option Operand},ia h e size a len cap lo hi mx=some (v,h')->h'=h∨∃o,h'=h.push o:=λd=>by
  unfold ia at d;simp only[cond_eq_ite]at d;repeat' split at d
  all_goals first
   |(cases d;done)
   |(cases d;exact .inl rfl)
   |(cases d;exact .inr ⟨_,rfl⟩)
 have g:∀{x:Option (Value×Heap)},fS x=some (.val v h')->x=some (v,h'):=λd=>lH d;cases f<;>(try (simp[cU]at i;done))
 case mov=>obtain⟨v,_,b⟩:=aA h1;cases b;exact .inl rfl
 case iT=>obtain⟨v,_,b⟩:=aA h1;cases b;exact .inl rfl
 case un=>obtain⟨v,_,b⟩:=aA h1;obtain⟨v,_,b⟩:=aA b;cases b;exact .inl rfl
 case load=>obtain⟨v,_,b⟩:=aA h1;obtain⟨v,_,b⟩:=aA b;cases b;exact .inl rfl
 case conv c x=>
  obtain⟨l,_,b⟩:=aA h1;have b:=g b;unfold xR at b;repeat' split at b
  all_goals first
   |(cases b;done)
   |(cases b;exact .inl rfl)
   |(cases b;exact .inr ⟨_,rfl⟩)
 case cM=>
  obtain⟨v,_,b⟩:=aA h1;split at b<;>cases b;exact .inl rfl
 case bin op x y=>
  cases op;case num=>
   obtain⟨v,_,b⟩:=aA h1;obtain⟨v,_,b⟩:=aA b;obtain⟨v,_,b⟩:=aA b;cases b;exact .inl rfl
  case beq=>simp only[aop]at h1;split at h1<;>cases h1;exact .inl rfl
  case nil=>
   obtain⟨v,_,b⟩:=aA h1;obtain⟨v,_,b⟩:=aA b;split at b<;>cases b;exact .inl rfl
  case agg=>
   obtain⟨v,_,b⟩:=aA h1;obtain⟨v,_,b⟩:=aA b;split at b
   ·split at b<;>cases b;exact .inl rfl
   ·cases b
 case pick=>
  simp only[aop]at h1;split at h1
  ·obtain⟨v,_,b⟩:=aA h1;cases b;exact .inl rfl
  ·obtain⟨v,_,b⟩:=aA h1;cases b;exact .inl rfl
  ·cases h1
 case slice k x lo hi mx=>
  cases k<;>cases mx<;>simp only[aop]at h1
  ·repeat' split at h1
   all_goals first|(cases h1;done)|skip
   simp only[cond_eq_ite,b7]at h1;obtain⟨_,h1⟩:=h1;cases h1;exact .inl rfl
  ·cases h1
  all_goals
   split at h1
   ·exact j (g h1)
   ·cases h1
 case len k x=>
  match k with
  |0=>simp only[aop]at h1;split at h1<;>cases h1;exact .inl rfl
  |1=>simp only[aop]at h1;split at h1<;>cases h1;exact .inl rfl
  |k+2=>
   simp only[aop]at h1;split at h1
   ·cases h1;exact .inl rfl
   ·split at h1<;>cases h1;exact .inl rfl
   ·cases h1
 case cQ=>simp only[aop]at h1;repeat' split at h1
          all_goals first|(cases h1;done)|(simp only[cond_eq_ite,b7]at h1;obtain⟨_,h1⟩:=h1;cases h1;exact .inl rfl)
 case aD=>simp only[aop]at h1;repeat' split at h1
          all_goals first|(cases h1;done)|(simp only[cond_eq_ite,b7]at h1;obtain⟨_,h1⟩:=h1;cases h1;exact .inl rfl)
 case nN=>cases h1;exact .inl rfl
 all_goals
  revert h1;simp only[aop,cond_eq_ite];intro h1;repeat' split at h1
  all_goals first
   |(cases h1;done)
   |(cases h1;exact .inl rfl)
   |(obtain⟨v,_,b⟩:=aA h1;cases b;exact .inl rfl)
def xu(P:Program)(ops:Array Oper)(base:Nat)(h0:Heap)(listed:Array Bool)(μ:Mu)(h:Heap)(r:Rec):Prop:=
 match r.k with
  | .skip=>bL r.e r.o.guard=some false/\r.v=undef
  | .quiet=>bL r.e r.o.guard=some true/\(∀f l,r.o.op≠ .kF f l)/\cU r.o.op=true/\aop h base r.e r.o.op=some (.val r.v h)
  | .made b=>bL r.e r.o.guard=some true/\(∀f l,r.o.op≠ .kF f l)/\∃obj o,ops[r.i]? =some o/\h.get b=some obj/\Hw P o r.e b r.v obj/\h0.next<=b/\(¬Lst listed r.i->μ b=none)
theorem mB:∀{l:List Nat} {t:Nat} {v:Value},geT (bU e l) t=some v->t∈l/\geT e t=some v
 |[],_,_,h=>by simp[bU,geT]at h
 |x::l,t,v,h=>by
  simp only[bU]at h;split at h
  ·rename_i u hu;simp only[geT,cond_eq_ite,beq_eq,decide_eq_true_eq]at h;split at h
   ·rename_i e;subst e;cases h;exact⟨by simp,hu⟩
   ·have:=mB h;exact⟨by simp[this.1],this.2⟩
  ·have:=mB h;exact⟨by simp[this.1],this.2⟩
theorem ux{d:Option Nat}:geT (cC e d v) t=if d=some t then some v else geT e t:=by
 cases d with
 |none=>simp[cC]
 |some x=>simp[cC,geT,cond_eq_ite,beq_eq]
theorem Inv.adv{i:Nat}(hI:Inv P ops as bf base μ0 h0 w0 a0 listed μ a w done (i::is) rs e h)(J:Stat as ops.toList bf){s:aZ}(x:as[i]? =some s){k:Rk}{f:Heap}(W:R P μ f w)(K:St μ0 h0 w0 μ f w)(B:h.next<=f.next)
 (X:xu P ops base h0 listed μ f ⟨i,s,bU e (dh s),v,k⟩)(M:∀r∈rs,xu P ops base h0 listed μ f r)(F:∀b,k= .made b->∀r∈rs,r.k≠ .made b):
 Inv P ops as bf base μ0 h0 w0 a0 listed μ a w (i::done) is (⟨i,s,bU e (dh s),v,k⟩::rs) (cC e s.dst v) f:=by
 obtain⟨T,V,Y,_⟩:=topo_cons hI.topo;have N:¬Lst listed i:=λh=>V (hI.sub i h);refine⟨hI.size,λj c=>bu _ (hI.sub j c),λj c B=> ?_,hI.EG,Y,λj c p C=> ?_,λj m p c A C n=> ?_,λj c=> ?_,λj c=> ?_,λj c=>hI.Ao j (bu _ c),λr g=> ?_,λr g E l b A y=> ?_,W,K,ed hI.nx0 B,ed hI.nxb B,hI.big,λt u z=> ?_,hI.tm,hI.df⟩
 ·rcases List.mem_cons.1 c with rfl|c
  ·exact⟨_,bx ..,rfl⟩
  ·obtain⟨r,I,f⟩:=hI.OF j c B;exact⟨r,bu _ I,f⟩
 ·rcases List.mem_cons.1 c with rfl|c
  ·exact bu _ (T p C)
  ·exact bu _ (hI.closed j c p C)
 ·rcases List.mem_cons.1 c with rfl|c
  ·obtain⟨q,U,O⟩:=J.masks j p m (by simpa using hI.Ao j (bx ..)) (by simpa using C) A n;rcases O with rfl|⟨mq,I,f⟩
   ·exact bu _ (T p U)
   ·exact bu _ (hI.AX q mq p (T q U) I C f)
  ·exact bu _ (hI.AX j m p c A C n)
 ·rcases List.mem_cons.1 c with rfl|c
  ·exact hI.Ao _ (bx ..)
  ·exact hI.lt j c
 ·rcases hI.all j c with h|h
  ·exact .inl (bu _ h)
  ·rcases List.mem_cons.1 h with rfl|h
   ·exact .inl (bx ..)
   ·exact .inr h
 ·rcases List.mem_cons.1 g with rfl|g
  ·refine⟨bx ..,x,λt u z=> ?_,λt H=> ?_,X⟩
   ·obtain⟨D,G⟩:=mB z;refine⟨D,λ_=> ?_⟩;rcases hI.fresh J x D G with⟨E,Q,S⟩|k
    ·exact .inl ⟨E,bu _ Q,S⟩
    ·exact .inr k
   ·rw[ux,if_pos H]
  ·have d:=hI.rz r g;refine⟨bu _ d.done,d.op,λt u z=> ?_,λt H=> ?_,M r g⟩
   ·obtain⟨D,G⟩:=d.env t u z;refine⟨D,λB=>(G B).imp (λ⟨E,Q,S⟩=>⟨E,bu _ Q,S⟩) id⟩
   ·rw[ux,if_neg]
    ·exact d.dst t H
    ·intro L;have:=J.TY r.i i r.o s t d.op x H L;exact V (this▸d.done)
 ·rcases List.mem_cons.1 g with rfl|g<;>rcases List.mem_cons.1 l with rfl|l
  ·rfl
  ·exact(F b A E l y).elim
  ·exact(F b y r g A).elim
  ·exact hI.alone r g E l b A y
 ·rw[ux]at z;split at z
  ·rename_i L;exact .inl ⟨_,bx ..,N,L⟩
  ·rcases hI.env t u z with⟨r,D,G,q3⟩|q
   ·exact .inl ⟨r,bu _ D,G,q3⟩
   ·exact .inr q
theorem pK{e:Heap}{log:List Nat}{mask:Nat}:∀{rs b:List Rec},bQ e base log mask rs=some b→
 (∀r∈b,r∈rs/\tD e base r=true/\JX log r=true)/\∀r∈rs,Nat.testBit mask r.i=false->r∈b
 |[],b,h=>by cases h;exact⟨λr hr=>(by cases hr),λr hr=>(by cases hr)⟩
 |r::rs,b,h=>by
  simp only[bQ,cond_eq_ite]at h;split at h
  ·rename_i hb;obtain⟨d,f⟩:=pK h;refine⟨λx a=>⟨bu _ (d x a).1,(d x a).2⟩,λx a c=> ?_⟩;rcases List.mem_cons.1 a with rfl|a
   ·rw[hb]at c;cases c
   ·exact f x a c
  ·split at h
   ·rename_i hc;simp only[dk]at hc;split at h
    ·rename_i rs2 e;cases h;obtain⟨d,f⟩:=pK e;refine⟨λx a=> ?_,λx a c=> ?_⟩
     ·rcases List.mem_cons.1 a with rfl|a
      ·exact⟨bx ..,hc⟩
      ·exact⟨bu _ (d x a).1,(d x a).2⟩
     ·rcases List.mem_cons.1 a with rfl|a
      ·exact bx ..
      ·exact bu _ (f x a c)
    ·cases h
   ·cases h
theorem Iw{b:Heap}{r:Rec}(a:tD b base r=true)(f:r.k= .quiet)(c:cU r.o.op=true):aop b base r.e r.o.op=some (.val r.v b):=by
 unfold tD at a;rw[f]at a;simp only at a;split at a
 ·rename_i v' h3 hv;simp only[dk,beq_eq,decide_eq_true_eq]at a;have d:=uT a.1;rcases Ax c hv with rfl|⟨o,rfl⟩
  ·rw[hv,d]
  ·exact absurd a.2 (by show¬b.next+1=b.next;omega)
 ·cases a
theorem Inv.bar{i mask:Nat}(hI:Inv P ops as bf base μ0 h0 w0 a0 listed μ a w done (i::is) rs e h)(O:Stat as ops.toList bf)(hi:i∈Region.ready .any ops listed){y:aZ}(Q:as[i]? =some y)(S:bf[i]? =some mask)
 (W:lX nt y.dst=true)(cf:nt<=a.tmps.size){C:Heap}{log:List Nat}{Y:List Rec}(hv:VR μ' v v')(hR:R P μ' C w')(H:St μ h w μ' C w')(Z:h.next<=C.next)
 (J:∀b,b<h.next->fP log b=false->C.get b=h.get b)(bj:bQ C base log mask rs=some Y):
 Inv P ops as bf base μ0 h0 w0 a0 (listed.setIfInBounds i true) μ' (a.put y.dst v') w' (i::done) is Y (cC e y.dst v) C:=by
 obtain⟨t1,t2,t3,_⟩:=topo_cons hI.topo;obtain⟨am,cd⟩:=oE hI.size hi;have c:∀j,Lst (listed.setIfInBounds i true) j↔(j=i∨Lst listed j):=λj=>Lst.set am;obtain⟨s1,s2⟩:=pK bj;have hm:=H.mono hI.rel;have l:∀p,p<ops.size->Nat.testBit mask p=true->Lst listed p:=λp x s=>hI.before O hi S x s;refine⟨by simpa using hI.size,λj g=> ?_,λj g z=> ?_,λj m p g s x n=> ?_,t3,λj g p x=> ?_,λj m p g s x n=> ?_,λj g=> ?_,λj g=> ?_,λj g=>hI.Ao j (bu _ g),λr hr=> ?_,λr hr r' aE b s a8=>hI.alone r (s1 r hr).1 r' (s1 r' aE).1 b s a8,hR,
  hI.st.trans H hI.nx0,ed hI.nx0 Z,ed hI.nxb Z,hI.big,λt u K=> ?_,by rw[dP];exact hI.tm,by rw[put_defers];exact hI.df⟩
 ·rcases(c j).1 g with rfl|h
  ·exact bx ..
  ·exact bu _ (hI.sub j h)
 ·rcases List.mem_cons.1 g with rfl|g
  ·exact(z ((c _).2 (.inl rfl))).elim
  ·have V:¬Lst listed j:=λh=>z ((c j).2 (.inr h));obtain⟨r,h1,h3⟩:=hI.OF j g V;refine⟨r,s2 r h1 ?_,h3⟩;cases s:Nat.testBit mask r.i with
   |false=>rfl
   |true=>exact(V (h3▸l r.i (h3▸hI.lt j g) s)).elim
 ·rcases(c j).1 g with rfl|h
  ·rw[S]at s;cases s;exact(c p).2 (.inr (l p x n))
  ·exact(c p).2 (.inr (hI.EG j m p h s x n))
 ·rcases List.mem_cons.1 g with rfl|g
  ·exact bu _ (t1 p x)
  ·exact bu _ (hI.closed j g p x)
 ·rcases List.mem_cons.1 g with rfl|g
  ·obtain⟨q,hq,aw⟩:=O.masks j p m (by simpa using hI.Ao j (bx ..)) (by simpa using x) s n;rcases aw with rfl|⟨mq,h1,C⟩
   ·exact bu _ (t1 p hq)
   ·exact bu _ (hI.AX q mq p (t1 q hq) h1 x C)
  ·exact bu _ (hI.AX j m p g s x n)
 ·rcases List.mem_cons.1 g with rfl|g
  ·exact hI.Ao _ (bx ..)
  ·exact hI.lt j g
 ·rcases hI.all j g with h|h
  ·exact .inl (bu _ h)
  ·rcases List.mem_cons.1 h with rfl|h
   ·exact .inl (bx ..)
   ·exact .inr h
 ·obtain⟨ba,be,I⟩:=s1 r hr;have f:=hI.rz r ba;refine⟨bu _ f.done,f.op,λt u K=> ?_,λt ht=> ?_,?_⟩
  ·obtain⟨G,N⟩:=f.env t u K;refine⟨G,λZ=> ?_⟩;have E:¬Lst listed r.i:=λh=>Z ((c _).2 (.inr h));rcases N E with⟨r2,A,B,F,M,X⟩|⟨A,v2,B,F⟩
   ·left;refine⟨r2,s2 r2 A ?_,λh=> ?_,F,M,X⟩
    ·cases s:Nat.testBit mask r2.i with
     |false=>rfl
     |true=>exact(B (l r2.i (hI.lt _ (hI.rz r2 A).done) s)).elim
    ·rcases(c _).1 h with h|h
     ·exact t2 (h▸(hI.rz r2 A).done)
     ·exact B h
   ·right;refine⟨λp ap a7 D ar=>(c p).2 (.inr (A p ap a7 D ar)),v2,?_,F.mono hm⟩;rw[ij];cases hdd:y.dst with
    |none=>exact B
    |some d=>
     have ae:d≠t:=λh=>by
      subst h;rcases O.slots r.i i r.o y d f.op Q G hdd with q|⟨m,M,X⟩
      ·exact t2 (hI.closed _ f.done i q)
      ·exact E (hI.before O hi M (hI.lt _ f.done) X)
     simp[gy,ae,B]
  ·rw[ux,if_neg]
   ·exact f.dst t ht
   ·intro D;have:=O.TY r.i i r.o y t f.op Q ht D;exact t2 (this▸f.done)
  ·have L:=f.kind;cases hrk:r.k with
   |skip=>rw[hrk]at L;exact L
   |quiet=>
    rw[hrk]at L;obtain⟨A,B,F,_⟩:=L;exact⟨A,B,F,Iw be hrk F⟩
   |made b=>
    rw[hrk]at L;obtain⟨A,B,bo,o,F,M,X,k6,k7⟩:=L;have U:fP log b=false:=by
     unfold JX at I;rw[hrk]at I;simpa using I
    have T:=hI.rel.lt b _ M;refine⟨A,B,bo,o,F,by rw[J b T U];exact M,X,k6,λz=> ?_⟩;rw[H.ext b T];exact k7 λh=>z ((c _).2 (.inr h))
 ·rw[ux]at K;by_cases D:y.dst=some t
  ·rw[if_pos D]at K;cases K;right;rw[D]at W⊢;simp only[lX,Co]at W;refine⟨v',?_,hv⟩;rw[ij];simp[gy,show t<a.tmps.size by omega]
  ·rw[if_neg D]at K;rcases hI.env t u K with⟨r,G,N,q3⟩|⟨v2,G,N⟩
   ·left;have f:=hI.rz r G;refine⟨r,s2 r G ?_,λh=> ?_,q3⟩
    ·cases s:Nat.testBit mask r.i with
     |false=>rfl
     |true=>exact(N (l r.i (hI.lt _ f.done) s)).elim
    ·rcases(c _).1 h with h|h
     ·exact t2 (h▸f.done)
     ·exact N h
   ·right;refine⟨v2,?_,N.mono hm⟩;rw[ij];cases hdd:y.dst with
    |none=>exact G
    |some d=>
     have:d≠t:=λh=>D (by rw[hdd,h]);simp[gy,this,G]
def unl(ops:Array Oper)(listed:Array Bool):Nat:=((List.range ops.size).filter λi=> !listed.getD i false).length
def Dq(P:Program)(μ0:Mu)(h0:Heap)(w0:World)(a0:Act)(x:bE)(e':Env)(h':Heap):Exit->Act->World->Prop:=λex a' w'=>
 ∃μ',XR μ' x ex/\R P μ' h' w'∧St μ0 h0 w0 μ' h' w'∧cW μ' e' a'.tmps/\a'.tmps.size=a0.tmps.size/\a'.defers=a0.defers
theorem F6{l:List Nat}(c:l.Nodup){p q:Nat->Bool}{i:Nat}(hi:i∈l)(f:p i=true)(g:q i=false)(a:∀j,j≠i->q j=p j):(l.filter q).length+1=(l.filter p).length:=by
 induction l with
 |nil=>cases hi
 |cons x l ih=>
  simp only[Pi]at c;by_cases hx:x=i
  ·subst hx;have:l.filter q=l.filter p:=Hm λj d=>a j λe=>c.1 (e▸d);simp[f,g,this]
  ·have b:i∈l:=by rcases List.mem_cons.1 hi with h|h;exact absurd h.symm hx;exact h
   have:=ih c.2 b;rw[In,In,a x hx];by_cases hpx:p x=true
   ·rw[if_pos hpx,if_pos hpx,me,me];omega
   ·rw[if_neg hpx,if_neg hpx];exact this
theorem Sy{ops:Array Oper}{a:Array Bool}{i:Nat}(d:a.size=ops.size)(hi:i<ops.size)(b:¬Lst a i):unl ops (a.setIfInBounds i true)+1=unl ops a:=by
 unfold unl;refine F6 List.nodup_range (by simpa using hi) ?_ ?_ (λj c=> ?_)
 ·unfold Lst at b;simpa using b
 ·simp[ut,gy,show i<a.size by omega]
 ·simp[ut,gy,Ne.symm c]
theorem Pn{ops:Array Oper}{a:Array Bool}(h:unl ops a=0):∀i,i<ops.size->Lst a i:=by
 intro i d;have b:=List.length_eq_zero_iff.1 h;rw[List.filter_eq_nil_iff]at b;have c:=b i (by simpa using d);unfold Lst;simpa using c
def Ord(ops:List Oper):List Nat->Prop
 |[]=>True
 |i::d=>(∀p∈jT ops i,p∈d)/\Ord ops d
theorem Fc{ops:Array Oper}{a:Array Bool}{i:Nat}(hi:i<ops.size)(h:a.size=ops.size)(b:¬Lst a i)(g:∀p∈jT ops.toList i,Lst a p):i∈Region.ready .any ops a:=by
 rw[mem_ready];obtain⟨o,c⟩:∃o,ops[i]? =some o:=⟨ops[i],by simp[hi]⟩;refine⟨?_,o,c,λe f d=> ?_⟩
 ·unfold Lst at b;simp[ut,show i<a.size by omega]at b⊢;exact b
 ·refine g e.on ?_;simp only[jT,bW,Array.getElem?_toList,c,GB,List.mem_map,List.mem_filter,Array.mem_toList_iff];exact⟨e,⟨f,d⟩,rfl⟩
theorem Il{ops:List Oper}{a:Array Bool}:∀{d:List Nat},Ord ops d->(∃j∈d,¬Lst a j)->∃j∈d,¬Lst a j/\∀p∈jT ops j,Lst a p
 |[],_,⟨j,c,_⟩=>by cases c
 |x::d,ho,hex=>by
  by_cases h:∃j∈d,¬Lst a j
  ·obtain⟨j,h1,h2⟩:=Il ho.2 h;exact⟨j,bu _ h1,h2⟩
  ·have b:∀j∈d,Lst a j:=λj c=>Classical.byContradiction λe=>h ⟨j,c,e⟩;obtain⟨j,c,e⟩:=hex;rcases List.mem_cons.1 c with rfl|c
   ·exact⟨j,bx ..,e,λp f=>b p (ho.1 p f)⟩
   ·exact(e (b j c)).elim
theorem topo_not{as:List aZ}{ops:List Oper}:∀{is done:List Nat},topoOk as ops done is=true->∀p∈is,p ∉ done
 |[],_,_,p,hp=>by cases hp
 |i::is,done,h,p,hp=>by
  obtain⟨_,t2,t3,_⟩:=topo_cons h;rcases List.mem_cons.1 hp with rfl|hp
  ·exact t2
  ·exact λa=>topo_not t3 p hp (bu _ a)
variable {ops:Array Oper} {as:List aZ} {bf:List Nat} {base:Nat} {μ0 μ:Mu} {h0 h:Heap} {w0 w:World} {a0 a:Act} {listed:Array Bool} {done is:List Nat} {rs:List Rec} {e:Env}
theorem Inv.GU(hI:Inv P ops as bf base μ0 h0 w0 a0 listed μ a w done is rs e h)(ho:Ord ops.toList done)(hr:Region.ready .any ops listed=[]):∀i,i<ops.size->Lst listed i:=by
 have b:∀j∈done,Lst listed j:=λj l=>Classical.byContradiction λn=>by
  obtain⟨k,c,d,f⟩:=Il ho ⟨j,l,n⟩;have:=Fc (hI.lt k c) hI.size d f;rw[hr]at this;cases this
 intro i g;rcases hI.all i g with h|h
 ·exact b i h
 ·exfalso;cases is with
  |nil=>cases h
  |cons x is=>
   obtain⟨q,r,_⟩:=topo_cons hI.topo;have:=Fc (hI.Ao x (bx ..)) hI.size (λm=>r (hI.sub x m)) (λp o=>b p (q p o));rw[hr]at this;cases this
theorem Inv.fin(hI:Inv P ops as bf base μ0 h0 w0 a0 listed μ a w done is rs e h)(b:∀i,i<ops.size->Lst listed i):Dq P μ0 h0 w0 a0 .normal e h .normal a w:=
 ⟨μ,trivial,hI.rel,hI.st,λt v c=>by
  rcases hI.env t v c with⟨r,h1,h2,_⟩|h
  ·exact(h2 (b _ (hI.lt _ (hI.rz r h1).done))).elim
  ·exact h,hI.tm,hI.df⟩
theorem Inv.run{nt:Nat}{m:Option Nat}{Q:Exit->Act->World->Prop}(n:Stat as ops.toList bf)(g:cD P nt ops ops.toList=some as)(j:nt<=a0.tmps.size)(ho:Ord ops.toList done)
 (c:∀(b:Array Bool) (μ:Mu) (a:Act) (w:World),Inv P ops as bf base μ0 h0 w0 a0 b μ a w done is rs e h->(∀i,i<ops.size->Lst b i)->Q .normal a w)
 (d:∀(b:Array Bool) (μ:Mu) (a:Act) (w:World) (i:Nat),Inv P ops as bf base μ0 h0 w0 a0 b μ a w done is rs e h→i∈Region.ready .any ops b→i ∉ done→∀k,unl ops (b.setIfInBounds i true)=k→
   wpOpIn (Fw m) 0 P ops Q i (wpAnyIn (Fw m) 0 P .any ops Q k (b.setIfInBounds i true)) a w):
 ∀(k:Nat) (b:Array Bool) (μ:Mu) (a:Act) (w:World),unl ops b=k->Inv P ops as bf base μ0 h0 w0 a0 b μ a w done is rs e h->wpAnyIn (Fw m) 0 P .any ops Q k b a w
 |0,b,μ,a,w,hk,hI=>by
  have hall:=Pn hk;refine⟨?_,c _ _ _ _ hI hall⟩;rw[UV];intro i f;exact(oE hI.size f).2 (hall i (fG f).1)
 |k+1,b,μ,a,w,hk,hI=>by
  refine⟨λo=>c _ _ _ _ hI (hI.GU ho o),λi f=> ?_⟩;have q:=Sy hI.size (fG f).1 (oE hI.size f).2;by_cases hd:i∈done
  ·exact hI.jh n (by rw[hI.tm];exact j) g f hd λμ' p r l=>Inv.run n g j ho c d k _ _ _ _ (by omega) l
  ·exact d _ _ _ _ _ hI f hd k (by omega)
theorem Ba{base:Nat}{h:Heap}:∀{rs:List Rec},oH h base rs=true->∀r∈rs,tD h base r=true
 |[],_,r,hr=>by cases hr
 |x::rs,h,r,hr=>by
  simp only[oH,cond_eq_ite]at h;split at h
  ·rename_i hx;rcases List.mem_cons.1 hr with rfl|hr
   ·exact hx
   ·exact Ba h r hr
  ·cases h
theorem Aw{bf:List Nat}{i:Nat}:∀{a:List Nat},sH bf i a=true->∀{j:Nat},j∈a->∃m,bf[j]? =some m/\Nat.testBit m i=true
 |[],_,_,hj=>by cases hj
 |x::a,h,j,hj=>by
  simp only[sH]at h;split at h
  ·rename_i m hm;rw[bW]at hm;simp only[cond_eq_ite]at h;split at h
   ·rename_i ht;rcases List.mem_cons.1 hj with rfl|hj
    ·exact⟨m,hm,ht⟩
    ·exact Aw h hj
   ·cases h
  ·cases h
def oK(P:Program)(T:Nat->Option an)(n:Nat):Prop:=∀base as is bf rs e h x e' h',ef T n base as is bf rs e h=some (x,e',h')→
 ∀(ops:Array Oper) nt μ0 h0 w0 a0 listed μ a w done rd (Q:Exit->Act->World->Prop),cD P nt ops ops.toList=some as->Stat as ops.toList bf->nt<=a0.tmps.size→
  Inv P ops as bf base μ0 h0 w0 a0 listed μ a w done is rs e h->Ord ops.toList done->(∀ex a' w',Dq P μ0 h0 w0 a0 x e' h' ex a' w'→Q ex a' w')→
  wpAnyIn (Fw rd) 0 P .any ops Q (unl ops listed) listed a w
theorem oK.succ(hT:eV P T)(hD:oK P T n)(hC:rO P T n):oK P T (n+1):=by
 intro base as is bf rs e h x e' h' d ops nt μ0 h0 w0 a0 listed μ a w done rd Q B A y z ho hQ;cases is with
 |nil=>
  simp only[ef]at d;cases d;refine z.run A B y ho (λ_ _ _ _ c u=>hQ _ _ _ (c.fin u)) (λ_ _ _ _ i c hi hd=> ?_) _ _ _ _ _ rfl;rcases c.all i (fG hi).1 with q|q
  ·exact(hd q).elim
  ·cases q
 |cons i is=>
  simp only[ef]at d;split at d
  ·rename_i o mask ho' hm';rw[bW]at ho' hm';obtain⟨t1,t2,t3,ai,t4,t5⟩:=topo_cons z.topo;rw[ho']at t4;injection t4 with t4
   subst t4;have E:Ord ops.toList (i::done):=⟨t1,ho⟩;have a7:i<ops.size:=z.Ao i (bx ..);obtain⟨oo,Y⟩:∃oo,ops[i]? =some oo:=⟨ops[i],by simp[a7]⟩;obtain⟨ao,q1,c1,c2,c3,c5⟩:=(kZ B).2 i oo (by simpa using Y);rw[ho']at q1;injection q1 with q1
   subst q1;have a8:∀r∈rs,xu P ops base h0 listed μ h r:=λr hr=>(z.rz r hr).kind;split at d
   ·rename_i hw;exact hD _ _ _ _ _ _ _ _ _ _ d ops nt μ0 h0 w0 a0 listed μ a w (i::done) rd Q B A y (z.adv A ho' z.rel z.st (bl _) ⟨hw,rfl⟩ a8 (λb V=>by cases V)) E hQ
   ·rename_i hw
    have ae:(∀{listed:Array Bool} {μ:Mu} {a:Act} {w:World} {j:Nat},Inv P ops as bf base μ0 h0 w0 a0 listed μ a w done (i::is) rs e h->j∈Region.ready .any ops listed->j ∉ done->j=i)→
     ∀{v:Value} {D:Heap} {U:List Rec},aop {h with log:=[]} h.next (bU e (dh o)) o.op=some (.val v D)->bQ {D with log:=aH base h.log D.log} base D.log mask rs=some U→
     ef T n base as is bf U (cC e o.dst v) {D with log:=aH base h.log D.log}=some (x,e',h')->wpAnyIn (Fw rd) 0 P .any ops Q (unl ops listed) listed a w:=by
     intro W v D U f L ba;refine z.run A B y ho (λ_ _ _ _ c u=>(t2 (c.sub i (u i a7))).elim) (λlisted μ a w j c G C k H=> ?_) _ _ _ _ _ rfl;have X:=W c G C;subst X;have hE:cW μ (bU e (dh o)) a.tmps:=c.look A G ho' λt v S=>mB S;unfold wpOpIn;simp only[Y];rw[c5 (λs _ _ v S=>hE s v S) hw];simp only[if_true];refine⟨λ_ _=>gT,?_⟩;rw[Oper.semAt_eq _ _ _ (uJ c3 (A.Gj _ o ho'))];have hA:=qd f;have J:R P μ ({h with log:=[]}:Heap) w:=c.rel.congr rfl rfl;refine zN (Ik J hE c3 f) λμ' v' Z F k2 M=> ?_;have M:St μ h w μ' D Z:=M.qk rfl rfl;subst H;rw[←c2];exact hD _ _ _ _ _ _ _ _ _ _ ba ops nt μ0 h0 w0 a0 _ μ' _ Z (j::done) rd Q B A y (c.bar A G ho' hm' (by rw[c2];exact c1) (by rw[c.tm];exact y) F (k2.congr rfl rfl) (M.jq rfl) hA.next (λb V hl=>hA.same b V V hl) L) E hQ
    simp only[cond_eq_ite]at d;split at d
    ·rename_i heager;split at d
     ·rename_i v D f;split at d
      ·rename_i hnew;split at d
       ·rename_i N;obtain⟨aE,rfl,bo⟩:=QZ hnew c3 f;obtain⟨r1,r2⟩:=z.rel.aay aE;have cd:μ h.next=none:=by
         cases hm:μ h.next with
         |none=>rfl
         |some k=>exact absurd (z.rel.dom _ _ hm).1 (ui _)
        refine hD _ _ _ _ _ _ _ _ _ _ d ops nt μ0 h0 w0 a0 listed μ a w (i::done) rd Q B A y (z.adv A ho' r1 (z.st.trans r2 z.nx0) (Hc _) ⟨hw,A.Gj i o ho',aE,oo,Y,by rw[Heap.dJ,if_pos rfl],bo,z.nx0,λ_=>cd⟩ (λr hr=> ?_) (λb V r hr O=> ?_)) E hQ
        ·have H:=a8 r hr;unfold xu at H⊢;cases O:r.k with
         |skip=>rw[O]at H;exact H
         |quiet=>
          rw[O]at H;obtain⟨F,k2,M,_⟩:=H;exact⟨F,k2,M,Iw (Ba N r hr) O M⟩
         |made b=>
          rw[O]at H;obtain⟨F,k2,ob,o2,M,k4,k5⟩:=H;have:=z.rel.lt b _ k4;exact⟨F,k2,ob,o2,M,by rw[Heap.dJ,if_neg (by omega)];exact k4,k5⟩
        ·cases V;have H:=a8 r hr;unfold xu at H;rw[O]at H;obtain⟨_,_,ob,_,_,k4,_⟩:=H;exact ui _ (z.rel.lt _ _ k4)
       ·cases d
      ·rename_i hnew;split at d
       ·rename_i hnx;have aw:cU o.op=true:=by
         unfold jM at heager;simp only[q9]at heager;rcases heager with q|q
         ·exact q
         ·exact(hnew q).elim
        have hh:D=h:=by
         rcases Ax aw f with q|⟨ob,rfl⟩
         ·exact q
         ·rw[beq_eq]at hnx;simp only[decide_eq_true_eq]at hnx;exact absurd hnx (by show¬h.next+1=h.next;omega)
        subst hh;exact hD _ _ _ _ _ _ _ _ _ _ d ops nt μ0 h0 w0 a0 listed μ a w (i::done) rd Q B A y (z.adv A ho' z.rel z.st (bl _) ⟨hw,A.Gj i o ho',aw,f⟩ a8 (λb V=>by cases V)) E hQ
       ·split at d
        ·rename_i u;split at d
         ·rename_i v D f;split at d
          ·rename_i U L;exact ae (λ{listed μ a w j} c G C=>by
            rcases c.all j (fG G).1 with q|q
            ·exact(C q).elim
            ·rcases List.mem_cons.1 q with q|q
             ·exact q
             ·obtain⟨m,be,bj⟩:=Aw u q;exact(t2 (c.sub i (c.before A G be a7 bj))).elim) f L d
          ·cases d
         ·cases d
        ·cases d
     ·cases d
    ·rename_i hne;have W:∀{listed:Array Bool} {μ:Mu} {a:Act} {w:World} {j:Nat},Inv P ops as bf base μ0 h0 w0 a0 listed μ a w done (i::is) rs e h->j∈Region.ready .any ops listed->j ∉ done->j=i:=λ{listed μ a w j} c G C=>by
      rcases c.all j (fG G).1 with q|q
      ·exact(C q).elim
      ·rcases List.mem_cons.1 q with q|q
       ·exact q
       ·rcases t5 with t5|t5
        ·exact(hne t5).elim
        ·obtain⟨p,cf,cj⟩:=t5 j q;exact(topo_not c.topo p cj (c.sub p ((fG G).2.2 p cf))).elim
     have am:∀(listed:Array Bool) (μ:Mu) (a:Act) (w:World),Inv P ops as bf base μ0 h0 w0 a0 listed μ a w done (i::is) rs e h->(∀i,i<ops.size->Lst listed i)->Q .normal a w:=λ_ _ _ _ c u=>(t2 (c.sub i (u i a7))).elim;split at d
     ·rename_i v D f;split at d
      ·rename_i U L;exact ae W f L d
      ·cases d
     ·rename_i fn args h3 f;split at d
      ·rename_i v D hcall;split at d
       ·rename_i U L;refine z.run A B y ho am (λlisted μ a w j c G C k H=> ?_) _ _ _ _ _ rfl;have X:=W c G C;subst X;have hE:cW μ (bU e (dh o)) a.tmps:=c.look A G ho' λt v S=>mB S;unfold wpOpIn;simp only[Y];rw[c5 (λs _ _ v S=>hE s v S) hw];simp only[if_true];refine⟨λ_ _=>gT,?_⟩;have J:R P μ ({h with log:=[]}:Heap) w:=c.rel.congr rfl rfl;obtain⟨_,nd,I,ha,K⟩:=Ch J hE c3 f;rw[Oper.semAt_eq _ _ _ nd];have ar:pS P (iy P μ ({h with log:=[]}:Heap) w (.ret v) D) ((execOp a.eval oo).run P w):=by
         obtain⟨g1,g2⟩:=hC _ _ _ _ _ hcall rfl μ w I J ha;rcases K with⟨g,e1,e2⟩|⟨l,k,e1,e2,e3⟩
         ·rw[e2];exact g1 g e1
         ·rw[e3];exact g2 l k e1 e2
        have hA:=(fA.all hT.aM n).jZ _ _ _ _ _ hcall rfl;refine jK ar (λv' Z N=> ?_) (λch Z N=> ?_) (λZ N=> ?_)
        ·obtain⟨μ',F,k2,M⟩:=N;have M:St μ h w μ' D Z:=M.qk rfl rfl;subst H;rw[←c2];exact hD _ _ _ _ _ _ _ _ _ _ d ops nt μ0 h0 w0 a0 _ μ' _ Z (j::done) rd Q B A y (c.bar A G ho' hm' (by rw[c2];exact c1) (by rw[c.tm];exact y) F (k2.congr rfl rfl) (M.jq rfl) hA.next (λb V hl=>hA.same b V V hl) L) E hQ
        ·obtain⟨μ',F,_⟩:=N;exact F.elim
        ·obtain⟨μ',F,_⟩:=N;exact F.elim
       ·cases d
      ·rename_i v D hcall;cases d;refine z.run A B y ho am (λlisted μ a w j c G C k H=> ?_) _ _ _ _ _ rfl;have X:=W c G C;subst X;have hE:cW μ (bU e (dh o)) a.tmps:=c.look A G ho' λt v S=>mB S;unfold wpOpIn;simp only[Y];rw[c5 (λs _ _ v S=>hE s v S) hw];simp only[if_true];refine⟨λ_ _=>gT,?_⟩;have J:R P μ ({h with log:=[]}:Heap) w:=c.rel.congr rfl rfl;obtain⟨_,nd,I,ha,K⟩:=Ch J hE c3 f;rw[Oper.semAt_eq _ _ _ nd];have ar:pS P (iy P μ ({h with log:=[]}:Heap) w (.panic v) D) ((execOp a.eval oo).run P w):=by
        obtain⟨g1,g2⟩:=hC _ _ _ _ _ hcall rfl μ w I J ha;rcases K with⟨g,e1,e2⟩|⟨l,k,e1,e2,e3⟩
        ·rw[e2];exact g1 g e1
        ·rw[e3];exact g2 l k e1 e2
       refine jK ar (λv' Z N=> ?_) (λch Z N=> ?_) (λZ N=> ?_)
       ·obtain⟨μ',F,_⟩:=N;exact F.elim
       ·obtain⟨μ',F,k2,M⟩:=N;exact hQ _ _ _ ⟨μ',F,k2.congr rfl rfl,(c.st.trans (M.qk rfl rfl) c.nx0).jq rfl,(λt v S=>by cases S),c.tm,c.df⟩
       ·obtain⟨μ',F,_⟩:=N;exact F.elim
      ·cases d
     ·cases d
   ·cases d
  ·cases d
theorem oK.ok(J:eV P T)(F:oK P T n):Kz P T n:=by
 intro base as u bf e h x C D E K ops Y μ w a rd X B id d l o k G g _ L;obtain⟨d1,y,z,A,I⟩:=DY (kZ d).1 l;refine wpIn_region_any J.mixed ?_;obtain⟨Z,r2⟩:=k.world (w':={w with drawn:=w.drawn+1}) rfl;have c:∀i,¬Lst (Array.replicate ops.size false) i:=λi=>by
  unfold Lst;simp[ut,Array.getElem?_replicate];split<;>simp
 have H:Inv P ops as bf base μ h w a (Array.replicate ops.size false) μ a {w with drawn:=w.drawn+1} [] u [] e h:=
  ⟨by simp,λi f=>(c i f).elim,λi f=>(by cases f),λi m p f=>(c i f).elim,A,λj b=>(by cases b),λj m p b=>(by cases b),λj b=>(by cases b),λj b=> .inr (z j (by simpa using b)),λj b=>by simpa using y j b,
   λr q=>(by cases q),λr q=>(by cases q),Z,r2,bl _,K,k.big,λt v O=> .inr (G t v O),rfl,rfl⟩
 have N:unl ops (Array.replicate ops.size false)=ops.size:=by
  unfold unl;rw[List.filter_eq_self.2]
  ·simp
  ·intro j _;have:=c j;unfold Lst at this;simpa using this
 have:=F _ _ _ _ _ _ _ _ _ _ E ops Y μ h w a _ μ a _ [] rd (Post P μ h w X a.tmps.size x C B D) d I o H trivial (λex a' w' M=> ?_)
 ·rw[N]at this;exact this
 ·obtain⟨μ',Q,S,s,U,V,W⟩:=M;exact⟨μ',Q,S,s,U,by rw[W];exact g.step s (s.mono k),V⟩
theorem R.Mi{d:Heap}(e:∀b,d.get b=h1.get b)(h:d.next=h1.next)(c:R P μ h1 w):R P μ d w:=
 ⟨by rw[h];exact c.big,λg o h1 d=>c.lZ g o h1 (by rw[←e];exact d),λb o a=>c.obj b o (by rw[←e];exact a),λb o a=>by rw[h];exact c.lt b o (by rw[←e];exact a),
  λb k a=>by rw[h];exact c.dom b k a,λb j o m k l i a f=>c.lJ b j o m k l i (by rw[←e];exact a) (by rw[←e];exact f)⟩
theorem Wr.Mi{a:Heap}(c:∀b,a.get b=h1.get b){r:Nat}(d:Wr μ a r):Wr μ h1 r:=by
 obtain⟨b,o,k,e,f⟩:=d;exact⟨b,o,k,by rw[←c];exact e,f⟩
theorem R.forget{μ0:Mu}{a:Heap}{w0 g:World}(c:R P μ0 a w0)(i:R P μ1 h1 g)(p:St μ0 a w0 μ1 h1 g)(h:AS a.next a h1)(j:h1.log=[]):
 R P μ0 a g/\St μ0 a w0 μ0 a g:=by
 obtain⟨μ2,l,_,e,_⟩:=Mf c i p h (v:= .bool true) (v':= .bool true) (.bool true);have f:gcA a h1 (.bool true)={h1 with cI:=pT (h1.next-a.next) h1.cI,next:=a.next}:=by
  unfold gcA;rw[j];rfl
 have q:(gcA a h1 (.bool true)).next=a.next:=by rw[f]
 have d:∀b,a.get b=(gcA a h1 (.bool true)).get b:=λb=>by
  rw[f];rw[show({h1 with cI:=pT (h1.next-a.next) h1.cI,next:=a.next}:Heap).get b=if b<a.next then h1.get b else none from Me c h b];split
  ·rename_i hb;exact(h.same b hb hb (by rw[j];rfl)).symm
  ·rename_i hb;cases hq:a.get b with
   |none=>rfl
   |some o=>exact(hb (c.lt b o hq)).elim
 have u:μ2=μ0:=funext λb=>by
  by_cases hb:b<a.next
  ·exact e.ext b hb
  ·have m:μ2 b=none:=by
    cases hq:μ2 b with
    |none=>rfl
    |some k=>have:=(l.dom b k hq).1;omega
   have n:μ0 b=none:=by
    cases hq:μ0 b with
    |none=>rfl
    |some k=>exact(hb (c.dom b k hq).1).elim
   rw[m,n]
 subst u;exact⟨l.Mi d q.symm,⟨e.ext,e.le,e.keep,λr s t=>e.wr r s (t.Mi d),e.loops,e.same⟩⟩
theorem nq(a:h.get m=some (.map es))(b:Nat):(roM h m es).get b=if b=m then some (.sC es)else h.get b:=by
 have:(roM h m es).get b=if b=m then(h.get m).map (λ_=> .sC es)else h.get b:=vr _ _ _ _
 rw[this];split
 ·rw[a];rfl
 ·rfl
theorem Wr.UK(d:h.get m=some (.map es)){r:Nat}(e:Wr μ (roM h m es) r):Wr μ h r:=by
 obtain⟨b,o,k,a,f,c,g⟩:=e;rw[nq d]at a;split at a
 ·cases a;cases c
 ·exact⟨b,o,k,a,f,c,g⟩
theorem R.toRo(i:R P μ h w)(j:h.get m=some (.map es)):R P μ (roM h m es) w:=by
 refine⟨i.big,λg o z n=> ?_,λb o d=> ?_,λb o d=> ?_,i.dom,λb p o C k u l d f A B v x s=> ?_⟩
 ·rw[nq j]at n;split at n
  ·rename_i e;subst e;cases n;obtain⟨k,a,b,c,_⟩:=i.lZ g _ z j;refine⟨k,a,b,c,λ_ _ E t F D=> ?_⟩;obtain⟨y,r,z1,_⟩:=i.obj g _ j k a;rw[D]at z1;cases z1
  ·exact i.lZ g o z n
 ·rw[nq j]at d;split at d
  ·rename_i e;subst e;cases d;have q:=i.obj b _ j;exact q
  ·exact i.obj b o d
 ·rw[nq j]at d;split at d
  ·rename_i e;subst e;cases d;exact i.lt b _ j
  ·exact i.lt b o d
 ·rw[nq j]at d f;split at d
  ·rename_i e1;subst e1;cases d;rw[if_neg (Ne.symm l)]at f;have:=i.lJ b p _ C k u l j f rfl B v x s;cases this.1
  ·split at f
   ·rename_i e2;subst e2;cases f;have:=i.lJ b p o _ k u l d j A rfl v x s;cases this.2
   ·exact i.lJ b p o C k u l d f A B v x s
theorem R.UK{w0:World}(f:R P μ h w0)(l:h.get m=some (.map es))(d:R P μ (roM h m es) w):R P μ h w:=by
 have s:∀b o,h.get b=some o->b≠m->(roM h m es).get b=some o:=λb o i p=>by rw[nq l,if_neg p];exact i
 have j:(roM h m es).get m=some (.sC es):=by rw[nq l,if_pos rfl]
 refine⟨d.big,λg o r n=> ?_,λb o i=> ?_,f.lt,d.dom,f.lJ⟩
 ·by_cases e:g=m
  ·subst e;rw[l]at n;cases n;obtain⟨k,a,b,c,_⟩:=d.lZ g _ r j;exact⟨k,a,b,c,λq=>by cases q⟩
  ·exact d.lZ g o r (s g o n e)
 ·by_cases e:b=m
  ·subst e;rw[l]at i;cases i;have q:=d.obj b _ j;exact q
  ·exact d.obj b o (s b o i e)
theorem R.dead(f:R P μ h w){r:Nat}(hr:r<w.heap.size):R P (upd μ h.next ⟨r,0,0,0⟩) (h.push .dead) w/\St μ h w (upd μ h.next ⟨r,0,0,0⟩) (h.push .dead) w:=by
 have s:∀d,μ h.next=some d→False:=λd G=>ui _ (f.dom _ _ G).1
 have z:∀b d,μ b=some d→upd μ h.next ⟨r,0,0,0⟩ b=some d:=λb d a=>by
  unfold upd;rw[if_neg];exact a;intro e;subst e;exact s _ a
 have j:=f.big;refine⟨⟨EQ j,λg q H A=> ?_,λb y a=> ?_,λb y a=> ?_,λb d a=> ?_,λb D M N u K p a c B C v x hr=> ?_⟩,⟨λb a=> ?_,bl _,λr hr _=>rfl,λr hr t=> ?_,λr L J=>⟨L,J, .refl L⟩, .refl w⟩⟩
 ·rw[Heap.dJ,if_neg (by omega)]at A;obtain⟨u,i,l,m,F⟩:=f.lZ g q H A;exact⟨u,z _ _ i,l,m,F⟩
 ·rw[Heap.dJ]at a;split at a
  ·cases a;trivial
  ·rename_i e;exact OR.mono z (by unfold upd;rw[if_neg e]) (λd I=>rfl) (f.obj b y a)
 ·rw[Heap.dJ]at a;split at a
  ·rename_i e;subst e;exact ec _
  ·exact yr (f.lt b y a)
 ·unfold upd at a;split at a
  ·rename_i e;subst e;cases a;exact⟨ec _,hr⟩
  ·have:=f.dom b d a;exact⟨yr this.1,this.2⟩
 ·rw[Heap.dJ]at a c;unfold upd at v x;split at a
  ·cases a;cases B
  ·rename_i e1;split at c
   ·cases c;cases C
   ·rename_i e2;rw[if_neg e1]at v;rw[if_neg e2]at x;exact f.lJ b D M N u K p a c B C v x hr
 ·unfold upd;rw[if_neg (by omega)]
 ·obtain⟨b,o,k,i,l,m,n,E⟩:=t;rw[Heap.dJ]at i;split at i
  ·cases i;cases l
  ·rename_i e;unfold upd at n;rw[if_neg e]at n;exact⟨b,o,k,i,l,m,n,E⟩
theorem R.CQ(d:R P μ h w){r:Nat}(hr:∀b k,μ b=some k->k.r≠r)(m:w'.heap.size=w.heap.size)(f:∀r',r'≠r->w'.heap[r']? =w.heap[r']?):R P μ h w':=
 ⟨d.big,λg o i j=>let⟨k,a,b,c,x⟩:=d.lZ g o i j;⟨k,a,b,c,x.get (f _ (hr _ _ a))⟩,λb o e=>OR.mono (λ_ _ h=>h) rfl (λk l=>f _ (hr _ _ l)) (d.obj b o e),d.lt,λb k e=>⟨(d.dom b k e).1,by have:=(d.dom b k e).2;omega⟩,d.lJ⟩
theorem ng{b:AOp}(a:ig P op=some b):
 (∀x,b= .nP x->∃t kt et,op= .range t x/\P.underlying t=some (.map kt et)/\aN P x=true)/\(∀x s,b= .next x s->op= .next x s)/\(∀x i,b= .extract x i->op= .extract x i)/\(∀x,b= .entry x->op= .entry x):=by
 unfold ig at a;split at a
 ·rename_i hall;cases op<;>(try dsimp only at a)
  case range t x=>
   split at a
   ·cases a
   ·rename_i kt et hd;cases a;exact⟨λ_ h=>(by cases h;exact⟨_,_,_,rfl,hd,by simpa[Op.operands]using hall⟩),λ_ _ h=>(by cases h),λ_ _ h=>(by cases h),λ_ h=>(by cases h)⟩
   ·cases a
  case next x s=>
   cases s with
   |true=>cases a
   |false=>cases a;exact⟨λ_ h=>(by cases h),λ_ _ h=>(by cases h;rfl),λ_ _ h=>(by cases h),λ_ h=>(by cases h)⟩
  case extract x s=>cases a;exact⟨λ_ h=>(by cases h),λ_ _ h=>(by cases h),λ_ _ h=>(by cases h;rfl),λ_ h=>(by cases h)⟩
  case entry x=>cases a;exact⟨λ_ h=>(by cases h),λ_ _ h=>(by cases h),λ_ _ h=>(by cases h),λ_ h=>(by cases h;rfl)⟩
  all_goals
   repeat' split at a
   all_goals first
    |contradiction
    |(cases a;done)
    |(cases a;exact⟨λ_ h=>(by cases h),λ_ _ h=>(by cases h),λ_ _ h=>(by cases h),λ_ h=>(by cases h)⟩)
    |(obtain⟨_,_,rfl⟩:=ff a;exact⟨λ_ h=>(by cases h),λ_ _ h=>(by cases h),λ_ _ h=>(by cases h),λ_ h=>(by cases h)⟩)
 ·cases a
theorem qj{nt:Nat}{ops:Array Oper}:∀{l:List Oper} {as c:List aZ} {g:aZ},cD P nt ops l=some as->Ab as=some (c,g)→
 ∃h o,l=h++[o]/\cD P nt ops h=some c/\cD P nt ops [o]=some [g]
 |[],as,c,g,h1,h2=>by simp only[cD]at h1;cases h1;cases h2
 |o::os,as,c,g,h1,h2=>by
  cases as with
  |nil=>cases h2
  |cons a as=>
   obtain⟨c1,c2,c3,c4,_⟩:=iP h1;have f:∀e d,cD P nt ops e=some d→cD P nt ops (o::e)=some (a::d):=λe d m=>by
    simp only[cD]at h1⊢;rw[if_pos c1]at h1⊢;rw[c3,m];rw[c3,c4]at h1;dsimp only at h1⊢;cases hg:o.guard with
    |none=>rw[hg]at h1;dsimp only at h1⊢;simp only[Option.some.injEq,List.cons.injEq,and_true]at h1⊢;exact h1
    |some gb=>
     rw[hg]at h1;dsimp only at h1⊢;cases hj:(ops[gb.1]?).bind (·.dst)with
     |none=>rw[hj]at h1;dsimp only at h1;cases h1
     |some t=>rw[hj]at h1;dsimp only at h1⊢;simp only[Option.some.injEq,List.cons.injEq,and_true]at h1⊢;exact h1
   cases as with
   |nil=>
    cases h2;have:os=[]:=by
     cases os with
     |nil=>rfl
     |cons o2 os2=>
      simp only[cD]at c4;repeat' split at c4
      all_goals cases c4
    subst this;exact⟨[],o,rfl,rfl,h1⟩
   |cons b bs=>
    simp only[Ab]at h2;split at h2
    ·rename_i l' y hu;cases h2;obtain⟨h,n,i,j,k⟩:=qj c4 hu;exact⟨o::h,n,by rw[i];rfl,f _ _ j,k⟩
    ·cases h2
theorem Db{g:Exit->Act->World->Prop}(d:∀a w,K a w->j a w)(f:∀e a w,e≠ .normal->Q e a w->g e a w){r:Result Next}(b:o.uponIn F n P a K Q r):
 o.uponIn F n P a j g r:=by
 have k:LetsOut Q->LetsOut g:=λ⟨a,w,h⟩=>⟨a,w,f _ _ _ (by simp) h⟩;cases r with
 |ok x w'=>
  cases x<;>simp only[Oper.uponIn]at b⊢ <;>
   first
    |exact d _ _ b
    |exact⟨b.1,CallsIn.mono b.2 (λe i c=>by cases e<;>first|exact d _ _ c|exact f _ _ _ (by simp) c|exact k c)⟩
    |exact⟨b.1,RowsIn.mono b.2 (λ_ _ c=>d _ _ c)⟩
    |exact⟨b.1,RoundIn.mono b.2 (λe i c=>by cases e<;>first|exact d _ _ c|exact f _ _ _ (by simp) c|exact k c)⟩
 |halt x w'=>cases x<;>simp only[Oper.uponIn]at b⊢ <;>first|exact b|exact f _ _ _ (by simp) b
theorem kE{F:Fence}{n:Nat}{ops:Array Oper}{Q:Exit->Act->World->Prop}:∀(l b:List Nat) (a:Act) (w:World),
 wpOpsIn F n P ops (Exit.then (wpOpsIn F n P ops Q b) Q) l a w->wpOpsIn F n P ops Q (l++b) a w
 |[],_,_,_,h=>h
 |i::l,b,a,w,h=>by
  simp only[wpOpsIn,GT]at h⊢;split at h
  ·exact kE l b _ _ h
  ·rename_i o ho;split at h
   ·rename_i hw;rw[if_pos hw];exact⟨h.1,Db (λa w=>kE l b a w) (λe a w hne hq=>by cases e<;>first|exact(hne rfl).elim|exact hq) h.2⟩
   ·rename_i hw;rw[if_neg hw];exact⟨h.1,kE l b _ _ h.2⟩
variable{d:Nat}
theorem rN{f:Option Nat}{ops:Array Oper}{i:Nat}{l:List Nat}{g:AOp}{as:List aZ}(b:ops[i]? =some o)(m:cD P nt ops (o::os)=some (⟨some d,g,none⟩::as))
 (n:∀c,o.op≠ .defer c)(hr:(execOp a.eval o).run P w= .ok (.value v) w')(h:wpOpsIn (Fw f) 0 P ops Q l (a.put (some d) v) w'):wpOpsIn (Fw f) 0 P ops Q (i::l) a w:=by
 obtain⟨r,j,s,c4,k⟩:=iP m;have q:Region.wanted o (yielded ops a.tmps)=true:=k (e:=[]) (μ:=λ_=>none) (λ_ _ p=>by cases p) rfl;simp only[wpOpsIn,b,q,if_true];refine⟨λ_ _=>gT,?_⟩;rw[Oper.semAt_eq _ _ _ n,hr,Oper.uponIn_value];have:o.dst=some d:=j.symm;rw[this];exact h
theorem rq(b:d<a.tmps.size):(a.put (some d) v).eval (.tmp d)=v:=by
 show((a.put (some d) v).tmps).getD d undef=v;rw[ij];simp[Array.getD,b]
theorem G8{s e j:Nat}{k:List Nat}{c:Code}{G:Option Nat}(F:gY P nt c (.region [⟨some e, .next (.tmp s) false,none⟩,⟨some j, .extract (.tmp e) 0,none⟩] k))(p:nt<=a.tmps.size)
 {r:Nat}(o:a.eval (.tmp s)= .pointer (some ⟨r,0,none⟩)){b:Bool}{l:List Value}(i:∀ty,(Instr.next (.pointer (some ⟨r,0,none⟩)) false ty).run P w= .ok (.tuple (.bool b::l).toArray) w')
 (h:j<nt->e<nt->Q .normal ((a.put (some e) (.tuple (.bool b::l).toArray)).put (some j) (.bool b)) w'):c.wpIn (Fw G) 0 P Q a w:=by
 obtain⟨id,ops,rfl,d⟩:=F.inv;refine wpIn_region ?_;cases hl:ops.toList with
 |nil=>rw[hl]at d;simp[cD]at d
 |cons o1 l1=>
  rw[hl]at d;obtain⟨t,z,A,c4,_⟩:=iP d;cases l1 with
  |nil=>simp[cD]at c4
  |cons o2 l2=>
   obtain⟨u,B,C,m,_⟩:=iP c4;have:l2=[]:=by
    cases l2 with
    |nil=>rfl
    |cons o3 l3=>
     simp only[cD]at m;repeat' split at m
     all_goals cases m
   subst this;have q:ops.size=2:=by
    have:=congrArg List.length hl;simpa using this
   have D:ops[0]? =some o1:=by
    have:ops.toList[0]? =some o1:=by rw[hl];rfl
    simpa using this
   have E:ops[1]? =some o2:=by
    have:ops.toList[1]? =some o2:=by rw[hl];rfl
    simpa using this
   have x:o1.op= .next (.tmp s) false:=(ng A).2.1 _ _ rfl
   have y:o2.op= .extract (.tmp e) 0:=(ng C).2.2.1 _ _ rfl;have f:e<nt:=by
    have:o1.dst=some e:=z.symm;rw[this]at t;simpa[lX,Co]using t
   have n:j<nt:=by
    have:o2.dst=some j:=B.symm;rw[this]at u;simpa[lX,Co]using u
   rw[q,show List.range 2=[0,1]from rfl];refine rN D d (λc g=>by rw[x]at g;cases g) (v:= .tuple (.bool b::l).toArray) (w':=w') ?_ ?_
   ·simp only[execOp,x,o];simp[go,i]
   ·refine rN E c4 (λc g=>by rw[y]at g;cases g) (v:= .bool b) (w':=w') ?_ (h n f);simp only[execOp,y];rw[rq (kz f p)];simp[Instr.extract]
open Go.ChangeMaps (setBlock)
theorem BS:∀{e:Env} {t:Nat} {v:Value},geT e t=some v->(t,v)∈e
 |(k,u)::e,t,v,hq=>by
  simp only[geT,cond_eq_ite,beq_eq,decide_eq_true_eq]at hq;split at hq
  ·rename_i hk;subst hk;cases hq;exact bx
  ·exact bu _ (BS hq)
theorem Da{a:Env}:∀{e:Env},FD a e=true->∀t v,(t,v)∈e->geT a t=some v
 |(k,u)::e,hs,t,v,hq=>by
  simp only[FD]at hs;split at hs
  ·rename_i v' hv';simp only[cond_eq_ite,Bool.if_false_right,dk,decide_eq_true_eq]at hs;rcases List.mem_cons.1 hq with hh|hh
   ·cases hh;rw[hv',uT hs.1]
   ·exact Da hs.2 t v hh
  ·cases hs
theorem Ck{eo:Env}:∀{a:Env},zm eo a=true->∀t v,(t,v)∈a->flat v=true∨geT eo t=some v
 |(k,u)::a,hs,t,v,hq=>by
  simp only[zm,cond_eq_ite]at hs;split at hs
  ·rename_i hf;rcases List.mem_cons.1 hq with hh|hh
   ·cases hh;exact .inl hf
   ·exact Ck hs t v hh
  ·split at hs
   ·rename_i v' hv';split at hs
    ·rename_i hsm;rcases List.mem_cons.1 hq with hh|hh
     ·cases hh;exact .inr (by rw[hv',uT hsm])
     ·exact Ck hs t v hh
    ·cases hs
   ·cases hs
theorem zT:∀{a b:Env},uS a b=true->a=b
 |[],[],_=>rfl
 |[],_::_,hs=>by simp[uS]at hs
 |_::_,[],hs=>by simp[uS]at hs
 |(t,v)::e,(t',v')::e',hs=>by
  simp only[uS,cond_eq_ite,beq_eq,decide_eq_true_eq]at hs;split at hs
  ·rename_i ht;subst ht;split at hs
   ·rename_i hv;rw[uT hv,zT hs]
   ·cases hs
  ·cases hs
def qc(nxt:Nat)(e e2:Env)(x:bE):Prop:=(x= .normal∨x= .exit nxt)/\FD e2 e=true
def TJ(nxt:Nat)(eo e2:Env)(x:bE)(r:Option (bE×Env)):Prop:=(x= .ret∨∃i,x= .exit i/\i≠nxt)/\zm eo e2=true/\r=some (x,e2)
def Rnd(fo fe:Env->Heap->Option (bE×Env×Dfs×Heap))(pr:Nat)(k2:List Nat)(e:Env)(h:Heap)(C:bE->Env->Prop)(p:Value×Value):Prop:=
 ∃e1 h1 x e2 h2,fo ((pr, .tuple #[p.1,p.2])::e) h=some (.normal,e1,[],h1)/\fe (bU e1 k2) h1=some (x,e2,[],h2)/\h2.log=[]/\C x e2
theorem Rnd.mono{b fe:Env->Heap->Option (bE×Env×Dfs×Heap)}{c:List Nat}{C a:bE->Env->Prop}{p:Value×Value}(f:∀x e,C x e->a x e)(hr:Rnd b fe d c e h C p):Rnd b fe d c e h a p:=
 let⟨e1,h1,x,e2,h2,q1,q2,q3,q4⟩:=hr;⟨e1,h1,x,e2,h2,q1,q2,q3,f _ _ q4⟩
theorem Az{g fe:Env->Heap->Option (bE×Env×Dfs×Heap)}{nxt n:Nat}{l:List Nat}{e eo:Env}{h:Heap}:∀{es:List (Value×Value)} {r:Option (bE×Env)},oR g fe nxt n l e eo h es=some r→
 (∀p∈es,Rnd g fe n l e h (λx b=>qc nxt e b x∨TJ nxt eo b x r) p)/\((∀p∈es,Rnd g fe n l e h (λx b=>qc nxt e b x) p)->r=none)
 |[],r,a=>by cases a;exact⟨λp t=>by simp at t,λ_=>rfl⟩
 |(k,v)::es,r,a=>by
  simp only[oR]at a;split at a
  ·rename_i e1 h1 hq1;split at a
   ·rename_i x b h2 hq2;split at a
    ·rename_i hl;split at a
     ·rename_i r0 hr0;obtain⟨i1,i2⟩:=Az hr0;have D:∀C:bE->Env->Prop,C x b->Rnd g fe n l e h C (k,v):=λC c=>⟨e1,h1,x,b,h2,hq1,hq2,hl,c⟩;have w:∀C:bE->Env->Prop,Rnd g fe n l e h C (k,v)->C x b:=λC c=>by
       obtain⟨E,H,K,F,I,y,u,_,G⟩:=c;rw[hq1]at y;cases y;rw[hq2]at u;cases u;exact G
      have o:qc nxt e b x->r0=r->(∀p∈(k,v)::es,Rnd g fe n l e h (λx b=>qc nxt e b x∨TJ nxt eo b x r) p)/\((∀p∈(k,v)::es,Rnd g fe n l e h (λx b=>qc nxt e b x) p)->r=none):=λJ A=>by
       subst A;refine⟨λp t=> ?_,λd=>i2 λp t=>d p (bu _ t)⟩;rcases List.mem_cons.1 t with hh|hh
       ·subst hh;exact D _ (.inl J)
       ·exact i1 p hh
      have m:(x= .ret∨∃i,x= .exit i/\i≠nxt)->zm eo b=true->r=some (x,b)->(r0=none∨r0=r)->(∀p∈(k,v)::es,Rnd g fe n l e h (λx b=>qc nxt e b x∨TJ nxt eo b x r) p)/\((∀p∈(k,v)::es,Rnd g fe n l e h (λx b=>qc nxt e b x) p)->r=none):=λB s z f=>by
       refine⟨λp t=> ?_,λd=> ?_⟩
       ·rcases List.mem_cons.1 t with hh|hh
        ·subst hh;exact D _ (.inr ⟨B,s,z⟩)
        ·refine(i1 p hh).mono λK L c=> ?_;rcases c with c|c
         ·exact .inl c
         ·rcases f with f|f
          ·rw[f]at c;cases c.2.2
          ·rw[f]at c;exact .inr c
       ·have:=w _ (d (k,v) bx);rcases B with rfl|⟨i,rfl,hi⟩
        ·rcases this.1 with q|q<;>cases q
        ·rcases this.1 with q|q
         ·cases q
         ·cases q;exact(hi rfl).elim
      unfold Ia at a;split at a
      ·simp only[cond_eq_ite,b7]at a;exact o ⟨.inl rfl,a.1⟩ (by injection a.2)
      ·cases a
      ·rename_i i;simp only[cond_eq_ite,beq_eq,decide_eq_true_eq]at a;split at a
       ·rename_i hi;subst hi;simp only[b7]at a;exact o ⟨.inr rfl,a.1⟩ (by injection a.2)
       ·rename_i hi;split at a
        ·rename_i s;split at a
         ·cases a;exact m (.inr ⟨i,rfl,hi⟩) s rfl (.inl rfl)
         ·simp only[b7,dk,decide_eq_true_eq]at a;obtain⟨⟨y,u⟩,j⟩:=a;have:=zT u;subst this;subst y;injection j with j
          exact m (.inr ⟨i,rfl,hi⟩) s j.symm (.inr j)
         ·cases a
        ·cases a
      ·simp only[cond_eq_ite,b7]at a;obtain⟨s,a⟩:=a;split at a
       ·cases a;exact m (.inl rfl) s rfl (.inl rfl)
       ·simp only[b7]at a;obtain⟨u,j⟩:=a;have:=zT u;subst this;injection j with j
        exact m (.inl rfl) s j.symm (.inr j)
       ·cases a
     ·cases a
    ·cases a
   ·cases a
  ·cases a
theorem MR.at{ms:List MapEntry}(c:MR μ es ms):∀(i:Nat) (a:MapEntry),ms[i]? =some a->∃k v,es[i]? =some (k,v)/\VR μ k a.key/\VR μ v a.val:=by
 induction c with
 |nil=>intro i a b;simp at b
 |cons h1 h2 _ ih=>
  intro i a b;cases i with
  |zero=>simp at b;subst b;exact⟨_,_,rfl,h1,h2⟩
  |succ i=>exact ih i a (by simpa using b)
theorem AS.low{b':Nat}{d:Heap}(a:AS b' h1 d)(hb:b<=b'):AS b h1 d:=
 ⟨a.next,a.keys,λx c=>a.mono x (kz c hb),λx c=>a.same x (kz c hb)⟩
theorem vt{e:Env}:∀{l:List Nat} {t:Nat} {v:Value},geT (bU e l) t=some v->t∈l
 |y::l,t,v,hq=>by
  simp only[bU]at hq;split at hq
  ·simp only[geT,cond_eq_ite,beq_eq,decide_eq_true_eq]at hq;split at hq
   ·rename_i hy;subst hy;exact bx
   ·exact bu _ (vt hq)
  ·exact bu _ (vt hq)
theorem cW.zu(c:cW μ e a.tmps)(f:geT e d=none):cW μ e (a.put (some d) v).tmps:=by
 intro t u b;obtain⟨j,h,i⟩:=c t u b;refine⟨j,?_,i⟩;rw[ij];have:d≠t:=λg=>by subst g;rw[f]at b;cases b
 simp[this,h]
theorem DR.An{lo:Nat}{a:Dfs}{ms:List Deferred}(b:DR μ h w lo a ms){w':World}(c:∀(r:Nat) (x:Option (List Deferred)),w.heap[r]? =some (Obj.deferred x)->w'.heap[r]? =some (Obj.deferred x)):DR μ h w' lo a ms:=by
 induction b with
 |nil=>exact .nil
 |cons h1 h2 h3 _ ih=>exact .cons h1 h2 h3 ih
 |mark h1 h0 h2 h3 _ ih=>exact .mark h1 h0 (c _ _ h2) h3 ih
theorem DR.back{ms:List Deferred}(j:R P μ h w)(f:DR μ' h' w lo [] ms):DR μ h w lo [] ms:=by
 generalize hds:([]:Dfs)=ds at f;induction f with
 |nil=>exact .nil
 |cons h1 h2 h3 _ ih=>cases hds
 |mark h1 h0 h2 h3 _ ih=>
  refine .mark h1 h0 h2 (λ⟨b,o,k,g,i,n,d,e⟩=> ?_) (ih hds);have a:=j.obj b o g;cases o with
  |dead=>cases i
  |cells vs own sz=>obtain⟨_,c,l,m,z1,_⟩:=a k d;rw[e,h2]at z1;cases z1
  |map es=>obtain⟨_,_,z1,_⟩:=a k d;rw[e,h2]at z1;cases z1
  |sC es=>obtain⟨_,_,z1,_⟩:=a k d;rw[e,h2]at z1;cases z1
  |loop _ _ _ _ _ _=>obtain⟨_,z1,_⟩:=a k d;rw[e,h2]at z1;cases z1
  |nw _ _=>have z1:=(a k d).2;rw[e,h2]at z1;cases z1
theorem St.aaw(a:h.get m=some (.map es))(s:St μ (roM h m es) w μ (roM h m es) w'):St μ h w μ h w':=
 ⟨λ_ _=>rfl,s.le,λr c b=>s.keep r c λq=>b (q.UK a),λ_ _ q=>q,s.loops,s.same⟩
theorem St.CQ{μ0:Mu}{w0:World}(s:St μ0 c w0 μ h w){r:Nat}(hr:w0.heap.size<=r)(m:w'.heap.size=w.heap.size)(e:∀a,a≠r->w'.heap[a]? =w.heap[a]?)(b:Same w w'):St μ0 c w0 μ h w':=
 ⟨s.ext,by have:=s.le;omega,λa g i=>(e a (by omega)).trans (s.keep a g i),s.wr,λa L d=>by
  have j:a<w0.heap.size:=(Array.getElem?_eq_some_iff.1 d).1;obtain⟨f,k,l⟩:=s.loops a L d;exact⟨f,(e a (by omega)).trans k,l⟩,s.same.trans b⟩
structure V1 (P:Program) (μ0:Mu) (h0:Heap) (wI:World) (μI:Mu) (hI:Heap) (lo sz it r bm clock:Nat) (eo:Env) (ents:Array MapEntry) (es:List (Value×Value)) (C:Value×Value->Prop) (seen:Array Nat) (c0:Nat) (a:Act) (w:World):Prop where
 size:a.tmps.size=sz
 it:a.tmps[it]? =some (.pointer (some ⟨r,0,none⟩))
 env:cW μ0 eo a.tmps
 dr:DR μ0 h0 w lo [] a.defers
 rel:R P μ0 h0 w
 st:St μI hI wI μ0 h0 w
 iter:w.heap[r]? =some (.mapIter (some bm) clock seen c0)
 map:w.heap[bm]? =some (.map ents clock)
 c0:clock<=c0
 done:∀(i:Nat) (en:MapEntry) (p:Value×Value),ents.toList[i]? =some en->es[i]? =some p->seen.contains en.born=true->C p
theorem getElem?_lt_size{α:Type}{a:Array α}{i:Nat}{x:α}(h:a[i]? =some x):i<a.size:=(Array.getElem?_eq_some_iff.1 h).1
theorem OM(w:eV P T){n:Nat}{μ0:Mu}{a:Heap}{c f:World}{μ2:Mu}{e:Heap}{r:Nat}(h:a.get m=some (.map es))(i:R P μ0 a c)(p:r<c.heap.size)
 (j:AS (a.next+1) ((roM a m es).push .dead) h1)(l:AS (a.next+1) h1 e)(u:e.log=[])(o:R P μ2 e f)(t:St (upd μ0 a.next ⟨r,0,0,0⟩) ((roM a m es).push .dead) c μ2 e f):
 R P μ0 a f/\St μ0 a c μ0 a f/\(∀x,x<c.heap.size->¬Wr μ0 (roM a m es) x->f.heap[x]? =c.heap[x]?)/\(∀b k,μ0 b=some k->μ2 b=some k):=by
 have d:=(i.toRo h).dead p;have g:St μ0 (roM a m es) c μ2 e f:=d.2.trans t (Hc _);have s:AS (roM a m es).next (roM a m es) e:=(AS.push _ _ _).trans ((j.trans l).low (Hc _))
 obtain⟨v,q⟩:=R.forget (i.toRo h) o g s u;refine⟨R.UK i h v,q.aaw h,q.keep,g.mono (i.toRo h)⟩
theorem Q3(hT:eV P T)(hO:vQ P T n)(hE:nE P T n){μ0 μI:Mu}{y hI:Heap}{wI:World}{B r G f nx mo am nxt pr:Nat}{km:Blk}{eo:Env}{s:Array MapEntry}
 {O:List aZ}{k k2:List Nat}{ar:Option (bE×Env)}{c:Code}
 (eJ:oR (λe h=>gz T n (y.next+1) rnd O e [] h) (λe h=>cE T n (y.next+1) rnd body e [] h) nxt pr k2 (itE B y eo) eo ((roM y m es).push .dead) es=some ar)
 (hm:y.get m=some (.map es))(eh:μ0 m=some km)(du:km.r=G)(dp:MR μ0 es s.toList)(hB:u9 s.toList f)(J:∀b k,μ0 b=some k->k.r≠r)(ie:wI.heap.size<=r)(hn:hI.next<=y.next)
 (hc:gY P nt c (.seq (.region [⟨some nx, .next (.tmp B) false,none⟩,⟨some mo, .extract (.tmp nx) 0,none⟩] k) (.seq (.cond (.tmp mo) .skip (.exit am)) (.block nxt (.seq (.region (⟨some pr, .entry (.tmp B),none⟩::O) k2) body)))))
 (ae:nt<=sz)(lc:nx≠mo)(hJ:B≠nx)(gt:B≠mo)(K:geT eo nx=none/\geT eo mo=none)(ii:RdR μ0 rnd rd)(ke:lo<=wI.heap.size)
 (f7:ar=none->∀a w,Post P μI hI wI lo sz .normal eo [] y .normal a w->Q (.exit am) a w)
 (f9:∀i E,ar=some (.exit i,E)->∀a w,Post P μI hI wI lo sz (.exit i) E [] y (.exit i) a w->Q (.exit i) a w)
 (f8:∀E,ar=some (.ret,E)->∀a w,Post P μI hI wI lo sz .ret E [] y .ret a w->Q .ret a w):
 ∀(d:Nat) (u:Array Nat) (c0:Nat) (a:Act) (w:World),(leftOf s u).size<d→
  V1 P μ0 y wI μI hI lo sz B r G f eo s es (Rnd (λe h=>gz T n (y.next+1) rnd O e [] h) (λe h=>cE T n (y.next+1) rnd body e [] h) pr k2 (itE B y eo) ((roM y m es).push .dead) (λx E=>qc nxt (itE B y eo) E x)) u c0 a w→
  c.roundsIn (Fw rd) 0 P Q d a w:=by
 obtain⟨cX,cY⟩:=Az eJ;obtain⟨cs,cz,rfl,dC,ge⟩:=hc.inv;obtain⟨cc,cb,rfl,fw,fj⟩:=ge.inv;obtain⟨cx,cy,rfl,_,D,fY⟩:=fw.inv;have dE:cx= .skip∨∃l,cx= .label l:=D.inv;have:cy= .exit am:=fY.inv;subst this;obtain⟨cq,rfl,fX⟩:=fj.inv;obtain⟨ca,S,rfl,fg,a8⟩:=fX.inv;intro d;induction d with
 |zero=>intro u c0 a w hd;omega
 |succ d ih=>
  intro u c0 a w hd z;have aE:a.eval (.tmp B)= .pointer (some ⟨r,0,none⟩):=by
   show a.tmps.getD B undef=_;rw[ut,z.it];rfl
  refine wpIn_seq ?_;have dv:G≠r:=λhh=>J m km eh (du.trans hh);have bo:∀x∈s.toList,x.born<f:=λx hx=>hB.2 _ (List.mem_map_of_mem hx);have bj:∀v,cW μ0 eo (a.put (some nx) v).tmps:=λv=>z.env.zu K.1;rcases run_next_at (P:=P) w 0 r G f c0 u s f z.iter z.map bo z.c0 with⟨h0',_⟩|_
  ·
   have M:∀ty,(Instr.next (.pointer (some ⟨r,0,none⟩)) false ty).run P w= .ok (.tuple (.bool false::[]).toArray) w:=λty=>by
    rcases run_next_at (P:=P) w ty r G f c0 u s f z.iter z.map bo z.c0 with⟨_,q⟩|⟨A,W,_⟩
    ·exact q
    ·have:(leftOf s u).toList=[]:=by
      rw[←List.length_eq_zero_iff];simpa using h0'
     rw[this]at W;simp at W
   refine G8 dC (by rw[z.size];exact ae) aE M λi4 i6=> ?_;have eK:nx<(a.put (some nx) (.tuple (.bool false::[]).toArray)).tmps.size/\mo<(a.put (some nx) (.tuple (.bool false::[]).toArray)).tmps.size:=by
    rw[dP,z.size];omega
   refine wpIn_seq (wpIn_cond_false (rq eK.2) (wpIn_exit ?_));refine f7 (cY λp X=> ?_) _ _ ⟨μ0,trivial,z.rel,z.st,(bj _).zu K.2,?_,?_⟩
   ·obtain⟨i,hZ,i8⟩:=List.mem_iff_getElem.1 X;have hl:es.length=s.toList.length:=dp.length;have eI:i<s.toList.length:=by omega
    refine z.done i s.toList[i] p (a6 eI) (by rw[a6 hZ,i8]) ?_;exact all_seen s u h0' _ (yi _)
   ·rw[put_defers,put_defers];exact z.dr
   ·rw[dP,dP];exact z.size
  ·
   rename_i hround;obtain⟨A,W,w1,d9,Y⟩:=hround;have be:=mem_left W;have M:∀ty,(Instr.next (.pointer (some ⟨r,0,none⟩)) false ty).run P w= .ok (.tuple (.bool true::[A.key,A.val]).toArray) (setBlock w1 r (.mapIter (some G) f (u.push A.born) f)):=λty=>Y;have ik:r<w.heap.size:=getElem?_lt_size z.iter;have N:w1.heap=w.heap:=by rcases d9 with rfl|rfl<;>rfl
   have F:Same w w1:=by rcases d9 with rfl|rfl<;>exact⟨rfl,rfl,rfl,by first|exact bl _|exact ww _ _⟩
   generalize hw2:setBlock w1 r (.mapIter (some G) f (u.push A.born) f)=w2 at M;have g1:w2.heap.size=w.heap.size:=by rw[←hw2];simp[setBlock,N]
   have g2:∀r',r'≠r->w2.heap[r']? =w.heap[r']? :=λr' i5=>by
    rw[←hw2];simp[setBlock,N,gy,Ne.symm i5]
   have g3:w2.heap[r]? =some (.mapIter (some G) f (u.push A.born) f):=by
    rw[←hw2];simp[setBlock,N,gy,ik]
   have g4:Same w w2:=by rw[←hw2];exact⟨F.os,F.tape,F.out,F.drawn⟩
   clear hw2 Y F N d9;have R2:R P μ0 y w2:=z.rel.CQ J g1 g2;have S2:St μI hI wI μ0 y w2:=z.st.CQ ie g1 g2 g4;have D2:DR μ0 y w2 lo [] a.defers:=z.dr.An λr' x hx=>(g2 r' (λhh=>by rw[hh,z.iter]at hx;cases hx)).trans hx;have L:w2.heap[G]? =some (.map s f):=(g2 _ dv).trans z.map;obtain⟨j,hj,hY⟩:=List.mem_iff_getElem.1 be.1;have eg:s.toList[j]? =some A:=by rw[a6 hj,hY]
   obtain⟨kk,vv,X,io,ip⟩:=dp.at j A eg;have i9:(kk,vv)∈es:=bz X;obtain⟨e1,h1,x,E,h2,q1,q2,q3,q4⟩:=cX _ i9;refine G8 dC (by rw[z.size];exact ae) aE M λi4 i6=> ?_;generalize ha2:(a.put (some nx) (.tuple (.bool true::[A.key,A.val]).toArray)).put (some mo) (.bool true)=a2;have z1:a2.tmps.size=sz:=by rw[←ha2,dP,dP];exact z.size
   have z2:cW μ0 eo a2.tmps:=by rw[←ha2];exact(bj _).zu K.2
   have z3:a2.defers=a.defers:=by rw[←ha2,put_defers,put_defers]
   have z4:a2.eval (.tmp mo)= .bool true:=by rw[←ha2];exact rq (by rw[dP,z.size];omega)
   have z5:a2.tmps[B]? =some (.pointer (some ⟨r,0,none⟩)):=by
    rw[←ha2,ij,ij];simp[Ne.symm hJ,Ne.symm gt,z.it]
   clear ha2;have aw:∀{Q:Exit->Act->World->Prop} {a:Act} {w:World},Q .normal a w->cx.wpIn (Fw rd) 0 P Q a w:=λhq=>by
    rcases dE with rfl|⟨l,rfl⟩
    ·exact wpIn_skip hq
    ·exact wpIn_label hq
   refine wpIn_seq (wpIn_cond_true z4 (aw ?_));refine wpIn_block (wpIn_seq ?_);obtain⟨jz,C,rfl,V⟩:=fg.inv;refine wpIn_region ?_;cases hl:C.toList with
   |nil=>rw[hl]at V;simp[cD]at V
   |cons o1 l1=>
    have H:=V;rw[hl]at H;obtain⟨c1,c2,c3,c4,_⟩:=iP H;have il:C.size=l1.length+1:=by
     have:=congrArg List.length hl;simpa using this
    have e9:C[0]? =some o1:=by
     have:C.toList[0]? =some o1:=by rw[hl];rfl
     simpa using this
    have db:o1.op= .entry (.tmp B):=(ng c3).2.2.2 _ rfl;have ib:pr<nt:=by
     have:o1.dst=some pr:=c2.symm;rw[this]at c1;simpa[lX,Co]using c1
    have dT:a2.eval (.tmp B)= .pointer (some ⟨r,0,none⟩):=by
     show a2.tmps.getD B undef=_;rw[ut,z5];rfl
    rw[il,List.range_eq_range',List.range'_succ];refine rN e9 H (λc hh=>by rw[db]at hh;cases hh) (v:= .tuple #[A.key,A.val]) (w':=w2) ?_ ?_
    ·simp only[execOp,db,dT];have:=run_entry_at (P:=P) w2 r G f u s f A g3 L be.1 hB.1;simp[go,this]
    ·have dd:=(R2.toRo hm).dead (r:=r) (by omega);have Z:∀b k,μ0 b=some k->upd μ0 y.next ⟨r,0,0,0⟩ b=some k:=dd.2.mono (R2.toRo hm)
     have E0:cW (upd μ0 y.next ⟨r,0,0,0⟩) (itE B y eo) a2.tmps:=by
      intro t v hv;simp only[itE,geT,cond_eq_ite,beq_eq,decide_eq_true_eq]at hv;split at hv
      ·rename_i ht;subst ht;cases hv;exact⟨_,z5,VR.ptr (o:=0) (k:=⟨r,0,0,0⟩) (fE _ _ _)⟩
      ·exact(z2.mono Z) t v hv
     have E1:cW (upd μ0 y.next ⟨r,0,0,0⟩) ((pr, .tuple #[kk,vv])::itE B y eo) (a2.put (some pr) (.tuple #[A.key,A.val])).tmps:=
      cW.put (dst:=some pr) E0 (by simpa[lX,Co]using ib) (by rw[z1];exact ae) (VR.nS (.cons (io.mono Z) (.cons (ip.mono Z) .nil)))
     have dq:RdR (upd μ0 y.next ⟨r,0,0,0⟩) rnd rd:=ii.mono Z;have D3:DR (upd μ0 y.next ⟨r,0,0,0⟩) ((roM y m es).push .dead) w2 lo [] (a2.put (some pr) (.tuple #[A.key,A.val])).defers:=by
      rw[put_defers,z3];exact(DR.back (R2.toRo hm) D2).step dd.2 Z
     have ba:lo<=w2.heap.size:=by have:=z.st.le;omega
     have a7:=(fA.all hT.aM n).ops _ _ _ _ _ _ _ _ _ _ q1 (bl _);have f0:=(fA.all hT.aM n).exec _ _ _ _ _ _ _ _ _ _ q2 a7.next
     have ho:=hO _ _ _ _ _ _ _ _ _ _ q1 (bl _) C 1 l1.length nt _ w2 (a2.put (some pr) (.tuple #[A.key,A.val])) rd lo (by omega) (by rw[hl];simpa using c4) (by rw[dP,z1];exact ae) dd.1 E1 D3 dq ba;refine gQ (λex a3 w3 X=> ?_) _ _ _ ho;cases ex with
     |exit i=>obtain⟨_,g,_⟩:=X;exact g.elim
     |goto l=>obtain⟨_,g,_⟩:=X;exact g.elim
     |ret=>obtain⟨_,g,_⟩:=X;exact g.elim
     |panic ch=>obtain⟨_,g,_⟩:=X;exact g.elim
     |outgrown=>obtain⟨_,g,_⟩:=X;exact g.elim
     |normal=>
      obtain⟨μ1,_,p2,p3,p4,p5,p6⟩:=X;have i0:=p3.mono dd.1;have kd:a3.tmps.size=sz:=by rw[p6,dP];exact z1
      have he:=hE _ _ _ _ _ _ _ _ _ _ q2 a7.next S nt μ1 w3 a3 rd lo a8 (by omega) p2 (p4.keep k2) p5 (dq.mono i0) (ed ba p3.le)
      refine eR (λex a5 w5 i7=> ?_) he;obtain⟨μ2,x1,x2,x3,x4,x5,x6⟩:=i7.trans p3 a7.next
      obtain⟨y1,y2,y3,y4⟩:=OM hT (n:=n) hm R2 (by omega) a7 f0 q3 x2 x3;have ju:¬Wr μ0 (roM y m es) r:=λ⟨b,o,k',U,f2,f3,f4,f5⟩=>J b k' f4 f5;have jp:¬Wr μ0 (roM y m es) G:=λ⟨b,o,k',U,f2,f3,f4,f5⟩=>by
       rw[nq hm]at U;split at U
       ·cases U;cases f3
       ·rename_i hbm';have:=z.rel.lJ b m o _ k' km hbm' U hm f2 rfl f4 eh (f5.trans du.symm);cases this.2
      have fd:G<w2.heap.size:=getElem?_lt_size L;have u7:w5.heap[r]? =some (.mapIter (some G) f (u.push A.born) f):=(y3 r (by omega) ju).trans g3;have u8:w5.heap[G]? =some (.map s f):=(y3 G fd jp).trans L;have u5:a5.tmps.size=sz:=x6.trans kd;have S5:St μI hI wI μ0 y w5:=S2.trans y2 hn;have D5:DR μ0 y w5 lo [] a5.defers:=DR.back y1 x5;have da:zm eo E=true->cW μ0 E a5.tmps:=λho t v hv=>by
       obtain⟨v',U,f2⟩:=x4 t v hv;refine⟨v',U,?_⟩;rcases Ck ho t v (BS hv)with hf|hf
       ·rw[(VR.flat hf).2 _ f2];exact(VR.flat hf).1
       ·obtain⟨v0,_,f3⟩:=z.env t v hf;exact f3.inj y4 f2▸f3
      have dj:qc nxt (itE B y eo) E x->V1 P μ0 y wI μI hI lo sz B r G f eo s es (Rnd (λe h=>gz T n (y.next+1) rnd O e [] h) (λe h=>cE T n (y.next+1) rnd body e [] h) pr k2 (itE B y eo) ((roM y m es).push .dead) (λx E=>qc nxt (itE B y eo) E x)) (u.push A.born) f a5 w5:=λD=>by
       have cd:=D.2;refine⟨u5,?_,λt v hv=> ?_,D5,y1,S5,u7,u8,bl _,λi cf p' cj cJ d8=> ?_⟩
       ·obtain⟨v',U,f2⟩:=x4 B _ (Da cd B _ bx);cases f2 with
        |ptr hk=>
         rename_i k';rw[x3.ext y.next (ec _)]at hk;replace hk:upd μ0 y.next ⟨r,0,0,0⟩ y.next=some k':=hk
         rw[fE]at hk;cases hk;exact U
       ·obtain⟨v',U,f2⟩:=x4 t v (Da cd t v (bu _ (BS hv)));obtain⟨v0,_,f3⟩:=z.env t v hv;exact⟨v',U,f3.inj y4 f2▸f3⟩
       ·rw[contains_push]at d8;by_cases hse:u.contains cf.born=true
        ·exact z.done i cf p' cj cJ hse
        ·have fb:cf.born=A.born:=by
          simp only[Bool.not_eq_true]at hse;rw[hse]at d8;simpa using d8
         have gg:i=j:=by
          refine(List.getElem?_inj (l:=s.toList.map (·.born)) ?_ hB.1).1 ?_
          ·rw[hS];exact(List.getElem?_eq_some_iff.1 cj).1
          ·rw[xc,xc,cj,eg];simp[fb]
         subst gg;rw[X]at cJ;cases cJ;exact⟨e1,h1,x,E,h2,q1,q2,q3,D⟩
      have next:qc nxt (itE B y eo) E x->Code.roundsIn (Fw rd) 0 P (Code.seq cs (Code.seq (Code.cond (.tmp mo) cx (.exit am)) (Code.block nxt (Code.seq (Code.region jz C false) S)))) Q d a5 w5:=λD=>
       ih _ _ _ _ (by have:=left_shrinks s u A W;omega) (dj D)
      rcases q4 with D|⟨hx,ho,hr⟩
      ·have eQ:=next D
       rcases D.1 with rfl|rfl
       ·cases ex with
        |normal=>exact eQ
        |_=>exact x1.elim
       ·cases ex with
        |exit i=>
         have:nxt=i:=x1;subst this;simp only[Exit.then,Exit.inBlock,if_true];exact eQ
        |_=>exact x1.elim
      ·have E5:=da ho;rcases hx with rfl|⟨i,rfl,hine⟩
       ·cases ex with
        |ret=>exact f8 E hr _ _ ⟨μ0,trivial,y1,S5,E5,D5,u5⟩
        |_=>exact x1.elim
       ·cases ex with
        |exit i'=>
         have:i=i':=x1;subst this;simp only[Exit.then,Exit.inBlock,if_neg hine];exact f9 i E hr _ _ ⟨μ0,rfl,y1,S5,E5,D5,u5⟩
        |_=>exact x1.elim
theorem iL{l:List Nat}(h:t ∉ l):geT (bU e l) t=none:=by
 cases hq:geT (bU e l) t with
 |none=>rfl
 |some v=>exact(h (vt hq)).elim
theorem GR(hT:eV P T)(hO:vQ P T n)(hE:nE P T n):∀base C ops F ox keep H G pr A k2 z e ds h x N u E,cE T (n+1) base C (.rangeMap ops F ox keep H G pr A k2 z) e ds h=some (x,N,u,E)->base<=h.next→
 ∀c nt μ w (a:Act) rd M,gY P nt c (.rangeMap ops F ox keep H G pr A k2 z)->nt<=a.tmps.size->R P μ h w->cW μ e a.tmps->DR μ h w M ds a.defers->RdR μ C rd->M<=w.heap.size->c.wpIn (Fw rd) 0 P (Post P μ h w M a.tmps.size x N u E) a w:=by
 intro base C ops F ox keep H G pr A k2 z e ds h x N u E f hb c nt μ w a rd M hc ar hR bj hD aw am;simp only[cE]at f;obtain⟨cy,cz,dp,nx,mo,k,db,rfl,cj,hu,cJ,d9,cY,cX,y⟩:=hc.inv;obtain⟨id,j,rfl,cf⟩:=cj.inv;refine wpIn_seq (wpIn_region ?_);obtain⟨l0,o,hl,hc0,O⟩:=qj cf hu;have da:j.size=l0.length+1:=by
  have:=congrArg List.length hl;simpa using this
 have K:j[l0.length]? =some o:=by
  have:j.toList[l0.length]? =some o:=by rw[hl];simp
  simpa using this
 rw[da,PH,List.range_eq_range'];refine kE _ _ _ _ ?_;have run:∀x N u E,gz T n base C ops e ds h=some (x,N,u,E)->wpOpsIn (Fw rd) 0 P j (Post P μ h w M a.tmps.size x N u E) (List.range' 0 l0.length) a w:=λx N u E hq=>
  hO _ _ _ _ _ _ _ _ _ _ hq hb j 0 l0.length nt μ w a rd M (by omega) (by rw[hl];simpa using hc0) ar hR bj hD aw am
 split at f
 ·rename_i e0 ds0 h0 hq;have hA:=(fA.all hT.aM n).ops _ _ _ _ _ _ _ _ _ _ hq hb;refine gQ (λex V D s=> ?_) _ _ _ (run _ _ _ _ hq);cases ex with
  |exit i=>obtain⟨_,g,_⟩:=s;exact g.elim
  |goto l=>obtain⟨_,g,_⟩:=s;exact g.elim
  |ret=>obtain⟨_,g,_⟩:=s;exact g.elim
  |panic ch=>obtain⟨_,g,_⟩:=s;exact g.elim
  |outgrown=>obtain⟨_,g,_⟩:=s;exact g.elim
  |normal=>
   obtain⟨μ1,_,S,p3,p4,p5,p6⟩:=s;have d8:=p3.mono hR;have Z:=O;obtain⟨c1,c2,c3,_,_⟩:=iP Z;obtain⟨ty,kt,et,eo,aE,ba⟩:=(ng c3).1 _ rfl;have dj:F<nt:=by
    have:o.dst=some F:=c2.symm;rw[this]at c1;simpa[lX,Co]using c1
   have L:F<V.tmps.size:=by omega
   obtain⟨cq,rfl,cd⟩:=cJ.inv;obtain⟨cl,rfl,Y⟩:=cd.inv;have B:F ∉ keep/\nx ∉ keep/\mo ∉ keep:=⟨λq=>(y _ q).1 rfl,λq=>(y _ q).2.1 rfl,λq=>(y _ q).2.2 rfl⟩;split at f
   ·cases f
   ·split at f
    ·
     rename_i hx;cases f;have g:=cV S p4 ba hx;generalize hev:V.eval ox=xv at g;cases g;refine rN K O (λc hh=>by rw[eo]at hh;cases hh) (v:= .pointer (some ⟨D.heap.size,0,none⟩)) (w':=D.alloc (.mapIter none 0 #[] 0)) ?_ ?_
     ·simp only[execOp,eo,hev];simp[go,run_range_nilMap D ty kt et aE]
     ·obtain⟨j1,j2⟩:=S.An (w':=D.alloc (.mapIter none 0 #[] 0)) rfl;have a8:(V.put (some F) (.pointer (some ⟨D.heap.size,0,none⟩))).eval (.tmp F)= .pointer (some ⟨D.heap.size,0,none⟩):=rq L;refine wpIn_block (wpIn_loop_rounds 1 ?_);rw[roundsIn_succ];obtain⟨dq,du,rfl,W,X⟩:=Y.inv;obtain⟨cc,cb,rfl,bo,dv⟩:=X.inv;obtain⟨cx,be,rfl,_,dC,a7⟩:=bo.inv;have:be= .exit H:=a7.inv;subst this;refine wpIn_seq ?_;refine G8 W (by rw[dP];omega) a8 (b:=false) (l:=[]) (λt=>run_next_nilMap D t 0 0 #[]) λdE dT=> ?_;refine wpIn_seq (wpIn_cond_false (rq (by rw[dP,dP];omega)) (wpIn_exit ?_));simp only[Exit.then,Exit.inBlock,if_true];refine⟨μ1,trivial,j1,p3.trans j2 hA.next,(((p4.keep keep).zu (iL B.1)).zu (iL B.2.1)).zu (iL B.2.2),?_,?_⟩
      ·rw[put_defers,put_defers,put_defers];exact p5.step j2 (λ_ _ h=>h)
      ·rw[dP,dP,dP];exact p6
    ·
     rename_i m hx;split at f
     ·rename_i es hmg;obtain⟨rfl,rfl⟩:=HN f;have g:=cV S p4 ba hx;generalize hev:V.eval ox=xv at g;cases g with
      |map hkm=>
       rename_i km;obtain⟨J,d,z1,z2,z3⟩:=S.obj m _ hmg km hkm;refine rN K O (λc hh=>by rw[eo]at hh;cases hh) (v:= .pointer (some ⟨D.heap.size,0,none⟩)) (w':=D.alloc (.mapIter (some km.r) d #[] d)) ?_ ?_
       ·simp only[execOp,eo,hev];simp[go,run_range_map D ty kt et km.r J d aE z1]
       ·obtain⟨j1,j2⟩:=S.An (w':=D.alloc (.mapIter (some km.r) d #[] d)) rfl;have Q:∀b k,μ1 b=some k->k.r≠D.heap.size:=λb k hb=>by have:=(S.dom b k hb).2;omega
        have ae:=(S.dom m km hkm).2;generalize hres:oR (λe h=>gz T n (E.next+1) C A e [] h) (λe h=>cE T n (E.next+1) C z e [] h) G pr k2 (itE F E (bU e0 keep)) (bU e0 keep) ((roM E m es).push .dead) es=R1 at f;cases R1 with
        |none=>cases f
        |some res=>
         refine wpIn_block (wpIn_loop_rounds ((leftOf J #[]).size+1) ?_);refine Q3 hT hO hE (wI:=w) (μI:=μ) (hI:=h) (lo:=M) (sz:=a.tmps.size) hres hmg hkm rfl z2 z3 Q p3.le hA.next Y ar d9 cY cX ⟨iL B.2.1,iL B.2.2⟩ (aw.mono d8) am ?_ ?_ ?_ _ #[] d _ _ (ec _) ?_
         ·intro hr a' U s;subst hr;cases f;simp only[Exit.then,Exit.inBlock,if_true];exact s
         ·intro i e2 hr a' U s;subst hr;simp only[LN,cond_eq_ite,beq_eq,decide_eq_true_eq]at f;split at f
          ·rename_i hio;cases f;simp only[Exit.then,Exit.inBlock,if_pos hio];obtain⟨μ',q1,q2⟩:=s;exact⟨μ',trivial,q2⟩
          ·rename_i hio;cases f;simp only[Exit.then,Exit.inBlock,if_neg hio];exact s
         ·intro e2 hr a' U s;subst hr;cases f;simp only[Exit.then,Exit.inBlock];exact s
         ·refine⟨by rw[dP];exact p6,?_,(p4.keep keep).zu (iL B.1),?_,j1,p3.trans j2 hA.next,?_,?_,bl _,λi en p _ _ hs=> ?_⟩
          ·rw[ij];simp[L]
          ·rw[put_defers];exact p5.step j2 (λ_ _ h=>h)
          ·exact heap_alloc_new _ _
          ·exact(heap_alloc_old _ _ ae).trans z1
          ·simp at hs
     ·cases f
    ·cases f
 ·rename_i hne;refine gQ (λex V D s=> ?_) _ _ _ (run _ _ _ _ f);cases ex with
  |normal=>have:=s.normal;subst this;exact(hne _ _ _ f).elim
  |_=>exact s
structure tS (P:Program) (T:Nat->Option an) (n:Nat):Prop where
 exec:nE P T n
 loop:ve P T n
 ops:vQ P T n
 draw:oK P T n
 jZ:rO P T n
 call:vc P T n
 unw:Au P T n
 defer:tT P T n
 iX:rP P T n
 nO:vf P T n
theorem tS.zero:tS P T 0 where
 exec:=λ_ _ _ _ _ _ _ _ _ _ h=>by simp[cE]at h
 loop:=λ_ _ _ _ _ _ _ _ _ _ h=>by simp[cE]at h
 ops:=λ_ _ _ _ _ _ _ _ _ _ h=>by simp[gz]at h
 draw:=λ_ _ _ _ _ _ _ _ _ _ h=>by simp[ef]at h
 jZ:=λ_ _ _ _ _ h=>by simp[gU]at h
 call:=λ_ _ _ _ _ h=>by simp[iS]at h
 unw:=λ_ _ _ _ _ _ _ _ h=>by simp[nV]at h
 defer:=λ_ _ _ _ _ _ h=>by simp[jY]at h
 iX:=λ_ _ _ _ _ _ _ _ _ h=>by simp[gV]at h
 nO:=λ_ _ _ _ _ _ _ _ _ h=>by simp[iV]at h
theorem tS.succ(b:eV P T){n:Nat}(a:tS P T n):tS P T (n+1):=
 have c:=ve.succ b a.exec a.loop
 {exec:=nE.Yt b a.exec a.ops (a.draw.ok b) c (GR b a.ops a.exec) (RV b a.call)
  loop:=c
  ops:=vQ.succ b a.ops a.jZ
  draw:=oK.succ b a.draw a.jZ
  jZ:=rO.succ b a.exec a.call
  call:=vc.succ b a.exec a.unw
  unw:=Au.succ b a.unw a.defer
  defer:=tT.succ b a.iX
  iX:=rP.succ b a.iX a.nO
  nO:=vf.succ b a.nO}
theorem tS.all(a:eV P T):∀n,tS P T n
 |0=> .zero
 |n+1=> .succ a (tS.all a n)
theorem FT(c:eV P T){f:Nat}{args:List Value}{a:Res}(h1:iS T n f args h=some (a,h'))(e:h.log=[]){args':List Value}(b:R P μ h w)(d:LR μ args args'):
 pS P (iy P μ h w a h') ((callFunc f args'.toArray).run P w):=(tS.all c n).call _ _ _ _ _ h1 e _ _ _ b d
theorem mX(b:eV P T){f:Nat}{args:List Value}{a:Res}(h1:iS T n f args h=some (a,h'))(g:h.log=[])(e:iD (T f)=false){args':List Value}(c:R P μ h w)(d:LR μ args args'):
 Calls P f args'.toArray w (iy P μ h w a h'):=by
 have:=FT b h1 g c d;rw[kr b e]at this;exact callsIn_wide.1 this
end Go.A
end
