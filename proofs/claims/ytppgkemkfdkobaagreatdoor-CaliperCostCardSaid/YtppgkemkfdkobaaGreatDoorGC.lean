/- The runs of the machine are sound. -/
import Derived.Test.YtppgkemkfdkobaaGreatDoorGB
import Derived.RangeFuncLeaves
import Derived.RangeFuncCalls
import Derived.RecoverIn
import Derived.LoopNIn
import Derived.Scope
import Derived.OrdersIn
import Derived.Maps.RangeRun
set_option linter.all false
section
namespace Go.A
variable {P:Program} {μ:Mu} {h:Heap} {w:World} {e:Env} {a:Act} {base:Nat}
def kindOk(ao:AOp):dI->Prop
 | .val _ _=>True
 | .call _ _ _=>∃f as,ao= .call f as
 | .lI _ _=>∃f as,ao= .lI f as
 | .panic _ _=>∃x,ao= .wC x
 | .recover=>ao= .recover
variable{out:dI}
def mb{a:AOp}{x:Option (Value×Heap)}(h1:fW x=some out):kindOk a out:=by
 cases x with
 |none=>cases h1
 |some p=>cases h1;trivial
def nD{b:AOp}(h1:aop h base e b=some out):kindOk b out:=by
 cases b;case call f as=>
  cases out<;>first|trivial|exact⟨_,_,rfl⟩|skip
  all_goals
   simp only[aop]at h1;split at h1
   ·unfold rX at h1;repeat' split at h1
    all_goals cases h1
   ·cases h1
 case lI f as=>
  cases out<;>first|trivial|exact⟨_,_,rfl⟩|skip
  all_goals
   simp only[aop]at h1;repeat' split at h1
   all_goals cases h1
 case wC x=>
  cases out<;>first|trivial|exact⟨_,rfl⟩|skip
  all_goals
   obtain⟨v,_,a⟩:=aD h1;split at a<;>cases a
 case recover=>cases h1;rfl
 case mov=>obtain⟨v,_,a⟩:=aD h1;cases a;trivial
 case box=>obtain⟨v,_,a⟩:=aD h1;cases a;trivial
 case jw=>obtain⟨v,_,a⟩:=aD h1;cases a;trivial
 case un=>obtain⟨v,_,a⟩:=aD h1;obtain⟨v,_,a⟩:=aD a;cases a;trivial
 case load=>obtain⟨v,_,a⟩:=aD h1;obtain⟨v,_,a⟩:=aD a;cases a;trivial
 case conv=>obtain⟨v,_,a⟩:=aD h1;exact mb a
 case store=>
  obtain⟨v,_,a⟩:=aD h1;obtain⟨v,_,a⟩:=aD a;split at a<;>cases a;trivial
 case cT=>
  obtain⟨v,_,a⟩:=aD h1;split at a<;>cases a;trivial
 case bin op x y=>
  cases op;case num=>
   obtain⟨v,_,a⟩:=aD h1;obtain⟨v,_,a⟩:=aD a;obtain⟨v,_,a⟩:=aD a;cases a;trivial
  case beq=>simp only[aop]at h1;split at h1<;>cases h1;trivial
  case nil=>
   obtain⟨v,_,a⟩:=aD h1;obtain⟨v,_,a⟩:=aD a;split at a<;>cases a;trivial
  case agg=>
   obtain⟨v,_,a⟩:=aD h1;obtain⟨v,_,a⟩:=aD a;split at a
   ·split at a<;>cases a;trivial
   ·cases a
 case pick=>
  simp only[aop]at h1;split at h1
  ·obtain⟨v,_,a⟩:=aD h1;cases a;trivial
  ·obtain⟨v,_,a⟩:=aD h1;cases a;trivial
  ·cases h1
 case slice k x lo hi mx=>
  cases k<;>cases mx<;>simp only[aop]at h1
  ·repeat' split at h1
   all_goals first|(cases h1;done)|skip
   simp only[cond_eq_ite,ec]at h1;obtain⟨_,h1⟩:=h1;cases h1;trivial
  ·cases h1
  all_goals
   split at h1
   ·exact mb h1
   ·cases h1
 case len k x=>
  match k with
  |0=>simp only[aop]at h1;split at h1<;>cases h1;trivial
  |1=>simp only[aop]at h1;split at h1<;>cases h1;trivial
  |k+2=>
   simp only[aop]at h1;split at h1
   ·cases h1;trivial
   ·split at h1<;>cases h1;trivial
   ·cases h1
 case append=>
  simp only[aop]at h1;split at h1
  ·split at h1
   ·exact mb h1
   ·cases h1
  ·cases h1
 case oh=>
  simp only[aop]at h1;split at h1
  ·split at h1
   ·simp only[cond_eq_ite,ec]at h1;exact mb h1.2
   ·cases h1
  ·cases h1
 case next x s=>
  cases s
  ·cases h1
  ·simp only[aop]at h1;repeat' split at h1
   all_goals first|(cases h1;done)|skip
   simp only[cond_eq_ite]at h1;split at h1<;>cases h1<;>trivial
 case dx=>simp only[aop]at h1;repeat' split at h1
          all_goals first|(cases h1;done)|(simp only[cond_eq_ite,ec]at h1;obtain⟨_,h1⟩:=h1;cases h1;trivial)
 case aC=>simp only[aop]at h1;repeat' split at h1
          all_goals first|(cases h1;done)|(simp only[cond_eq_ite,ec]at h1;obtain⟨_,h1⟩:=h1;cases h1;trivial)
 case oR=>cases h1;trivial
 case new=>cases h1;trivial
 case mkMap=>cases h1;trivial
 all_goals
  revert h1;simp only[aop,cond_eq_ite];intro h1;repeat' split at h1
  all_goals first
   |(cases h1;done)
   |(cases h1;trivial)
   |(obtain⟨v,_,a⟩:=aD h1;cases a;trivial)
   |(exact mb h1)
variable{o:Oper}{v:Value}{h':Heap}
def VX(u:R P μ h w)(q:dH μ e a.tmps){F:AOp}{c:Call}(A:o.op= .call c)(g:iy P o.op=some F)(h1:aop h base e F=some (.val v h')):
 Ran P μ h w base ((execOp a.eval o).run P w) v h':=by
 unfold iy at g;split at g
 ·rename_i hall;rw[A]at g hall;dsimp only at g;cases hcal:c.callee with
  |value f=>
   rw[hcal]at g;cases g;simp only[aop]at h1;split at h1
   ·unfold rX at h1;repeat' split at h1
    all_goals cases h1
   ·cases h1
  |invoke r nm=>rw[hcal]at g;cases g
  |builtin b=>
   rw[hcal]at g;dsimp only at g;have j:c.args.toList.all (aP P)=true:=by
    simp only[Op.operands,Call.operands,hcal,Sx,QQ,gk]at hall;exact hall.2
   have D:∃G,(execOp a.eval o).run P w=(builtin b c.argTypes o.type G (c.args.map a.eval)).run P w:=⟨_,by
    simp[execOp,A,resolve,hcal,invoke];rfl⟩
   obtain⟨G,D⟩:=D;rw[D];have l:∀{x:Operand},c.args.toList=[x]->(c.args.map a.eval)[0]? =some (a.eval x)/\aP P x=true:=λ{x} i=>by
    rw[i]at j;refine⟨?_,by simpa using j⟩;rw[←Array.getElem?_toList,Array.toList_map,i];rfl
   have p:∀{x y:Operand},c.args.toList=[x,y]->(c.args.map a.eval)[0]? =some (a.eval x)/\(c.args.map a.eval)[1]? =some (a.eval y)/\aP P x=true/\aP P y=true:=λ{x y} i=>by
    rw[i]at j;refine⟨?_,?_,by simpa using j⟩
    ·rw[←Array.getElem?_toList,Array.toList_map,i];rfl
    ·rw[←Array.getElem?_toList,Array.toList_map,i];rfl
   have B:∀{x:TypeId},c.argTypes.toList=[x]->c.argTypes[0]? =some x:=λ{x} i=>by rw[←Array.getElem?_toList,i];rfl
   have E:∀{x y:TypeId},c.argTypes.toList=[x,y]->c.argTypes[0]? =some x/\c.argTypes[1]? =some y:=λ{x y} i=>by
    rw[←Array.getElem?_toList,←Array.getElem?_toList,i];exact⟨rfl,rfl⟩
   split at g
   ·rename_i t x ht i;have:=B ht;have:=l i;split at g
    ·cases g;exact ei (Hs (ts:=c.argTypes) (ty:=o.type) (xs:=c.args.map a.eval) u q (B ht) (l i).1 (.inl ⟨rfl,τ⟩) (l i).2 h1) (by simp[builtin])
    ·cases g;exact ei (Hs (ts:=c.argTypes) (ty:=o.type) (xs:=c.args.map a.eval) u q (B ht) (l i).1 (.inr (.inl ⟨rfl,_,τ⟩)) (l i).2 h1) (by simp[builtin])
    ·cases g;exact ei (Hs (ts:=c.argTypes) (ty:=o.type) (xs:=c.args.map a.eval) u q (B ht) (l i).1 (.inr (.inr ⟨rfl,_,_,τ⟩)) (l i).2 h1) (by simp[builtin])
    ·cases g
    ·split at g
     ·cases g
     ·cases g
    ·cases g
   ·rename_i t x ht i;split at g
    ·cases g
    ·cases g
   ·rename_i st xt s x ht i;split at g
    ·split at g
     ·rename_i z b n hz hb C;split at g
      ·rename_i hcc;cases g
      ·cases g
     ·cases g
    ·rename_i el xd hni hst hxt;split at g
     ·rename_i n b z C hb hz;split at g
      ·rename_i hcc;cases g;exact ei (Kw (ts:=c.argTypes) (ty:=o.type) (xs:=c.args.map a.eval) u q (E ht).1 (E ht).2 (p i).1 (p i).2.1 τ τ (λk H=>hni k H) C hb hz hcc.1 hcc.2.1 hcc.2.2.1 (p i).2.2.1 (p i).2.2.2 h1) (by simp[builtin])
      ·cases g
     ·cases g
    ·cases g
   ·rename_i dt xt d s ht i;split at g
    ·obtain⟨n,C,rfl⟩:=fq g;exact ei (Sy (ts:=c.argTypes) (ty:=o.type) (xs:=c.args.map a.eval) u q (E ht).1 (p i).1 (p i).2.1 τ C (p i).2.2.1 (p i).2.2.2 h1) (by simp[builtin])
    ·cases g
   ·split at g
    ·rename_i h2;cases g;exact ei (BI (ts:=c.argTypes) (ty:=o.type) (mx:=true) u q j h2 h1) (by simp[builtin])
    ·cases g
   ·split at g
    ·rename_i h2;cases g;exact ei (BI (ts:=c.argTypes) (ty:=o.type) (mx:=false) u q j h2 h1) (by simp[builtin])
    ·cases g
   ·rename_i mt xt m k ht i;split at g
    ·split at g
     ·rename_i hl;cases g
     ·cases g
    ·cases g
   ·rename_i t x ht i;split at g
    ·split at g
     ·rename_i z hz;split at g
      ·rename_i hs;cases g;exact ei (OF (ts:=c.argTypes) (ty:=o.type) (xs:=c.args.map a.eval) u q (B ht) (l i).1 τ hz hs (l i).2 h1) (by simp[builtin])
      ·cases g
     ·cases g
    ·cases g
   ·cases g;cases h1
   ·cases g
 ·cases g
variable{f:AOp}
def Jd(i:R P μ h w)(g:dH μ e a.tmps)(j:iy P o.op=some f)(h1:aop h base e f=some (.val v h')):
 Ran P μ h w base ((execOp a.eval o).run P w) v h':=by
 by_cases b:∃c,o.op= .call c
 ·obtain⟨c,b⟩:=b;exact VX i g b j h1
 ·exact VW i g j h1 λc d=>b ⟨c,d⟩
variable{op:Op}
def kH{e:AOp}(a:iy P op=some e):
 (∀f as,e= .call f as->∃c,op= .call c/\c.callee= .value f/\c.args.toList=as/\aP P f=true/\as.all (aP P)=true)∧
 (∀f as,e= .lI f as->∃c,op= .defer c/\c.callee= .value f/\c.args.toList=as/\aP P f=true/\as.all (aP P)=true)∧
 (∀x,e= .wC x->op= .panic x/\aP P x=true)/\(e= .recover->∃c,op= .call c/\c.callee= .builtin .recover):=by
 unfold iy at a;split at a
 ·rename_i hall;have l:∀(c:Call) (f:Operand),c.callee= .value f->c.operands.toList.all (aP P)=true->aP P f=true/\c.args.toList.all (aP P)=true:=λc f d i=>by
   simp only[Call.operands,d,Sx,QQ,gk]at i;exact⟨by simpa using i.1,i.2⟩
  cases op<;>(try dsimp only at a)
  case call c=>
   split at a
   ·rename_i f d;cases a;obtain⟨j,k⟩:=l c f d hall;refine⟨λg as h=> ?_,λg as h=>(by cases h),λx h=>(by cases h),λh=>(by cases h)⟩;cases h;exact⟨c,rfl,d,rfl,j,k⟩
   ·cases a
   ·rename_i b hb;repeat' split at a
    all_goals first
     |(cases a;done)
     |(cases a;exact⟨λ_ _ h=>(by cases h),λ_ _ h=>(by cases h),λ_ h=>(by cases h),λ_=>⟨c,rfl,hb⟩⟩)
     |(cases a;exact⟨λ_ _ h=>(by cases h),λ_ _ h=>(by cases h),λ_ h=>(by cases h),λh=>(by cases h)⟩)
     |(obtain⟨_,_,rfl⟩:=fq a;exact⟨λ_ _ h=>(by cases h),λ_ _ h=>(by cases h),λ_ h=>(by cases h),λh=>(by cases h)⟩)
  case defer c=>
   split at a
   ·rename_i f d;cases a;obtain⟨j,k⟩:=l c f d hall;refine⟨λg as h=>(by cases h),λg as h=> ?_,λx h=>(by cases h),λh=>(by cases h)⟩;cases h;exact⟨c,rfl,d,rfl,j,k⟩
   ·cases a
  case panic x=>
   cases a;refine⟨λg as h=>(by cases h),λg as h=>(by cases h),λx h=> ?_,λh=>(by cases h)⟩;cases h;exact⟨rfl,by simpa[Op.operands]using hall⟩
  all_goals
   repeat' split at a
   all_goals first
    |contradiction
    |(cases a;done)
    |(cases a;exact⟨λ_ _ h=>(by cases h),λ_ _ h=>(by cases h),λ_ h=>(by cases h),λh=>(by cases h)⟩)
    |(obtain⟨_,_,rfl⟩:=fq a;exact⟨λ_ _ h=>(by cases h),λ_ _ h=>(by cases h),λ_ h=>(by cases h),λh=>(by cases h)⟩)
 ·cases a
variable{fn:Fn}
def Dc(y:R P μ h w)(x:dH μ e a.tmps){u:AOp}(B:iy P o.op=some u){args:List Value}(h1:aop h base e u=some (.call fn args h')):
 h'=h/\(∀c,o.op≠ .defer c)/\∃args',LR μ args args'∧((∃g,fn= .func g/\(execOp a.eval o).run P w=(callFunc g args'.toArray).run P w)∨
  (∃l k,fn= .yield l/\μ l=some k/\(execOp a.eval o).run P w=(Instr.yield k.r args'.toArray).run P w)):=by
 obtain⟨f,as,rfl⟩:=nD h1;obtain⟨c,d,i,rfl,C,s⟩:=(kH B).1 f as rfl;simp only[aop]at h1;split at h1
 ·rename_i fv av hfv hav;have p:=dF y x C hfv;have v:=we y x s hav;have q:(c.args.map a.eval).toList=c.args.toList.map a.eval:=by simp
  generalize hev:a.eval f=fv' at p;unfold rX at h1;split at h1
  ·rename_i g first cap
   cases h1;obtain⟨A,j,n,rfl,m,t,z⟩:=p.rY;cases m;refine⟨rfl,(λn b=>by rw[d]at b;cases b),(j.toList++(c.args.toList.map a.eval++n.toList)),?_, .inl ⟨g,rfl,?_⟩⟩
   ·rw[dS,dS];exact t.append (v.append z)
   ·have:(j.toList++(c.args.toList.map a.eval++n.toList)).toArray=j++c.args.map a.eval++n:=by apply fm;simp
    rw[this];simp[execOp,d,resolve,i,hev,Deferred.ofValue,invoke]
  ·rename_i l first cap
   split at h1
   ·rename_i hcap;cases h1;obtain⟨A,j,n,rfl,m,t,z⟩:=p.rY;cases m with
    |yield hk=>
     rename_i k;refine⟨rfl,(λn b=>by rw[d]at b;cases b),(j.toList++c.args.toList.map a.eval),?_, .inr ⟨l,k,rfl,hk,?_⟩⟩
     ·rw[dS];exact t.append v
     ·have:(j.toList++c.args.toList.map a.eval).toArray=j++c.args.map a.eval:=by apply fm;simp
      rw[this];simp[execOp,d,resolve,i,hev,Deferred.ofValue,invoke]
   ·cases h1
  ·cases h1
 ·cases h1
def Sz(n:R P μ h w)(m:dH μ e a.tmps){k:AOp}(s:iy P o.op=some k){f:Value}{args:List Value}(h1:aop h base e k=some (.lI f args)):
 ∃g first cap first' cap' args',f= .func (.func g) first cap/\LR μ first.toList first'.toList/\LR μ cap.toList cap'.toList/\LR μ args args'∧
  (execOp a.eval o).run P w= .ok (.defer {target:= .fn (.func g) cap',args:=first'++args'.toArray}) w:=by
 obtain⟨f,as,rfl⟩:=nD h1;obtain⟨c,j,b,rfl,t,d⟩:=(kH s).2.1 f as rfl;simp only[aop]at h1;split at h1
 ·rename_i g first cap av hfv hav
  cases h1;have l:=dF n m t hfv;have r:=we n m d hav;generalize hev:a.eval f=fv' at l;obtain⟨x,p,q,rfl,i,u,v⟩:=l.rY;cases i;refine⟨g,first,cap,p,q,_,rfl,u,v,r,?_⟩;have:c.args.map a.eval=(c.args.toList.map a.eval).toArray:=by apply fm;simp
  simp[execOp,j,resolve,b,hev,Deferred.ofValue,this]
 ·cases h1
def OK(j:R P μ h w)(i:dH μ e a.tmps)(k:iy P o.op=some f)(h1:aop h base e f=some (.panic v h')):
 h'=h/\∃v',VR μ v v'∧(execOp a.eval o).run P w= .halt (.panic v') w:=by
 obtain⟨x,rfl⟩:=nD h1;obtain⟨c,l⟩:=(kH k).2.2.1 x rfl;obtain⟨m,d,b⟩:=aD h1;have g:=dF j i l d;split at b
 ·cases b;generalize hev:a.eval x=xv' at g;refine⟨rfl,xv',g,?_⟩;cases g;simp[execOp,c,hev,Instr.panic,goPanic,Result.andThen]
 ·cases b
def Hv(g:iy P o.op=some f)(h1:aop h base e f=some .recover):(execOp a.eval o).run P w= .ok .recover w:=by
 have:=nD h1;obtain⟨c,d,b⟩:=(kH g).2.2.2 this;simp[execOp,d,resolve,b,invoke,builtin]
variable{h1:Heap}
def R.congr{a:Heap}(c:R P μ h1 w)(j:h1.cU=a.cU)(f:h1.next=a.next):R P μ a w:=by
 have e:∀b,a.get b=h1.get b:=λb=>by simp[Heap.get,j]
 exact⟨f▸c.big,λg o h1 a=>c.mU g o h1 (e g▸a),λb o d=>c.obj b o (e b▸d),λb o d=>f▸c.lt b o (e b▸d),λb k d=>f▸c.dom b k d,
  λb i o m k l h h1 a=>c.mu b i o m k l h (e b▸h1) (e i▸a)⟩
def Wr.congr{a:Heap}(d:h1.cU=a.cU){r:Nat}(e:Wr μ h1 r):Wr μ a r:=by
 obtain⟨b,o,k,c,x⟩:=e;exact⟨b,o,k,by simpa[Heap.get,d]using c,x⟩
def St.jF{b:Heap}{μ0:Mu}{a:Heap}{w0:World}(s:St μ0 a w0 μ h1 w)(c:h1.cU=b.cU):St μ0 a w0 μ b w:=
 ⟨s.ext,s.le,s.keep,λr d e=>s.wr r d (e.congr c.symm),s.loops,s.same⟩
variable{μ':Mu}{w':World}
def St.rR{a:Heap}(s:St μ h1 w μ' h' w')(e:h1.cU=a.cU)(g:h1.next=a.next):St μ a w μ' h' w':=
 ⟨λb f=>s.ext b (g▸f),s.le,λr c d=>s.keep r c λq=>d (q.congr e),λr c d=>(s.wr r c d).congr e,s.loops,s.same⟩
def ng:∀(l:List (Nat×bT)) (a n:Nat) (m:List (Nat×bT)),l.map (·.1)=dR a n->∀b,b<a->fT (l++m) b=fT m b
 |[],a,n,m,_,b,_=>rfl
 |(k,o)::l,a,0,m,h,b,_=>by simp[dR]at h
 |(k,o)::l,a,n+1,m,h,b,hb=>by
  simp only[xP,dR,List.cons.injEq]at h;obtain⟨h1,h2⟩:=h;simp only[SW,fT,cond_eq_ite,beq_eq,decide_eq_true_eq];rw[if_neg ω];exact ng l a n m h2 b hb
def E6:∀(l:List (Nat×bT)) (b:Nat) (o:bT),fT l b=some o->b∈l.map (·.1)
 |(k,q)::l,b,o,h=>by
  simp only[fT,cond_eq_ite,beq_eq,decide_eq_true_eq]at h;split at h
  ·rename_i e;simp[e]
  ·have:=E6 l b o h;simp at this⊢;exact .inr this
def Fj:∀(l:List (Nat×bT)) (b:Nat),b∈l.map (·.1)->∃o,fT l b=some o
 |(k,q)::l,b,h=>by
  simp only[fT,cond_eq_ite,beq_eq,decide_eq_true_eq];by_cases e:k=b
  ·exact⟨q,by simp[e]⟩
  ·simp only[xP,Ps]at h;rcases h with h|h
   ·exact absurd h.symm e
   ·obtain⟨o,ho⟩:=Fj l b h;exact⟨o,by simp[e,ho]⟩
variable{c:Heap}
def M5(i:R P μ c w)(h:AS c.next c h1)(b:Nat):fT (pK (h1.next-c.next) h1.cU) b=if b<c.next then h1.get b else none:=by
 unfold pK;rw[aT];have g:=h.keys;have e:(h1.cU.take (h1.next-c.next)).map (·.1)=dR c.next (h1.next-c.next):=by
  rw[List.map_take,g];have:∀a n,(dR a n).length=n:=λa n=>by induction n<;>simp[dR, *]
  exact List.take_left' (this _ _)
 have d:(h1.cU.drop (h1.next-c.next)).map (·.1)=c.cU.map (·.1):=by
  rw[List.map_drop,g];have:∀a n,(dR a n).length=n:=λa n=>by induction n<;>simp[dR, *]
  exact List.drop_left' (this _ _)
 by_cases hb:b<c.next
 ·rw[if_pos hb];have:=ng _ _ _ (h1.cU.drop (h1.next-c.next)) e b hb;rw[Fr]at this;exact this.symm
 ·rw[if_neg hb];cases hg:fT (h1.cU.drop (h1.next-c.next)) b with
  |none=>rfl
  |some o=>
   have:=E6 _ _ _ hg;rw[d]at this;obtain⟨j,f⟩:=Fj _ _ this;exact absurd (i.lt b j f) hb
def Bn{h:Heap}{base:Nat}:∀{l:List Nat},gJ h base l=true->∀b,gL l b=true->b<base→
 (∃vs own sz,h.get b=some (.cells vs own sz)/\dQ vs=true)∨(∃es,h.get b=some (.map es)/\jf (es.map (·.1))=true/\jf (es.map (·.2))=true)∨h.get b=some .dead∨(∃s pos,h.get b=some (.oH s pos))
 |[],_,b,hb,_=>by cases hb
 |x::l,hc,b,hb,hlt=>by
  rw[nq]at hb;simp only[gJ,cond_eq_ite,blt_eq,decide_eq_true_eq,gk]at hc;by_cases hx:x=b
  ·subst hx;rw[if_pos hlt]at hc;split at hc
   ·rename_i vs own sz hg;split at hc
    ·rename_i hs;exact .inl ⟨_,_,_,hg,hs⟩
    ·cases hc
   ·rename_i es hg;split at hc
    ·rename_i hs;exact .inr (.inl ⟨_,hg,hs.1,hs.2⟩)
    ·cases hc
   ·rename_i hg;exact .inr (.inr (.inl hg))
   ·rename_i s pos hg;exact .inr (.inr (.inr ⟨s,pos,hg⟩))
   ·cases hc
  ·have hb:gL l b=true:=by simpa[hx]using hb
   have:gJ h base l=true:=by
    split at hc
    ·split at hc
     ·split at hc
      ·exact hc
      ·cases hc
     ·split at hc
      ·exact hc
      ·cases hc
     ·exact hc
     ·exact hc
     ·cases hc
    ·exact hc
   exact Bn this b hb hlt
def wY(μ:Mu)(n:Nat):Mu:=λb=>if b<n then μ b else none
def MR.flat{es:List (Value×Value)}{ms:List MapEntry}(b:MR μ es ms){μ':Mu}(h1:jf (es.map (·.1))=true)(a:jf (es.map (·.2))=true):MR μ' es ms:=by
 induction b with
 |nil=>exact .nil
 |cons q1 q2 _ ih=>
  simp only[xP,jf,cond_eq_ite]at h1 a;split at h1
  ·rename_i f1;split at a
   ·rename_i f2;refine .cons ?_ ?_ (ih h1 a)
    ·rw[(VR.flat f1).2 _ q1];exact(VR.flat f1).1
    ·rw[(VR.flat f2).2 _ q2];exact(VR.flat f2).1
   ·cases a
  ·cases h1
variable{μ1:Mu}{es:List (Value×Value)}
def MR.back(c:∀b k,μ b=some k->μ1 b=some k){ms ms':List MapEntry}(h1:MR μ es ms)(a:MR μ1 es ms'):MR μ es ms':=by
 induction h1 generalizing ms' with
 |nil=>cases a;exact .nil
 |cons q1 q2 _ ih=>cases a with
  |cons p1 p2 p3=>exact .cons (q1.inj c p1▸q1) (q2.inj c p2▸q2) (ih p3)
def DM:∀{vs:List Value},dQ vs=true->∀i,i<vs.length->oV (gv vs i)=true
 |[],_,i,hi=>by simp at hi
 |v::vs,h,i,hi=>by
  simp only[dQ,cond_eq_ite]at h;split at h
  ·rename_i hv;cases i with
   |zero=>exact hv
   |succ i=>exact DM h i (by simpa using hi)
  ·cases h
variable{v':Value}
def M8{m:Heap}{w0 U:World}{μ0:Mu}(w:R P μ0 m w0)(x:R P μ1 h1 U)(A:St μ0 m w0 μ1 h1 U)(I:AS m.next m h1)(Q:VR μ1 v v'):
 ∃μ2,R P μ2 (gcA m h1 v) U/\VR μ2 v v'∧St μ0 m w0 μ2 (gcA m h1 v) U/\AS m.next m (gcA m h1 v):=by
 unfold gcA;cases hc:(dA v&&gJ h1 m.next h1.log)with
 |false=>exact⟨μ1,x,Q,A,I⟩
 |true=>
  simp only[gk]at hc;obtain⟨O,Y⟩:=hc;simp only[cond_true];have N:=A.mono w;have l:∀b,({h1 with cU:=pK (h1.next-m.next) h1.cU,next:=m.next}:Heap).get b=if b<m.next then h1.get b else none:=λb=>M5 w I b
  have d:∀b k,wY μ1 m.next b=some k->b<m.next/\μ1 b=some k:=λb k f=>by
   unfold wY at f;split at f
   ·exact⟨τ,f⟩
   ·cases f
  have E:∀b k,μ0 b=some k->wY μ1 m.next b=some k:=λb k f=>by
   unfold wY;rw[if_pos (w.dom b k f).1];exact N b k f
  have C:∀b k,wY μ1 m.next b=some k->μ0 b=some k:=λb k f=>by
   obtain⟨G,y⟩:=d b k f;rw[←A.ext b G];exact y
  refine⟨wY μ1 m.next,⟨w.big,λg o hg T=> ?_,λb o f=> ?_,λb o f=> ?_,λb k f=> ?_,λb b' o o' k k' ae f B l1 l2 m1 m2=> ?_⟩,?_,⟨λb f=> ?_,A.le,A.keep,λr hr hw=> ?_,A.loops,A.same⟩,⟨bl _,?_,λb f Z=>I.mono b f Z,λb f hn Z=> ?_⟩⟩
  ·rw[l]at T;split at T
   ·rename_i hlt;obtain⟨k,G,y⟩:=x.mU g o hg T;exact⟨k,by unfold wY;rw[if_pos hlt];exact G,y⟩
   ·cases T
  ·rw[l]at f;split at f
   ·rename_i hlt;have q:=x.obj b o f;cases hlog:gL h1.log b with
    |true=>
     rcases Bn Y b hlog hlt with⟨vs,own,sz,u,J⟩|⟨es,u,J,X⟩|u|⟨s,pos,u⟩
     ·rw[f]at u;cases u;intro k j;obtain⟨z0,c,V,W,z1,z2,z3,z4,z5⟩:=q k (d b k j).2;refine⟨z0,c,V,W,z1,z2,z3,λi M=> ?_,z5⟩;obtain⟨v',y1,H⟩:=z4 i M;have hs:=DM J i M;exact⟨v',y1,by rw[(VR.oV hs).2 _ H];exact(VR.oV hs).1⟩
     ·rw[f]at u;cases u;intro k j;obtain⟨p,h,z1,z2,S⟩:=q k (d b k j).2;exact⟨p,h,z1,z2.flat J X,S⟩
     ·rw[f]at u;cases u;trivial
     ·rw[f]at u;cases u;intro k j;exact q k (d b k j).2
    |false=>
     have K:=I.same b hlt hlt hlog;rw[f]at K;have D:=w.obj b o K.symm;cases o with
     |cells vs own sz=>
      intro k j;obtain⟨z0,c,V,W,z1,z2,z3,z4,z5⟩:=q k (d b k j).2;obtain⟨_,c0,_,_,_,_,_,y4,_⟩:=D k (C b k j);refine⟨z0,c,V,W,z1,z2,z3,λi M=> ?_,z5⟩;obtain⟨v1,p1,p2⟩:=z4 i M;obtain⟨v0,G,y⟩:=y4 i M;exact⟨v1,p1,(y.inj N p2▸y).mono E⟩
     |map es=>
      intro k j;obtain⟨p,h,z1,z2,S⟩:=q k (d b k j).2;obtain⟨F,z,y1,H,_⟩:=D k (C b k j);exact⟨p,h,z1,(H.back N z2).mono E,S⟩
     |xO es=>
      intro k j;obtain⟨p,h,z1,z2,S⟩:=q k (d b k j).2;obtain⟨F,z,y1,H,_⟩:=D k (C b k j);exact⟨p,h,z1,(H.back N z2).mono E,S⟩
     |loop e ps asg body st jy=>
      intro k j;obtain⟨L,z1,z2,z3⟩:=q k (d b k j).2;obtain⟨L0,y1,H,_⟩:=D k (C b k j);refine⟨L,z1,λt v Q=> ?_,z3⟩;obtain⟨v1,p1,p2⟩:=z2 t v Q;obtain⟨v0,G,y⟩:=H t v Q;exact⟨v1,p1,(y.inj N p2▸y).mono E⟩
     |oH s pos=>intro k j;exact q k (d b k j).2
     |dead=>trivial
   ·cases f
  ·rw[l]at f;split at f
   ·assumption
   ·cases f
  ·obtain⟨G,y⟩:=d b k f;exact⟨G,(x.dom b k y).2⟩
  ·rw[l]at f B;split at f
   ·split at B
    ·exact x.mu b b' o o' k k' ae f B l1 l2 (d b k m1).2 (d b' k' m2).2
    ·cases B
   ·cases f
  ·rw[(VR.dA O).2 _ Q];exact(VR.dA O).1
  ·unfold wY;rw[if_pos f];exact A.ext b f
  ·obtain⟨b,o,k,u,J,X,g4,g5⟩:=hw;rw[l]at u;split at u
   ·exact A.wr r hr ⟨b,o,k,u,J,X,(d b k g4).2,g5⟩
   ·cases u
  ·simp only[J0,dR,D4];have j:=I.keys;unfold pK;rw[aT,List.map_drop,j];have:∀a n,(dR a n).length=n:=λa n=>by induction n<;>simp[dR, *]
   exact List.drop_left' (this _ _)
  ·rw[l,if_pos hn];exact I.same b f hn Z
def qA(base:Nat):∀(m l:List Nat) (b:Nat),gL (aJ base l m) b=(gL l b||(decide (b<base)&&gL m b))
 |[],l,b=>by simp[aJ,gL]
 |x::m,l,b=>by
  simp only[aJ,cond_eq_ite,blt_eq];rw[qA base m,nq];by_cases hx:x<base
  ·by_cases hl:gL l x=true
   ·by_cases hb:x=b
    ·subst hb;simp[hx,hl]
    ·simp[hx,hl,hb]
   ·by_cases hb:x=b
    ·subst hb;simp[hx,hl,nq]
    ·simp[hx,hl,hb,nq]
  ·by_cases hb:x=b
   ·subst hb;simp[hx]
   ·simp[hx,hb]
def AS.call(d:AS h.next (η h) c)(hb:base<=h.next):AS base h {c with log:=aJ base h.log c.log}where
 next:=d.next
 keys:=d.keys
 mono:=λb _ a=>by rw[qA,a];rfl
 same:=λb e f a=>by
  rw[qA]at a;simp only[xn,xx,decide_eq_false_iff_not]at a;exact d.same b f f (by rcases a.2 with q|q;exact absurd e q;exact q)
def Fw(rd:Option Nat):Fence:={fn:=λ_=>True,depth:=none,alive:=false,round:=rd}
def RdR(μ:Mu):Option Nat->Option Nat->Prop
 |none,rd=>rd=none
 |some l,rd=>∃k,μ l=some k/\rd=some k.r
def RdR.mono(e:∀b k,μ b=some k->μ' b=some k){r a:Option Nat}(h:RdR μ r a):RdR μ' r a:=by
 cases r with
 |none=>exact h
 |some l=>obtain⟨k,c,d⟩:=h;exact⟨k,e _ _ c,d⟩
inductive DR (μ:Mu) (h:Heap) (w:World) (lo:Nat):Dfs->List Deferred->Prop
 |nil:DR μ h w lo [] []
 |cons {g first cap first' cap' args args' ds ms}:LR μ first.toList first'.toList->LR μ cap.toList cap'.toList->LR μ args args'→DR μ h w lo ds ms→
  DR μ h w lo ((.func (.func g) first cap,args)::ds) ({target:= .fn (.func g) cap',args:=first'++args'.toArray}::ms)
 |mark {r ds ms}:lo<=r->(∀r' as,({target:= .collected r',args:=as}:Deferred)∈ms->r'<r)->w.heap[r]? =some (.deferred (some []))->¬Wr μ h r->DR μ h w lo ds ms->DR μ h w lo ds ({target:= .collected r,args:= #[]}::ms)
variable{lo:Nat}
def DR.step{d:Dfs}{ms:List Deferred}(s:St μ h w μ' h' w')(c:∀b k,μ b=some k->μ' b=some k)(e:DR μ h w lo d ms):DR μ' h' w' lo d ms:=by
 induction e with
 |nil=>exact .nil
 |cons h1 h2 h3 _ ih=>exact .cons (h1.mono c) (h2.mono c) (h3.mono c) ih
 |mark h1 h0 h2 h3 _ ih=>
  have a:=(Array.getElem?_eq_some_iff.1 h2).1;exact .mark h1 h0 ((s.keep _ a h3).trans h2) (λq=>h3 (s.wr _ a q)) ih
def DR.marks{b:Dfs}{ms:List Deferred}(c:DR μ h w lo b ms):∀r as,({target:= .collected r,args:=as}:Deferred)∈ms->r<w.heap.size:=by
 induction c with
 |nil=>intro r as a;cases a
 |cons _ _ _ _ ih=>
  intro r as a;rcases List.mem_cons.1 a with h|h
  ·injection h with h1 h2;cases h1
  ·exact ih r as h
 |mark _ _ h2 _ _ ih=>
  intro r as a;rcases List.mem_cons.1 a with h|h
  ·injection h with h1 h3;injection h1 with h1;subst h1;exact(Array.getElem?_eq_some_iff.1 h2).1
  ·exact ih r as h
def XR(μ:Mu):bO->Exit->Prop
 | .normal, .normal=>True
 | .exit i, .exit j=>i=j
 | .ret, .ret=>True
 | .panic v, .panic chain=>∃v',chain=[{v:=v',recovered:=false}]/\VR μ v v'
 |_,_=>False
def Post(P:Program)(μ0:Mu)(h0:Heap)(w0:World)(lo sz:Nat)(x:bO)(e':Env)(ds':Dfs)(h':Heap):Exit->Act->World->Prop:=λex a' w'=>
 ∃μ',XR μ' x ex/\R P μ' h' w'∧St μ0 h0 w0 μ' h' w'∧dH μ' e' a'.tmps/\DR μ' h' w' lo ds' a'.defers/\a'.tmps.size=sz
def Post.trans{μ0 μ1:Mu}{b h1:Heap}{w0 e:World}{lo sz:Nat}{x:bO}{e':Env}{a:Dfs}{h':Heap}(s:St μ0 b w0 μ1 h1 e)(f:b.next<=h1.next){d:Exit}{c:Act}{w':World}
 (g:Post P μ1 h1 e lo sz x e' a h' d c w'):Post P μ0 b w0 lo sz x e' a h' d c w':=by
 obtain⟨μ',h,i,j,k⟩:=g;exact⟨μ',h,i,s.trans j f,k⟩
def iz(a:Act)(dst:Option Tmp)(v:Value):(a.put dst v).tmps=match dst with|some d=>a.tmps.setIfInBounds d v|none=>a.tmps:=by
 cases dst<;>rfl
def ef(a:Act)(dst:Option Tmp)(v:Value):(a.put dst v).tmps.size=a.tmps.size:=by
 cases dst<;>simp[Act.put]
def put_defers(a:Act)(dst:Option Tmp)(v:Value):(a.put dst v).defers=a.defers:=by cases dst<;>rfl
variable{nt:Nat}{dst:Option Nat}
def dH.put(c:dH μ e a.tmps)(d:mQ nt dst=true)(f:nt<=a.tmps.size)(g:VR μ v v'):dH μ (cN e dst v) (a.put dst v').tmps:=by
 cases dst with
 |none=>exact c
 |some t=>
  simp only[mQ,G7]at d;intro x y b;simp only[cN,geT,cond_eq_ite,beq_eq,decide_eq_true_eq]at b;rw[iz];simp only[gS];split at b
  ·rename_i e;subst e;cases b;exact⟨v',by simp[show t<a.tmps.size by omega],g⟩
  ·rename_i hne;obtain⟨j,h,i⟩:=c x y b;exact⟨j,by simp[hne,h],i⟩
def dH.keep{t:Array Value}(a:dH μ e t):∀(l:List Nat),dH μ (cZ e l) t
 |[]=>λx v hv=>by cases hv
 |y::l=>by
  simp only[cZ];split
  ·rename_i v hv;intro x u hu;simp only[geT,cond_eq_ite,beq_eq,decide_eq_true_eq]at hu;split at hu
   ·rename_i e;subst e;cases hu;exact a _ _ hv
   ·exact(dH.keep a l) x u hu
  ·exact dH.keep a l
def ZQ(μ:Mu):Res->Ending->Prop
 | .ret v, .returned v'=>VR μ v v'
 | .panic v, .panicked chain=>∃v',chain=[{v:=v',recovered:=false}]/\VR μ v v'
 |_,_=>False
def iF(P:Program)(μ0:Mu)(h0:Heap)(w0:World)(res:Res)(h':Heap):Ending->World->Prop:=λen w'=>∃μ',ZQ μ' res en/\R P μ' h' w'∧St μ0 h0 w0 μ' h' w'
def rC(P:Program)(Rp:Ending->World->Prop):Result Next->Prop
 | .ok (.value v) w'=>Rp (.returned v) w'
 | .ok (.enter f args) w'=>CallsIn Fence.wide 0 P f args w' Rp
 | .ok (.row row args) w'=>RowsIn Fence.wide 0 P row args w' λv w''=>Rp (.returned v) w''
 | .ok (.round l f tmps assign body) w'=>RoundIn Fence.wide 0 P l f tmps assign body w' Rp
 | .halt (.panic v) w'=>Rp (.panicked [{v,recovered:=false}]) w'
 |_=>False
variable{next:Act->World->Prop}{Q:Exit->Act->World->Prop}
def jY{g:Option Nat}{d:Ending->World->Prop}{r:Result Next}(hr:rC P d r)
 (h1:∀v b,d (.returned v) b→next (a.put o.dst v) b)(h:∀chain b,d (.panicked chain) b→Q (.panic chain) a b)(j:∀b,¬d .outgrown b):o.uponIn (Fw g) 0 P a next Q r:=by
 have i:∀e b,d e b→(match(motive:=Ending->World->Prop) e,b with
  | .returned v,w''=>next (a.put o.dst v) w''
  | .panicked chain,w''=>Q (.panic chain) a w''
  | .outgrown,_=>LetsOut Q):=λe b f=>by
  cases e with
  |returned v=>exact h1 v b f
  |panicked c=>exact h c b f
  |outgrown=>exact(j b f).elim
 cases r with
 |ok n b=>
  cases n<;>first|exact hr.elim|skip
  ·exact h1 _ _ hr
  ·exact⟨(λq=>by cases q),CallsIn.mono (F:=Fw g) hr i⟩
  ·exact⟨(λq=>by cases q),RoundIn.mono (F:=Fw g) hr i⟩
  ·exact⟨(λq=>by cases q),RowsIn.mono (F:=Fw g) hr λv b f=>h1 v b f⟩
 |halt hl b=>
  cases hl<;>first|exact hr.elim|exact h _ _ hr
def UE(base:Nat)(h:Heap):dI->Prop
 | .val _ h'=>AS base h h'
 |_=>True
variable{size:Nat}
def HX{a:Option Addr}{len cap:Nat}{lo hi mx:Option Operand}(h1:hM h e size a len cap lo hi mx=some (v,h')):AS base h h':=by
 unfold hM at h1;simp only[cond_eq_ite]at h1;repeat' split at h1
 all_goals first
  |(cases h1;done)
  |(cases h1;exact .refl _ _)
  |(cases h1;exact .push _ _ _)
variable{n:Nat}
def yG{a:Nat}{s:Value}{b:List Value}(h1:jV h base size a s b n=some (v,h')):AS base h h':=by
 unfold jV at h1;simp only[cond_eq_ite]at h1;repeat' split at h1
 all_goals first
  |(cases h1;done)
  |(cases h1;exact .refl _ _)
  |(cases h1;exact .push _ _ _)
  |(cases h1;exact .wr _ _ _ _)
  |(cases h1;exact(AS.wr _ _ _ _).trans (.push _ _ _))
variable{x:Value}
def MG{c:Cv}(h1:y5 h c x=some (v,h')):AS base h h':=by
 unfold y5 at h1;repeat' split at h1
 all_goals first
  |(cases h1;done)
  |(cases h1;exact .refl _ _)
  |(cases h1;exact .push _ _ _)
def K9(h1:uG h base n v x=some h'):AS base h h':=by
 unfold uG at h1;simp only[cond_eq_ite]at h1;repeat' split at h1
 all_goals first
  |(cases h1;done)
  |(cases h1;exact .wr _ _ _ _)
def th{x:Option (Value×Heap)}(h1:fW x=some out)(a:∀v h',x=some (v,h')->AS base h h'):UE base h out:=by
 cases x with
 |none=>cases h1
 |some p=>cases h1;exact a _ _ rfl
def UQ{d:AOp}(h1:aop h base e d=some out):UE base h out:=by
 cases d
 case call=>have:=nD h1;cases out<;>first|trivial|(obtain⟨f,as,b⟩:=this;cases b;done)|skip
            simp only[aop]at h1;split at h1
            ·unfold rX at h1;repeat' split at h1
             all_goals cases h1
            ·cases h1
 case lI=>
  simp only[aop]at h1;repeat' split at h1
  all_goals cases h1
  trivial
 case wC=>
  obtain⟨v,_,a⟩:=aD h1;split at a<;>cases a
  trivial
 case recover=>cases h1;trivial
 case mov=>obtain⟨v,_,a⟩:=aD h1;cases a;exact .refl _ _
 case box=>obtain⟨v,_,a⟩:=aD h1;cases a;exact .push _ _ _
 case jw=>obtain⟨v,_,a⟩:=aD h1;cases a;exact .refl _ _
 case un=>obtain⟨v,_,a⟩:=aD h1;obtain⟨v,_,a⟩:=aD a;cases a;exact .refl _ _
 case load=>obtain⟨v,_,a⟩:=aD h1;obtain⟨v,_,a⟩:=aD a;cases a;exact .refl _ _
 case conv=>obtain⟨v,_,a⟩:=aD h1;exact th a λv c b=>MG b
 case store=>
  obtain⟨v,_,a⟩:=aD h1;obtain⟨v,_,a⟩:=aD a;split at a
  ·rename_i b;cases a;exact K9 b
  ·cases a
 case cT=>
  obtain⟨v,_,a⟩:=aD h1;split at a<;>cases a;exact .refl _ _
 case bin op x y=>
  cases op;case num=>
   obtain⟨v,_,a⟩:=aD h1;obtain⟨v,_,a⟩:=aD a;obtain⟨v,_,a⟩:=aD a;cases a;exact .refl _ _
  case beq=>simp only[aop]at h1;split at h1<;>cases h1;exact .refl _ _
  case nil=>
   obtain⟨v,_,a⟩:=aD h1;obtain⟨v,_,a⟩:=aD a;split at a<;>cases a;exact .refl _ _
  case agg=>
   obtain⟨v,_,a⟩:=aD h1;obtain⟨v,_,a⟩:=aD a;split at a
   ·split at a<;>cases a;exact .refl _ _
   ·cases a
 case pick=>
  simp only[aop]at h1;split at h1
  ·obtain⟨v,_,a⟩:=aD h1;cases a;exact .refl _ _
  ·obtain⟨v,_,a⟩:=aD h1;cases a;exact .refl _ _
  ·cases h1
 case slice k x lo hi mx=>
  cases k<;>cases mx<;>simp only[aop]at h1
  ·repeat' split at h1
   all_goals first|(cases h1;done)|skip
   simp only[cond_eq_ite,ec]at h1;obtain⟨_,h1⟩:=h1;cases h1;exact .refl _ _
  ·cases h1
  all_goals
   split at h1
   ·exact th h1 λv c b=>HX b
   ·cases h1
 case len k x=>
  match k with
  |0=>simp only[aop]at h1;split at h1<;>cases h1;exact .refl _ _
  |1=>simp only[aop]at h1;split at h1<;>cases h1;exact .refl _ _
  |k+2=>
   simp only[aop]at h1;split at h1
   ·cases h1;exact .refl _ _
   ·split at h1<;>cases h1;exact .refl _ _
   ·cases h1
 case append=>
  simp only[aop]at h1;split at h1
  ·split at h1
   ·exact th h1 λv c b=>yG b
   ·cases h1
  ·cases h1
 case oh=>
  simp only[aop]at h1;split at h1
  ·split at h1
   ·simp only[cond_eq_ite,ec]at h1;exact th h1.2 λv c b=>yG b
   ·cases h1
  ·cases h1
 case next x s=>
  cases s
  ·cases h1
  ·simp only[aop]at h1;repeat' split at h1
   all_goals first|(cases h1;done)|skip
   simp only[cond_eq_ite]at h1;split at h1<;>cases h1
   ·exact .wr _ _ _ _
   ·exact .refl _ _
 case dx=>simp only[aop]at h1;repeat' split at h1
          all_goals first|(cases h1;done)|(simp only[cond_eq_ite,ec]at h1;obtain⟨_,h1⟩:=h1;cases h1;exact .refl _ _)
 case aC=>simp only[aop]at h1;repeat' split at h1
          all_goals first|(cases h1;done)|(simp only[cond_eq_ite,ec]at h1;obtain⟨_,h1⟩:=h1;cases h1;exact .refl _ _)
 case oR=>cases h1;exact .refl _ _
 case new=>cases h1;exact .push _ _ _
 case mkMap=>cases h1;exact .push _ _ _
 all_goals
  revert h1;simp only[aop,cond_eq_ite];intro h1;repeat' split at h1
  all_goals first
   |(cases h1;done)
   |(cases h1;exact .refl _ _)
   |(cases h1;exact .push _ _ _)
   |(cases h1;exact .wr _ _ _ _)
   |(obtain⟨v,_,a⟩:=aD h1;cases a;exact .refl _ _)
variable{T:Nat->Option aq}
def aK(T:Nat->Option aq):Prop:=∀f p args h v h',T f=some (.mW p)->p args h=some (v,h')->h.log=[]->AS h.next h h'
structure fN (T:Nat->Option aq) (n:Nat):Prop where
 exec:∀base rnd c e ds h x e' ds' h',di T n base rnd c e ds h=some (x,e',ds',h')->base<=h.next->AS base h h'
 ops:∀base rnd ops e ds h x e' ds' h',iC T n base rnd ops e ds h=some (x,e',ds',h')->base<=h.next->AS base h h'
 draw:∀base ops order before rs e h x e' h',fG T n base ops order before rs e h=some (x,e',h')->base<=h.next->AS base h h'
 kF:∀fn args h r h',iw T n fn args h=some (r,h')->h.log=[]->AS h.next h h'
 call:∀f args h r h',jM T n f args h=some (r,h')->h.log=[]->AS h.next h h'
 unw:∀results ds pan e h h1 r h',rL T n results ds pan e h h1=some (r,h')->AS h.next h h1->AS h.next h h'
 defer:∀g args pan h pan' h',mK T n g args pan h=some (pan',h')->h.log=[]->AS h.next h h'
 je:∀base c e pan h x e' pan' h',jE T n base c e pan h=some (x,e',pan',h')->base<=h.next->AS base h h'
 oT:∀base ops e pan h x e' pan' h',lu T n base ops e pan h=some (x,e',pan',h')->base<=h.next->AS base h h'
def AS.gc'(f:AS c.next c h1)(v:Value):AS c.next c (gcA c h1 v):=by
 unfold gcA;cases hc:(dA v&&gJ h1 c.next h1.log)with
 |false=>exact f
 |true=>
  simp only[cond_true];have d:∀a n,(dR a n).length=n:=λa n=>by induction n<;>simp[dR, *]
  have i:=f.keys;refine⟨bl _,?_,λb g h=>f.mono b g h,λb g j h=> ?_⟩
  ·simp only[J0,dR,D4];unfold pK;rw[aT,List.map_drop,i];exact List.drop_left' (d _ _)
  ·have e:(h1.cU.take (h1.next-c.next)).map (·.1)=dR c.next (h1.next-c.next):=by
    rw[List.map_take,i];exact List.take_left' (d _ _)
   have:=ng _ _ _ (h1.cU.drop (h1.next-c.next)) e b g;rw[Fr]at this;show fT (pK _ _) b=_;unfold pK;rw[aT,←this];exact f.same b g j h
def fN.zero:fN T 0:=by
 constructor<;>intros<;>rename_i h1 _<;>first|(simp[di]at h1;done)|(simp[iC]at h1;done)|(simp[fG]at h1;done)|(simp[iw]at h1;done)|(simp[jM]at h1;done)|(simp[rL]at h1;done)|(simp[mK]at h1;done)|(simp[jE]at h1;done)|(simp[lu]at h1;done)
def rK{a:AOp}(h1:aop h base e a=some (.val v h')):AS base h h':=UQ h1
def Re{a:AOp}{args:List Value}(h1:aop h base e a=some (.call fn args h')):h'=h:=by
 obtain⟨f,as,rfl⟩:=nD h1;simp only[aop]at h1;split at h1
 ·unfold rX at h1;repeat' split at h1
  all_goals cases h1
  all_goals rfl
 ·cases h1
def Ml{b:AOp}(h1:aop h base e b=some (.panic v h')):h'=h:=by
 obtain⟨x,rfl⟩:=nD h1;obtain⟨v,_,a⟩:=aD h1;split at a<;>cases a
 rfl
def sd(h:Heap)(l:Nat)(o:bT)(b:Nat):({h with cU:=jI h.cU l o}:Heap).get b=if b=l then(h.get l).map (λ_=>o)else h.get b:=wh _ _ _ _
variable{e':Env}
def IM{out:Nat}{c:Env}{b:Heap}{r:Option (Option (bO×Env))}{x:bO}{a:Dfs}(h1:MO out c b r=some (x,e',a,h')):a=[]/\h'=b:=by
 unfold MO at h1;split at h1
 ·cases h1;exact⟨rfl,rfl⟩
 ·simp only[cond_eq_ite]at h1;split at h1<;>cases h1<;>exact⟨rfl,rfl⟩
 ·cases h1;exact⟨rfl,rfl⟩
 ·cases h1
def fN.succ(W:aK T)(q:fN T n):fN T (n+1):=by
 constructor;case exec=>
  intro base U c e K h x L P B j m;cases c<;>simp only[di]at j
  case skip=>cases j;exact .refl _ _
  case exit=>cases j;exact .refl _ _
  case ret=>cases j;exact .refl _ _
  case region ops keep=>
   split at j
   ·rename_i k;cases j;exact q.ops _ _ _ _ _ _ _ _ _ _ k m
   ·exact q.ops _ _ _ _ _ _ _ _ _ _ j m
  case draw ops order before keep=>
   split at j
   ·rename_i k;cases j;exact q.draw _ _ _ _ _ _ _ _ _ _ k m
   ·rename_i k;cases j;exact q.draw _ _ _ _ _ _ _ _ _ _ k m
   ·cases j
  case seq a b=>
   split at j
   ·rename_i k;have s:=q.exec _ _ _ _ _ _ _ _ _ _ k m;exact s.trans (q.exec _ _ _ _ _ _ _ _ _ _ j (gy m s.next))
   ·exact q.exec _ _ _ _ _ _ _ _ _ _ j m
  case cond c a b=>
   split at j
   ·exact q.exec _ _ _ _ _ _ _ _ _ _ j m
   ·exact q.exec _ _ _ _ _ _ _ _ _ _ j m
   ·cases j
  case block id b=>
   split at j
   ·rename_i k;have s:=q.exec _ _ _ _ _ _ _ _ _ _ k m;simp only[cond_eq_ite]at j;split at j<;>cases j<;>exact s
   ·exact q.exec _ _ _ _ _ _ _ _ _ _ j m
  case loop b=>
   split at j
   ·rename_i k;have s:=q.exec _ _ _ _ _ _ _ _ _ _ k m;exact s.trans (q.exec _ _ _ _ _ _ _ _ _ _ j (gy m s.next))
   ·exact q.exec _ _ _ _ _ _ _ _ _ _ j m
  case scope b=>exact q.exec _ _ _ _ _ _ _ _ _ _ j m
  case rangeFunc f ps asg body=>
   simp only[cond_eq_ite]at j;split at j
   ·split at j
    ·split at j
     ·cases j
     ·have u:AS base h (h.push (.loop e ps asg body 0 .normal)):= .push _ _ _;have H:base<=(h.push (.loop e ps asg body 0 .normal)).next:=gy m u.next
      split at j
      ·rename_i k;have s:=AS.call (h:=h.push (.loop e ps asg body 0 .normal)) (base:=base) (q.call _ _ _ _ _ k rfl) H;split at j
       ·split at j
        ·cases j
        ·cases j;exact(u.trans s).trans (.wr _ _ _ _)
       ·cases j
      ·rename_i k;cases j;exact u.trans (AS.call (h:=h.push (.loop e ps asg body 0 .normal)) (base:=base) (q.call _ _ _ _ _ k rfl) H)
      ·cases j
    ·cases j
   ·cases j
  case rangeMap ops it y keep out nxt pr ops2 k2 body=>
   split at j
   ·rename_i k;have s:=q.ops _ _ _ _ _ _ _ _ _ _ k m;split at j
    ·cases j
    ·split at j
     ·cases j;exact s
     ·split at j
      ·obtain⟨_,rfl⟩:=IM j;exact s
      ·cases j
     ·cases j
   ·exact q.ops _ _ _ _ _ _ _ _ _ _ j m
 case ops=>
  intro base U ops e K h x L P B j m;cases ops with
  |nil=>simp only[iC]at j;cases j;exact .refl _ _
  |cons o os=>
   simp only[iC]at j;split at j
   ·exact q.ops _ _ _ _ _ _ _ _ _ _ j m
   ·split at j
    ·rename_i k;have s:=rK k;exact s.trans (q.ops _ _ _ _ _ _ _ _ _ _ j (gy m s.next))
    ·rename_i M as hc k;have G:=Re k;rw[G]at j;split at j
     ·rename_i k;have s:=AS.call (h:=h) (base:=base) (q.kF _ _ _ _ _ k rfl) m;exact s.trans (q.ops _ _ _ _ _ _ _ _ _ _ j (gy m s.next))
     ·rename_i k;cases j;exact AS.call (h:=h) (base:=base) (q.kF _ _ _ _ _ k rfl) m
     ·cases j
    ·split at j
     ·cases j
     ·exact q.ops _ _ _ _ _ _ _ _ _ _ j m
    ·rename_i k;have:=Ml k;subst this;cases j;exact .refl _ _
    ·cases j
   ·cases j
 case draw=>
  intro base ops order before rs e h x L B j m;cases order with
  |nil=>simp only[fG]at j;cases j;exact .refl _ _
  |cons i is=>
   simp only[fG]at j;split at j
   ·split at j
    ·exact q.draw _ _ _ _ _ _ _ _ _ _ j m
    ·simp only[cond_eq_ite]at j;split at j
     ·split at j
      ·rename_i k;have s:=rK k;split at j
       ·rw[ec]at j;exact s.trans (q.draw _ _ _ _ _ _ _ _ _ _ j.2 (gy m s.next))
       ·split at j
        ·exact q.draw _ _ _ _ _ _ _ _ _ _ j m
        ·split at j
         ·split at j
          ·rename_i k;have s:=AS.call (h:=h) (base:=base) (rK k) m;split at j
           ·exact s.trans (q.draw _ _ _ _ _ _ _ _ _ _ j (gy m s.next))
           ·cases j
          ·cases j
         ·cases j
      ·cases j
     ·split at j
      ·rename_i k;have s:=AS.call (h:=h) (base:=base) (rK k) m;split at j
       ·exact s.trans (q.draw _ _ _ _ _ _ _ _ _ _ j (gy m s.next))
       ·cases j
      ·split at j
       ·rename_i k;have s:=AS.call (h:=h) (base:=base) (q.kF _ _ _ _ _ k rfl) m;split at j
        ·exact s.trans (q.draw _ _ _ _ _ _ _ _ _ _ j (gy m s.next))
        ·cases j
       ·rename_i k;cases j;exact AS.call (h:=h) (base:=base) (q.kF _ _ _ _ _ k rfl) m
       ·cases j
      ·cases j
    ·cases j
   ·cases j
 case kF=>
  intro M z h r B j O;cases M<;>simp only[iw]at j<;>(try (cases j;done))
  case func f=>exact q.call _ _ _ _ _ j O
  case yield l=>
   split at j
   ·rename_i e ps asg body hg;split at j
    ·split at j
     ·rename_i e2 ds2 h2 hq1;have s:=q.exec _ _ _ _ _ _ _ _ _ _ hq1 (bl _);rw[cond_eq_ite]at j;split at j
      ·cases j
      ·have back:∀(t:Heap) (Z:Nat) (Y:bO),AS h.next {h2 with cU:=jI h2.cU l (.loop e ps asg body 1 .normal)} t->∀o,(t.get l).isSome->AS h.next h (t.wr h.next l o):=λt Z Y w o _=>by
        have F:=w.trans (.wr h.next t l o);have A:=s.next
        refine⟨gy A F.next,?_,λb m k=>F.mono b m (s.mono b m k),λb m I k=> ?_⟩
        ·rw[F.keys];show _++(jI h2.cU l _).map (·.1)=_;rw[nk,s.keys,←List.append_assoc];show dR h2.next _++_++_=_
         have G:(t.wr h.next l o).next-h.next=(h2.next-h.next)+((t.wr h.next l o).next-h2.next):=by have:=F.next;have:h2.next<=(t.wr h.next l o).next:=this;omega
         rw[G,qv,show h.next+(h2.next-h.next)=h2.next by omega]
        ·have D:gL h2.log b=false:=by
          cases e:gL h2.log b with
          |false=>rfl
          |true=>rw[F.mono b m e]at k;cases k
         rw[F.same b m (m6 I A) k,sd];split
         ·rename_i e;subst e;rw[Heap.G8]at k;simp[m]at k
         ·exact s.same b m I D
       have Q:∀(t:Heap),AS h.next {h2 with cU:=jI h2.cU l (.loop e ps asg body 1 .normal)} t->(t.get l).isSome->AS h.next h {t with cU:=jI t.cU l (.loop e ps asg body 0 .normal)}:=λt w X=>by
        have A:=s.next
        have S:h2.next<=t.next:=w.next
        refine⟨gy A S,?_,λb m k=>w.mono b m (s.mono b m k),λb m I k=> ?_⟩
        ·show(jI t.cU l _).map (·.1)=_;rw[nk,w.keys];show _++(jI h2.cU l _).map (·.1)=_;rw[nk,s.keys,←List.append_assoc];show dR h2.next (t.next-h2.next)++_++_=dR h.next (t.next-h.next)++_
         have G:t.next-h.next=(h2.next-h.next)+(t.next-h2.next):=ω
         rw[G,qv,show h.next+(h2.next-h.next)=h2.next by omega]
        ·have D:gL h2.log b=false:=by
          cases e:gL h2.log b with
          |false=>rfl
          |true=>rw[w.mono b m e]at k;cases k
         rw[sd];split
         ·rename_i e;subst e;obtain⟨o,V⟩:=Option.isSome_iff_exists.1 X;rw[V,hg];rfl
         ·rename_i e;have:=w.same b m (m6 I A) k;rw[sd,if_neg e]at this;rw[this];exact s.same b m I D
       split at j
       ·rename_i t hq2;have w:=q.exec _ _ _ _ _ _ _ _ _ _ hq2 s.next
        split at j
        ·rename_i hg3;cases j;exact AS.gc' (Q t w (by rw[hg3];rfl)) _
        ·cases j
       ·rename_i t hq2;have w:=q.exec _ _ _ _ _ _ _ _ _ _ hq2 s.next
        split at j
        ·rename_i hg3;cases j;exact back t 0 .normal w _ (by rw[hg3];rfl)
        ·cases j
       ·rename_i t hq2;have w:=q.exec _ _ _ _ _ _ _ _ _ _ hq2 s.next
        split at j
        ·rename_i hg3;cases j;exact back t 0 .normal w _ (by rw[hg3];rfl)
        ·cases j
       ·cases j
     ·cases j
    ·cases j
   ·cases j
 case call=>
  intro f z h r B j O;simp only[jM]at j;split at j
  ·cases j
  ·rename_i p hT;split at j
   ·rename_i k;cases j;exact W _ _ _ _ _ _ hT k O
   ·cases j
  ·split at j
   ·rename_i k;exact q.unw _ _ _ _ _ _ _ _ j (q.exec _ _ _ _ _ _ _ _ _ _ k (bl _))
   ·cases j
   ·rename_i k;exact q.unw _ _ _ _ _ _ _ _ j (q.exec _ _ _ _ _ _ _ _ _ _ k (bl _))
   ·cases j
 case unw=>
  intro J K E e h j r B v N;cases K with
  |nil=>
   simp only[rL]at v;split at v
   ·cases v;exact N
   ·split at v
    ·cases v;exact N.gc' _
    ·cases v
  |cons d K=>
   obtain⟨f,z⟩:=d;cases f<;>simp only[rL]at v<;>(try (cases v;done))
   rename_i M first cap
   cases M<;>simp only at v<;>(try (cases v;done))
   split at v
   ·rename_i k;exact q.unw _ _ _ _ _ _ _ _ v (N.trans (AS.call (q.defer _ _ _ _ _ _ k rfl) N.next))
   ·cases v
 case defer=>
  intro g z E h C B j O;simp only[mK]at j;split at j
  ·split at j
   ·rename_i k;cases j;exact q.je _ _ _ _ _ _ _ _ _ k (bl _)
   ·rename_i k;cases j;exact q.je _ _ _ _ _ _ _ _ _ k (bl _)
   ·cases j
  ·cases j
 case je=>
  intro base c e E h x L C B j m;cases c<;>simp only[jE]at j<;>(try (cases j;done))
  case skip=>cases j;exact .refl _ _
  case ret=>cases j;exact .refl _ _
  case region ops keep=>
   split at j
   ·rename_i k;cases j;exact q.oT _ _ _ _ _ _ _ _ _ k m
   ·exact q.oT _ _ _ _ _ _ _ _ _ j m
  case seq a b=>
   split at j
   ·rename_i k;have s:=q.je _ _ _ _ _ _ _ _ _ k m;exact s.trans (q.je _ _ _ _ _ _ _ _ _ j (gy m s.next))
   ·exact q.je _ _ _ _ _ _ _ _ _ j m
  case cond c a b=>
   split at j
   ·exact q.je _ _ _ _ _ _ _ _ _ j m
   ·exact q.je _ _ _ _ _ _ _ _ _ j m
   ·cases j
 case oT=>
  intro base ops e E h x L C B j m;cases ops with
  |nil=>simp only[lu]at j;cases j;exact .refl _ _
  |cons o os=>
   simp only[lu]at j;split at j
   ·exact q.oT _ _ _ _ _ _ _ _ _ j m
   ·split at j
    ·rename_i k;have s:=rK k;exact s.trans (q.oT _ _ _ _ _ _ _ _ _ j (gy m s.next))
    ·split at j
     ·exact q.oT _ _ _ _ _ _ _ _ _ j m
     ·exact q.oT _ _ _ _ _ _ _ _ _ j m
    ·cases j
   ·cases j
def fN.all(a:aK T):∀n,fN T n
 |0=> .zero
 |n+1=> .succ a (fN.all a n)
def Gz(μ:Mu):Option Value->FrameMode->Prop
 |none,u=>u= .returning
 |some v,u=>∃v',VR μ v v'∧u= .panicking [{v:=v',recovered:=false}]
def yq(μ:Mu):Option Value->FrameMode->Prop
 |some v,u=>∃v',VR μ v v'∧u= .panicking [{v:=v',recovered:=false}]
 |none,u=>u= .returning∨∃v',u= .panicking [{v:=v',recovered:=true}]
def oM(P:Program)(T:Nat->Option aq)(n:Nat):Prop:=∀base rnd ac e ds h x e' ds' h',di T n base rnd ac e ds h=some (x,e',ds',h')->base<=h.next→
 ∀c nt μ w (a:Act) rd lo,ir P nt c ac->nt<=a.tmps.size->R P μ h w->dH μ e a.tmps->DR μ h w lo ds a.defers->RdR μ rnd rd->lo<=w.heap.size->c.wpIn (Fw rd) 0 P (Post P μ h w lo a.tmps.size x e' ds' h') a w
def wR(P:Program)(T:Nat->Option aq)(n:Nat):Prop:=∀base rnd as e ds h x e' ds' h',iC T n base rnd as e ds h=some (x,e',ds',h')->base<=h.next→
 ∀(ops:Array Oper) i m nt μ w (a:Act) rd lo,i+m<=ops.size->cS P nt ops ((ops.toList.drop i).take m)=some as->nt<=a.tmps.size->R P μ h w->dH μ e a.tmps->DR μ h w lo ds a.defers->RdR μ rnd rd->lo<=w.heap.size→
  wpOpsIn (Fw rd) 0 P ops (Post P μ h w lo a.tmps.size x e' ds' h') (List.range' i m) a w
def Lw(P:Program)(T:Nat->Option aq)(n:Nat):Prop:=∀base as ord bf e h x e' h',fG T n base as ord bf [] e h=some (x,e',h')->base<=h.next→
 ∀(ops:Array Oper) nt μ w (a:Act) rd lo ds id,cS P nt ops ops.toList=some as->y9 as ops.toList ord bf=true->nt<=a.tmps.size->R P μ h w->dH μ e a.tmps->DR μ h w lo ds a.defers->RdR μ (none:Option Nat) rd∨True->lo<=w.heap.size→
  (Code.region id ops true).wpIn (Fw rd) 0 P (Post P μ h w lo a.tmps.size x e' ds h') a w
def tf(P:Program)(T:Nat->Option aq)(n:Nat):Prop:=∀fn args h res h',iw T n fn args h=some (res,h')->h.log=[]->∀μ w args',R P μ h w->LR μ args args'→
 (∀g,fn= .func g->rC P (iF P μ h w res h') ((callFunc g args'.toArray).run P w))/\(∀l k,fn= .yield l->μ l=some k->rC P (iF P μ h w res h') ((Instr.yield k.r args'.toArray).run P w))
def vR(P:Program)(T:Nat->Option aq)(n:Nat):Prop:=∀f args h res h',jM T n f args h=some (res,h')->h.log=[]->∀μ w args',R P μ h w->LR μ args args'→
 rC P (iF P μ h w res h') ((callFunc f args'.toArray).run P w)
def A8(P:Program)(T:Nat->Option aq)(n:Nat):Prop:=∀results ds pan e h h1 res h',rL T n results ds pan e h h1=some (res,h')->AS h.next h h1→
 ∀(fn:Func) μ w μ1 w1 tmps mds u,F3 P fn.results.toList=some results->R P μ h w->R P μ1 h1 w1->St μ h w μ1 h1 w1->dH μ1 e tmps->DR μ1 h1 w1 w.heap.size ds mds->Gz μ1 pan u→
  LeavesInM Fence.wide 0 P fn tmps (iF P μ h w res h') mds u w1
def uK(P:Program)(T:Nat->Option aq)(n:Nat):Prop:=∀g args pan h pan' h',mK T n g args pan h=some (pan',h')->h.log=[]->∀μ w args' u,R P μ h w->LR μ args args'→Gz μ pan u→
 CallsDIn Fence.wide 0 P g args'.toArray u w λen u' w'=>∃v μ',en= .returned v/\R P μ' h' w'∧St μ h w μ' h' w'∧Gz μ' pan' (settle u')
def tg(P:Program)(T:Nat->Option aq)(n:Nat):Prop:=∀base ac e pan h x e' pan' h',jE T n base ac e pan h=some (x,e',pan',h')->base<=h.next→
 ∀c nt μ w (a:Act) (c0:Frame) cs u,ir P nt c ac->nt<=a.tmps.size->R P μ h w->dH μ e a.tmps->a.defers=[]->yq μ pan u→
  c.wpSIn Fence.wide 0 P (λex a' cs' w'=>∃μ' u',XR μ' x ex/\R P μ' h' w'∧St μ h w μ' h' w'∧dH μ' e' a'.tmps/\a'.defers=[]/\a'.tmps.size=a.tmps.size/\cs'={c0 with mode:=u'}::cs/\yq μ' pan' u') a ({c0 with mode:=u}::cs) w
def vT(P:Program)(T:Nat->Option aq)(n:Nat):Prop:=∀base as e pan h x e' pan' h',lu T n base as e pan h=some (x,e',pan',h')->base<=h.next→
 ∀(ops:Array Oper) i nt μ w (a:Act) (c0:Frame) cs u,i<=ops.size->cS P nt ops (ops.toList.drop i)=some as->nt<=a.tmps.size->R P μ h w->dH μ e a.tmps->a.defers=[]->yq μ pan u→
  wpOpsSIn Fence.wide 0 P ops (λex a' cs' w'=>∃μ' u',XR μ' x ex/\R P μ' h' w'∧St μ h w μ' h' w'∧dH μ' e' a'.tmps/\a'.defers=[]/\a'.tmps.size=a.tmps.size/\cs'={c0 with mode:=u'}::cs/\yq μ' pan' u')
   (List.range' i (ops.size-i)) a ({c0 with mode:=u}::cs) w
structure eZ (P:Program) (T:Nat->Option aq):Prop where
 mixed:P.follows .mixedOrders=true
 code:∀f c rs,T f=some (.code c rs)->∃fn ks,P.funcs[f]? =some fn/\aI P fn ks=some (.code c rs)
 mW:∀f p args h v h',T f=some (.mW p)->p args h=some (v,h')->h.log=[]->AS h.next h h'∧∀μ w args',R P μ h w->LR μ args args'→rC P (iF P μ h w (.ret v) h') ((callFunc f args'.toArray).run P w)
def eZ.aK(g:eZ P T):aK T:=λf p a h v b c d e=>(g.mW f p a h v b c d e).1
variable {μ:Mu} {h:Heap} {w:World} {e:Env} {a:Act} {base:Nat}
def vu{d:AOp}(a:iy P op=some d)(e:∀f as,d≠ .lI f as):∀c,op≠ .defer c:=by
 intro c b;subst b;unfold iy at a;split at a
 ·dsimp only at a;split at a
  ·cases a;exact e _ _ rfl
  ·cases a
 ·cases a
variable{os:List Oper}
def iV{ops:Array Oper}{d:bg}{as:List bg}(a:cS P nt ops (o::os)=some (d::as)):
 mQ nt o.dst=true/\d.dst=o.dst/\iy P o.op=some d.op/\cS P nt ops os=some as∧
 ∀{e:Env} {μ:Mu} {t:Array Value} {b:Bool},(∀s b0,d.guard=some (s,b0)->∀v,geT e s=some v->∃f,t[s]? =some f∧VR μ v f)->cg e d.guard=some b->Region.wanted o (yielded ops t)=b:=by
 simp only[cS]at a;split at a
 ·rename_i hd;split at a
  ·rename_i a2 as2 h1 h2;split at a
   ·rename_i hg;cases a;refine⟨hd,rfl,h1,h2,λ{e μ t b} _ c=> ?_⟩;cases c;simp[Region.wanted,hg]
   ·rename_i j b0 hg;split at a
    ·rename_i s hs;cases a;refine⟨hd,rfl,h1,h2,λ{e μ t b} i c=> ?_⟩;simp only[cg]at c;simp only[Region.wanted,hg,yielded,hs,Option.bind_some];split at c
     ·rename_i x hx;cases c;obtain⟨f,g,h⟩:=i s b0 rfl _ hx;cases h;simp[g]
     ·rename_i v hv hx;cases c;obtain⟨f,g,h⟩:=i s b0 rfl _ hx;simp only[g];cases h<;>first|rfl|exact(hv _ rfl).elim
     ·cases c
    ·cases a
  ·cases a
 ·cases a
def rz{ops:Array Oper}{c:bg}{as:List bg}(f:cS P nt ops (o::os)=some (c::as))(d:dH μ e a.tmps){b:Bool}(h:cg e c.guard=some b):
 Region.wanted o (yielded ops a.tmps)=b:=(iV f).2.2.2.2 (λs _ _ v g=>d s v g) h
def FY{i:Nat}(h:i<n):List.range' i (n-i)=i::List.range' (i+1) (n-(i+1)):=by
 rw[show n-i=(n-(i+1))+1 by omega,List.range'_succ]
def Br{ops:Array Oper}{i:Nat}(h:ops.toList.drop i=o::os):i<ops.size/\ops[i]? =some o/\ops.toList.drop (i+1)=os:=by
 have a:i<ops.toList.length:=by
  apply Classical.byContradiction;intro b;rw[List.drop_eq_nil_of_le ω]at h;cases h
 rw[Ix a]at h;injection h with h1 h2
 refine⟨by simpa using a,?_,h2⟩;have:ops.toList[i]? =some o:=by rw[bx a,h1]
 simpa using this
def As{j:Option Nat}{r:Result Next}(hr:Ran P μ h w base r v h')
 (g:∀μ' c b,VR μ' v c→R P μ' h' b→St μ h w μ' h' b→next (a.put o.dst c) b):o.uponIn (Fw j) 0 P a next Q r:=by
 obtain⟨μ',c,b,i,d,e,f,_⟩:=hr;rcases i with rfl|⟨rfl,rfl⟩
 ·exact g _ _ _ d e f
 ·exact g _ _ _ d e f
variable{F:Fence}{K j:Act->World->Prop}
def Gm{g:Exit->Act->World->Prop}(d:∀a w,K a w->j a w)(f:∀e a w,Q e a w->g e a w){r:Result Next}(b:o.uponIn F n P a K Q r):
 o.uponIn F n P a j g r:=by
 have k:LetsOut Q->LetsOut g:=λ⟨a,w,h⟩=>⟨a,w,f _ _ _ h⟩;cases r with
 |ok x w'=>
  cases x<;>simp only[Oper.uponIn]at b⊢ <;>
   first
    |exact d _ _ b
    |exact⟨b.1,CallsIn.mono b.2 (λe i c=>by cases e<;>first|exact d _ _ c|exact f _ _ _ c|exact k c)⟩
    |exact⟨b.1,RowsIn.mono b.2 (λ_ _ c=>d _ _ c)⟩
    |exact⟨b.1,RoundIn.mono b.2 (λe i c=>by cases e<;>first|exact d _ _ c|exact f _ _ _ c|exact k c)⟩
 |halt x w'=>cases x<;>simp only[Oper.uponIn]at b⊢ <;>first|exact b|exact f _ _ _ b
def ia{F:Fence}{n:Nat}{ops:Array Oper}{Q c:Exit->Act->World->Prop}(b:∀e a w,Q e a w->c e a w):∀(l:List Nat) (a:Act) (w:World),wpOpsIn F n P ops Q l a w->wpOpsIn F n P ops c l a w
 |[],_,_,h=>b _ _ _ h
 |i::l,a,w,h=>by
  simp only[wpOpsIn]at h⊢;split at h
  ·exact ia b l _ _ h
  ·rename_i o ho;split at h
   ·rename_i hw;rw[if_pos hw];exact⟨h.1,Gm (λa w=>ia b l a w) b h.2⟩
   ·rename_i hw;rw[if_neg hw];exact⟨h.1,ia b l _ _ h.2⟩
def ic{a:Option Nat}{f:FuncId}:(Fw a).fn f:=trivial
def wR.succ(hT:eZ P T)(hO:wR P T n)(hC:tf P T n):wR P T (n+1):=by
 intro base aE as e ds h x e' F h' d Z ops i m nt μ w a rd lo hi y A s r I Q aw;cases m with
 |zero=>
  simp only[ST,cS]at y;cases y;simp only[iC]at d;cases d;exact⟨μ,trivial,s, .refl _ _ _,r,I,rfl⟩
 |succ m=>
  cases hdr:ops.toList.drop i with
  |nil=>
   have:=List.drop_eq_nil_iff.1 hdr;simp at this;omega
  |cons o os=>
   cases as with
   |nil=>
    rw[hdr]at y;simp only[Sp,cS]at y;repeat' split at y
    all_goals cases y
   |cons ao as=>
    rw[hdr,Sp]at y;obtain⟨bj,O,N⟩:=Br hdr;obtain⟨U,V,M,c4,_⟩:=iV y;rw[List.range'_succ];simp only[iC]at d;simp only[wpOpsIn,O];rw[←N]at c4
    have X:∀{μ1:Mu} {j:Heap} {B:World} {C:Act} {H:Env} {G:Dfs},iC T n base aE as H G j=some (x,e',F,h')->base<=j.next->h.next<=j.next->C.tmps.size=a.tmps.size->R P μ1 j B->St μ h w μ1 j B→
     dH μ1 H C.tmps->DR μ1 j B lo G C.defers->wpOpsIn (Fw rd) 0 P ops (Post P μ h w lo a.tmps.size x e' F h') (List.range' (i+1) m) C B:=by
     intro μ1 j B C H G p K q k4 k5 k6 k7 k8;have z:=k6.mono s;have:=hO _ _ _ _ _ _ _ _ _ _ p K ops (i+1) m nt μ1 B C rd lo ω c4 ω k5 k7 k8 (Q.mono z) (gy aw k6.le);rw[k4]at this;have mo:∀(l:List Nat) (C:Act) (B:World),wpOpsIn (Fw rd) 0 P ops (Post P μ1 j B lo a.tmps.size x e' F h') l C B->True:=λ_ _ _ _=>trivial;clear mo;exact ia (λ_ _ _ hp=>hp.trans k6 q) _ _ _ this
    split at d
    ·rename_i hw;rw[rz y r hw];simp only[Cl,if_false];refine⟨λ_ _=>ic,?_⟩;refine X d Z (bl _) (ef _ _ _) s (.refl _ _ _) ?_ ?_
     ·rw[V];exact r.put U A (VR.dA (v:=undef) rfl).1
     ·rw[put_defers];exact I
    ·rename_i hw;rw[rz y r hw];simp only[if_true];refine⟨λ_ _=>ic,?_⟩;split at d
     ·rename_i v j b;rw[Oper.semAt_eq _ _ _ (vu M λf ae hf=>by rw[hf]at b;simp only[aop]at b;repeat' split at b;all_goals cases b)];have Y:=rK b;refine As (Jd s r M b) λμ' v' E p K q=> ?_;have z:=q.mono s;refine X d (gy Z Y.next) Y.next (ef _ _ _) K q ?_ ?_
      ·rw[V];exact(r.mono z).put U A p
      ·rw[put_defers];exact I.step q z
     ·rename_i fn args j b;obtain⟨rfl,nd,t,ha,J⟩:=Dc s r M b;rw[Oper.semAt_eq _ _ _ nd];have ar:R P μ ((η j):Heap) w:=s.congr rfl rfl;have S:∀L D,iw T n fn args (η j)=some (L,D)->rC P (iF P μ ((η j):Heap) w L D) ((execOp a.eval o).run P w):=λL D c=>by
       obtain⟨g1,g2⟩:=hC _ _ _ _ _ c rfl μ w t ar ha;rcases J with⟨g,H,e2⟩|⟨l,k,H,e2,e3⟩
       ·rw[e2];exact g1 g H
       ·rw[e3];exact g2 l k H e2
      split at d
      ·rename_i v D c;have Y:=(fN.all hT.aK n).kF _ _ _ _ _ c rfl;have hn:j.next<=D.next:=Y.next
       refine jY (S _ _ c) (λv' E b=> ?_) (λch E b=> ?_) (λE b=> ?_)
       ·obtain⟨μ',p,K,q⟩:=b;have q:St μ j w μ' D E:=q.rR rfl rfl;have z:=q.mono s;refine X d (gy Z hn) hn (ef _ _ _) (K.congr rfl rfl) (q.jF rfl) ?_ ?_
        ·rw[V];exact(r.mono z).put U A p
        ·rw[put_defers];exact I.step (q.jF rfl) z
       ·obtain⟨μ',p,_⟩:=b;exact p.elim
       ·obtain⟨μ',p,_⟩:=b;exact p.elim
      ·rename_i v D c;cases d;refine jY (S _ _ c) (λv' E b=> ?_) (λch E b=> ?_) (λE b=> ?_)
       ·obtain⟨μ',p,_⟩:=b;exact p.elim
       ·obtain⟨μ',p,K,q⟩:=b;have q:St μ j w μ' D E:=q.rR rfl rfl;have z:=q.mono s;exact⟨μ',p,K.congr rfl rfl,q.jF rfl,r.mono z,I.step (q.jF rfl) z,rfl⟩
       ·obtain⟨μ',p,_⟩:=b;exact p.elim
      ·cases d
     ·rename_i f args b;split at d
      ·cases d
      ·have:rd=none:=Q;subst this;obtain⟨g,first,be,W,ba,t,rfl,l1,l2,l3,u⟩:=Sz s r M b;have:(Fw none).round=none:=rfl;rw[this,Oper.semAt_none,u];refine X d Z (bl _) (by rw[ef]) s (.refl _ _ _) ?_ ?_
       ·rw[V];exact dH.put (a:={a with defers:=_::a.defers}) r U A (VR.dA (v:=undef) rfl).1
       ·rw[put_defers];exact .cons l1 l2 l3 I
     ·rename_i v j b;obtain⟨rfl,v',p,u⟩:=OK s r M b;cases d;rw[Oper.semAt_eq _ _ _ (vu M λf ae hf=>by rw[hf]at b;simp only[aop]at b;repeat' split at b;all_goals cases b),u];exact⟨μ,⟨v',rfl,p⟩,s, .refl _ _ _,r,I,rfl⟩
     ·cases d
    ·cases d
def Ii{c:Code}(h:c.wpIn F n P (Exit.noGoto Q) a w):(Code.scope c).wpIn F n P Q a w:=by
 intro b k f r m p;have st1:step P (lone (b.atR a (.code (.scope c)::k)) f w)= .next (lone (b.atR a (.code c:: .inScope c::k)) f w):=step_lone_go (by simp[stepG,stepG.exec,Frame.atR])
 have st2:∀(a:Act) (w:World),step P (lone (b.atR a (.inScope c::k)) f w)= .next (lone (b.atR a k) f w):=λa w=>step_lone_go (by simp[stepG,stepG.exec,Frame.atR])
 have h0:(lone (b.atR a (.code (.scope c)::k)) f w).fenced P F:=fenced_calm m p rfl;obtain⟨e,i,j,g,d⟩:=h b (.inScope c::k) f r m p;cases e with
 |normal=>exact⟨.normal,i,j,g, .head h0 st1 (StepsIn.trans d (.one (fenced_calm m p rfl) (st2 _ _)))⟩
 |exit id'=>
  have s:exitTo id' (.inScope c::k)=exitTo id' k:=by simp[exitTo]
  exact⟨.exit id',i,j,g,λt o=> .head h0 st1 (d.1 t (by rw[s];exact o)),
   λq o=>let⟨k₁,h1,h2⟩:=d.2 q (by rw[s];exact o);⟨k₁,h1, .head h0 st1 h2⟩⟩
 |goto l=>exact g.elim
 |ret=>exact⟨_,i,j,g, .of_steps (.one h0 st1) d⟩
 |panic ch=>exact⟨_,i,j,g, .of_steps (.one h0 st1) d⟩
 |outgrown=>exact⟨_,i,j,g, .of_steps (.one h0 st1) d⟩
def ir.inv{c:Code}{e:aZ}(h:ir P nt c e):
 match e with
 | .skip=>c= .skip∨∃l,c= .label l
 | .region as _=>∃id ops,c= .region id ops false/\cS P nt ops ops.toList=some as
 | .draw as ord bf _=>∃id ops,c= .region id ops true/\cS P nt ops ops.toList=some as/\y9 as ops.toList ord bf=true
 | .seq a b=>∃x y,c= .seq x y/\ir P nt x a/\ir P nt y b
 | .cond o a b=>∃x y,c= .cond o x y/\aP P o=true/\ir P nt x a/\ir P nt y b
 | .block id b=>∃x,c= .block id x/\ir P nt x b
 | .loop b=>∃x,c= .loop x/\ir P nt x b
 | .scope b=>∃x,c= .scope x/\ir P nt x b
 | .rangeFunc f ps a b=>∃pa x y,c= .rangeFunc f pa x y/\pa.toList=ps/\aP P f=true/\(∀t∈ps,t<nt)/\ir P nt x a/\ir P nt y b
 | .rangeMap ops0 it ox keep out nxt pr ops2 k2 body=>∃y z ops nx mo k zC,c= .seq y z/\ir P nt y (.region ops zC)/\AK ops=some (ops0,⟨some it, .oU ox,none⟩)∧
  ir P nt z (.block out (.loop (.seq (.region [⟨some nx, .next (.tmp it) false,none⟩,⟨some mo, .extract (.tmp nx) 0,none⟩] k) (.seq (.cond (.tmp mo) .skip (.exit out)) (.block nxt (.seq (.region (⟨some pr, .entry (.tmp it),none⟩::ops2) k2) body))))))∧
  nx≠mo/\it≠nx/\it≠mo/\(∀t∈keep,t≠it/\t≠nx/\t≠mo)
 | .exit id=>c= .exit id
 | .ret=>c= .ret:=by
 obtain⟨p,n,h⟩:=h;cases c<;>simp only[comp]at h<;>(try (cases h;done))
 case skip=>cases h;exact .inl rfl
 case label l=>cases h;exact .inr ⟨l,rfl⟩
 case scope b=>
  split at h
  ·cases h;exact⟨_,rfl,⟨_,_,τ⟩⟩
  ·cases h
 case exit=>cases h;rfl
 case ret=>cases h;rfl
 case region id ops d hold=>
  split at h
  ·split at h
   ·rename_i hd;split at h
    ·rename_i hk;cases h;exact⟨id,ops,by rw[hd],τ,hk⟩
    ·cases h
   ·rename_i hd;cases h;exact⟨id,ops,by simp[hd],τ⟩
  ·cases h
 case seq a b=>
  split at h
  ·rename_i a' ks1 hca;split at h
   ·rename_i b' ks2 hcb;injection h with h
    injection h with h h'
    unfold YC at h;split at h
    ·rename_i c' hf;subst h;unfold fuse? at hf;split at hf
     ·unfold Ux at hf;split at hf
      ·split at hf
       ·rename_i hu hc;obtain⟨rfl,rfl,rfl,rfl,rfl,g,i,j⟩:=hc;cases hf;refine⟨_,_,_,_,_,_,_,rfl,⟨_,_,hca⟩,hu,⟨_,_,hcb⟩,g,i,j,λt m=> ?_⟩;have:=(List.mem_filter.1 m).2;simp only[beq_eq,Id,xn,decide_eq_false_iff_not]at this;exact⟨this.1.1,this.1.2,this.2⟩
       ·cases hf
      ·cases hf
     ·cases hf
    ·subst h;exact⟨_,_,rfl,⟨_,_,hca⟩,⟨_,_,hcb⟩⟩
   ·cases h
  ·cases h
 case cond o a b=>
  split at h
  ·split at h
   ·split at h
    ·cases h;exact⟨_,_,rfl,τ,⟨_,_,τ⟩,⟨_,_,τ⟩⟩
    ·cases h
   ·cases h
  ·cases h
 case block id b=>
  split at h
  ·cases h;exact⟨_,rfl,⟨_,_,τ⟩⟩
  ·cases h
 case loop b=>
  split at h
  ·cases h;exact⟨_,rfl,⟨_,_,τ⟩⟩
  ·cases h
 case rangeFunc f ps a b=>
  split at h
  ·rename_i hc;simp only[gk,PP,G7]at hc;split at h
   ·split at h
    ·cases h;exact⟨ps,_,_,rfl,rfl,hc.1,hc.2,⟨_,_,τ⟩,⟨_,_,τ⟩⟩
    ·cases h
   ·cases h
  ·cases h
def vS(P:Program)(T:Nat->Option aq)(n:Nat):Prop:=∀base rnd ab e ds h x e' ds' h',di T n base rnd (.loop ab) e ds h=some (x,e',ds',h')->base<=h.next→
 ∀c nt μ w (a:Act) rd lo,ir P nt c ab->nt<=a.tmps.size->R P μ h w->dH μ e a.tmps->DR μ h w lo ds a.defers->RdR μ rnd rd->lo<=w.heap.size→
  c.roundsIn (Fw rd) 0 P (Post P μ h w lo a.tmps.size x e' ds' h') n a w
variable{sz:Nat}
def Post.map{a:Dfs}(keep:List Nat){c:Exit}{b:Act}(d:Post P μ h w lo sz .normal e' a h' c b w'):Post P μ h w lo sz .normal (cZ e' keep) a h' c b w':=by
 obtain⟨μ',e,f,g,i,j⟩:=d;exact⟨μ',e,f,g,i.keep keep,j⟩
def Post.normal{x:bO}{a:Dfs}{b:Act}(c:Post P μ h w lo sz x e' a h' .normal b w'):x= .normal:=by
 obtain⟨μ',d,_⟩:=c;cases x<;>first|rfl|exact d.elim
variable {μ:Mu} {h:Heap} {w:World} {e:Env} {a:Act} {base:Nat}
def eW{c:Code}{b:Exit->Act->World->Prop}(d:∀e a w,Q e a w->b e a w)(h:c.wpIn F n P Q a w):c.wpIn F n P b a w:=Go.wpIn_mono h d
def ua{F:Fence}{n:Nat}{c:Code}{Q b:Exit->Act->World->Prop}(d:∀e a w,Q e a w->b e a w):∀(m:Nat) (a:Act) (w:World),c.roundsIn F n P Q m a w->c.roundsIn F n P b m a w
 |0,_,_,h=>h
 |m+1,a,w,h=>eW (λe a w q=>by cases e<;>first|exact ua d m _ _ q|exact d _ _ _ q) h
def vS.succ(F:eZ P T)(B:oM P T n)(E:vS P T n):vS P T (n+1):=by
 intro base L M e N h x O D Q j o c t μ w a v s r m q k A g f;simp only[di]at j;split at j
 ·rename_i e1 ds1 h2 hq;have z:=(fN.all F.aK n).exec _ _ _ _ _ _ _ _ _ _ hq o;have:=B _ _ _ _ _ _ _ _ _ _ hq o c t μ w a v s r m q k A g f;refine eW (λp y C b=> ?_) this;cases p with
  |normal=>
   obtain⟨μ',d,H,u,I,J,K⟩:=b;have G:=u.mono q;have:=E _ _ _ _ _ _ _ _ _ _ j (gy o z.next) c t μ' C y v s r ω H I J (g.mono G) (gy f u.le);rw[K]at this;exact ua (λ_ _ _ b=>b.trans u z.next) _ _ _ this
  |exit i=>obtain⟨μ',d,_⟩:=b;exact d.elim
  |goto l=>obtain⟨μ',d,_⟩:=b;exact d.elim
  |ret=>obtain⟨μ',d,_⟩:=b;exact d.elim
  |panic ch=>obtain⟨μ',d,_⟩:=b;exact d.elim
  |outgrown=>obtain⟨μ',d,_⟩:=b;exact d.elim
 ·rename_i hne;have:=B _ _ _ _ _ _ _ _ _ _ j o c t μ w a v s r m q k A g f;refine eW (λp y C b=> ?_) this;cases p with
  |normal=>have:=b.normal;subst this;exact(hne _ _ _ j).elim
  |_=>exact b
def oM.Zw(hT:eZ P T)(Q:oM P T n)(hO:wR P T n)(V:Lw P T n)(hL:vS P T (n+1))
 (ae:∀base H ops it ox keep out nxt pr ops2 k2 body e M h x K v L,di T (n+1) base H (.rangeMap ops it ox keep out nxt pr ops2 k2 body) e M h=some (x,K,v,L)→base≤h.next→
   ∀c C μ w (a:Act) A u,ir P C c (.rangeMap ops it ox keep out nxt pr ops2 k2 body)->C<=a.tmps.size->R P μ h w->dH μ e a.tmps->DR μ h w u M a.defers->RdR μ H A->u<=w.heap.size->c.wpIn (Fw A) 0 P (Post P μ h w u a.tmps.size x K v L) a w)
 (Z:∀base H f ps asg body e M h x K v L,di T (n+1) base H (.rangeFunc f ps asg body) e M h=some (x,K,v,L)→base≤h.next→
   ∀c C μ w (a:Act) A u,ir P C c (.rangeFunc f ps asg body)->C<=a.tmps.size->R P μ h w->dH μ e a.tmps->DR μ h w u M a.defers->RdR μ H A->u<=w.heap.size->c.wpIn (Fw A) 0 P (Post P μ h w u a.tmps.size x K v L) a w):
 oM P T (n+1):=by
 intro base H ac e M h x K v L k G c C μ w a A u I r B d D s m;have hA:=fN.all hT.aK n;cases ac;case rangeFunc f ps asg body=>exact Z _ _ _ _ _ _ _ _ _ _ _ _ _ k G c C μ w a A u I r B d D s m
 case rangeMap ops it ox keep out nxt pr ops2 k2 body=>exact ae _ _ _ _ _ _ _ _ _ _ _ _ _ _ _ _ _ _ _ k G c C μ w a A u I r B d D s m
 case loop b=>
  obtain⟨y,rfl,J⟩:=I.inv;exact wpIn_loop_rounds _ (hL _ _ _ _ _ _ _ _ _ _ k G y C μ w a A u J r B d D s m)
 case skip=>
  have ar:c= .skip∨∃l,c= .label l:=I.inv;simp only[di]at k;cases k;rcases ar with rfl|⟨l,rfl⟩
  ·exact wpIn_skip ⟨μ,trivial,B, .refl _ _ _,d,D,rfl⟩
  ·exact wpIn_label ⟨μ,trivial,B, .refl _ _ _,d,D,rfl⟩
 case scope b=>
  obtain⟨y,rfl,J⟩:=I.inv;simp only[di]at k;refine Ii (eW (λN S Y t=> ?_) (Q _ _ _ _ _ _ _ _ _ _ k G y C μ w a A u J r B d D s m));cases N with
  |goto l=>obtain⟨μ',E,_⟩:=t;cases x<;>exact E.elim
  |_=>exact t
 case exit i=>
  have:c= .exit i:=I.inv;subst this;simp only[di]at k;cases k;exact wpIn_exit ⟨μ,rfl,B, .refl _ _ _,d,D,rfl⟩
 case ret=>
  have:c= .ret:=I.inv;subst this;simp only[di]at k;cases k;exact wpIn_ret ⟨μ,trivial,B, .refl _ _ _,d,D,rfl⟩
 case region as keep=>
  obtain⟨id,ops,rfl,O⟩:=I.inv;simp only[di]at k;refine wpIn_region ?_;have run:∀x K v L,iC T n base H as e M h=some (x,K,v,L)->wpOpsIn (Fw A) 0 P ops (Post P μ h w u a.tmps.size x K v L) (List.range ops.size) a w:=λx K v L F=>by
   have:=hO _ _ _ _ _ _ _ _ _ _ F G ops 0 ops.size C μ w a A u ω (by rw[ww,go (by simp)];exact O) r B d D s m;rw[←List.range_eq_range']at this;exact this
  split at k
  ·rename_i F;cases k;exact ia (λ_ _ _ t=>t.map keep) _ _ _ (run _ _ _ _ F)
  ·exact run _ _ _ _ k
 case draw as ord bf keep=>
  obtain⟨id,ops,rfl,O,W⟩:=I.inv;simp only[di]at k;split at k
  ·rename_i F;cases k;exact eW (λ_ _ _ t=>t.map keep) (V _ _ _ _ _ _ _ _ _ F G ops C μ w a A u M id O W r B d D (.inr trivial) m)
  ·rename_i F;cases k;exact V _ _ _ _ _ _ _ _ _ F G ops C μ w a A u M id O W r B d D (.inr trivial) m
  ·cases k
 case seq p q=>
  obtain⟨y,z,rfl,J,hz⟩:=I.inv;simp only[di]at k;refine wpIn_seq ?_;split at k
  ·rename_i e1 ds1 h2 F;have U:=hA.exec _ _ _ _ _ _ _ _ _ _ F G;refine eW (λN S Y t=> ?_) (Q _ _ _ _ _ _ _ _ _ _ F G y C μ w a A u J r B d D s m);cases N with
   |normal=>
    obtain⟨μ',E,X,q3,q4,q5,q6⟩:=t;have hm:=q3.mono B;have:=Q _ _ _ _ _ _ _ _ _ _ k (gy G U.next) z C μ' Y S A u hz ω X q4 q5 (s.mono hm) (gy m q3.le);rw[q6]at this;exact eW (λ_ _ _ t=>t.trans q3 U.next) this
   |exit i=>obtain⟨μ',E,_⟩:=t;exact E.elim
   |goto l=>obtain⟨μ',E,_⟩:=t;exact E.elim
   |ret=>obtain⟨μ',E,_⟩:=t;exact E.elim
   |panic ch=>obtain⟨μ',E,_⟩:=t;exact E.elim
   |outgrown=>obtain⟨μ',E,_⟩:=t;exact E.elim
  ·rename_i hne;refine eW (λN S Y t=> ?_) (Q _ _ _ _ _ _ _ _ _ _ k G y C μ w a A u J r B d D s m);cases N with
   |normal=>have:=t.normal;subst this;exact(hne _ _ _ k).elim
   |_=>exact t
 case cond o p q=>
  obtain⟨y,z,rfl,ho,J,hz⟩:=I.inv;simp only[di]at k;split at k
  ·rename_i F;have g:=dF B d ho F;generalize hev:a.eval o=ov at g;cases g;exact wpIn_cond_true hev (Q _ _ _ _ _ _ _ _ _ _ k G y C μ w a A u J r B d D s m)
  ·rename_i F;have g:=dF B d ho F;generalize hev:a.eval o=ov at g;cases g;exact wpIn_cond_false hev (Q _ _ _ _ _ _ _ _ _ _ k G z C μ w a A u hz r B d D s m)
  ·cases k
 case block id b=>
  obtain⟨y,rfl,J⟩:=I.inv;simp only[di]at k;refine wpIn_block ?_;split at k
  ·rename_i i e1 ds1 h2 F;refine eW (λN S Y t=> ?_) (Q _ _ _ _ _ _ _ _ _ _ F G y C μ w a A u J r B d D s m);obtain⟨μ',E,X⟩:=t;cases N<;>first|exact E.elim|skip
   rename_i j;have aw:i=j:=E;subst aw;simp only[cond_eq_ite,beq_eq,decide_eq_true_eq]at k;simp only[Exit.inBlock];split at k
   ·rename_i hi;cases k;rw[if_pos hi];exact⟨μ',trivial,X⟩
   ·rename_i hi;cases k;rw[if_neg hi];exact⟨μ',rfl,X⟩
  ·rename_i hne;refine eW (λN S Y t=> ?_) (Q _ _ _ _ _ _ _ _ _ _ k G y C μ w a A u J r B d D s m);cases N with
   |exit i=>
    obtain⟨μ',E,X⟩:=t;cases x<;>first|exact E.elim|skip
    exact(hne _ _ _ _ k).elim
   |_=>exact t
def R.Kg(d:R P μ h w){j:Obj}(e:w'.heap=w.heap.push j)(i:Same w w':=by exact⟨rfl,rfl,rfl,by first|exact bl _|exact xp _ _⟩):R P μ h w'∧St μ h w μ h w':=by
 have s:=size_push e;refine⟨⟨d.big,λg o m n=>let⟨k,a,b,c,x⟩:=d.mU g o m n;⟨k,a,b,c,x.get (fQ e _ (d.dom _ _ a).2)⟩,λb o f=>OR.mono (λ_ _ h=>h) rfl (λk p=>fQ e _ (d.dom _ _ p).2) (d.obj b o f),d.lt,λb k f=>⟨(d.dom b k f).1,by have:=(d.dom b k f).2;omega⟩,d.mu⟩,
  ⟨λ_ _=>rfl,ω,λr q _=>fQ e r q,λ_ _ h=>h,λr L l=>⟨L,(fQ e r (Array.getElem?_eq_some_iff.1 l).1).trans l, .refl L⟩,i⟩⟩
variable{l:Nat}{L:Loop}
def run_getLoop(a:w.heap[l]? =some (.loop L)):(Instr.getLoop l).run P w= .ok L w:=by
 simp only[Instr.getLoop,gR,j4 a (by simp),ed,oC]
variable{rnd:Option Nat}{asg body:aZ}
def MW{B:Option Nat}{C:Dfs}{ps:Array Tmp}{x y:Code}(fn:FuncId)(i:R P μ h w)(G:dH μ e a.tmps)(r:DR μ h w lo C a.defers)(m:RdR μ rnd B)(g:qS h rnd=true)(v:lo<=w.heap.size)
 (z:nt<=a.tmps.size)(A:∀t∈ps.toList,t<nt)(I:ir P nt x asg)(J:ir P nt y body):
 ∃l mark w1,(Instr.enterLoop fn a.tmps ps x y B).run P w= .ok (l,mark) w1/\R P (upd μ h.next ⟨l,0,0,0⟩) (h.push (.loop e ps.toList asg body 0 .normal)) w1∧
  St μ h w (upd μ h.next ⟨l,0,0,0⟩) (h.push (.loop e ps.toList asg body 0 .normal)) w1/\DR (upd μ h.next ⟨l,0,0,0⟩) (h.push (.loop e ps.toList asg body 0 .normal)) w1 lo C (mark++a.defers):=by
 have alloc:∀(w0:World) (d:Nat),R P μ h w0->St μ h w μ h w0->∀(L:Loop),L={state:= .ready,pending:=none,fn,tmps:=a.tmps,params:=ps,assign:=x,body:=y,defers:=d}→
  R P (upd μ h.next ⟨w0.heap.size,0,0,0⟩) (h.push (.loop e ps.toList asg body 0 .normal)) {w0 with heap:=w0.heap.push (.loop L)}∧
  St μ h w (upd μ h.next ⟨w0.heap.size,0,0,0⟩) (h.push (.loop e ps.toList asg body 0 .normal)) {w0 with heap:=w0.heap.push (.loop L)}:=λw0 d j u L f=>by
  obtain⟨n,c⟩:=j.alloc (w':={w0 with heap:=w0.heap.push (.loop L)}) (o:= .loop e ps.toList asg body 0 .normal) (k:=⟨w0.heap.size,0,0,0⟩) rfl rfl (λk q=>by
   rw[fM]at q;cases q;refine⟨L,by simp,?_,by rw[f],⟨nt,by rw[f];exact z,A,by rw[f];exact I,by rw[f];exact J⟩, .inl ⟨rfl,by rw[f],by rw[f],rfl⟩⟩;rw[f];exact G.mono λb T D=>by
    unfold upd;rw[if_neg];exact D;intro e;subst e;exact xc _ (j.dom _ _ D).1)
  exact⟨n,u.trans c (bl _)⟩
 cases rnd with
 |none=>
  have:B=none:=m;subst this;obtain⟨K,M⟩:=i.Kg (w':={w with heap:=w.heap.push (.deferred (some []))}) rfl;obtain⟨n,c⟩:=alloc _ w.heap.size K M _ rfl;refine⟨_,[{target:= .collected w.heap.size,args:= #[]}],_,?_,n,c,?_⟩
  ·simp only[Instr.enterLoop,gR,run_newObj,ed,oC]
  ·refine .mark v (λN as H=>r.marks N as H) ?_ ?_ (r.step c (c.mono i))
   ·simp[Array.getElem?_push]
   ·intro ⟨b,o,k,O,Q,S,p,F⟩;unfold upd at p;split at p
    ·cases p;simp at F
    ·have:=(i.dom b k p).2;omega
 |some la=>
  obtain⟨k,q,rfl⟩:=m;simp only[qS]at g;split at g
  ·rename_i hg;obtain⟨E,s,_⟩:=i.obj la _ hg k q;obtain⟨n,c⟩:=alloc w E.defers i (.refl _ _ _) _ rfl;refine⟨_,[],_,?_,n,c,r.step c (c.mono i)⟩;simp only[Instr.enterLoop,gR,run_getLoop s,ed,oC];simp only[run_newObj,ed,oC,gR]
  ·cases g
def kT(e:eZ P T){g:Nat}(b:iu (T g)=false)(args:Array Value)(w:World):(callFunc g args).run P w= .ok (.enter g args) w:=by
 unfold iu at b;split at b
 ·rename_i c rs hc;obtain⟨f,h,d,a⟩:=e.code g c rs hc;unfold aI at a;split at a
  ·rename_i body hb;split at a
   ·cases a
   ·rename_i hn;simp[callFunc,program,Sem.run,d,hb,hn]
  ·cases a
 ·cases b
def Tf(hT:eZ P T)(hC:vR P T n):∀base D f ps m b e J h x Y z h',di T (n+1) base D (.rangeFunc f ps m b) e J h=some (x,Y,z,h')->base<=h.next→
 ∀c nt μ w (a:Act) I H,ir P nt c (.rangeFunc f ps m b)->nt<=a.tmps.size->R P μ h w->dH μ e a.tmps->DR μ h w H J a.defers->RdR μ D I->H<=w.heap.size->c.wpIn (Fw I) 0 P (Post P μ h w H a.tmps.size x Y z h') a w:=by
 intro base D f ps m b e J h x Y z h' k hb c nt μ w a I H X cd K S hD cY be;obtain⟨Q,cx,cy,rfl,rfl,hf,cj,hx,hy⟩:=X.inv;simp only[di,cond_eq_ite]at k;split at k
 ·rename_i hra;split at k
  ·rename_i g first cap hfv
   split at k
   ·cases k
   ·rename_i s;have s:iu (T g)=false:=by simpa using s
    have gf:=dF K S hf hfv;generalize hev:a.eval f=fv' at gf;obtain⟨f',fa,fc,rfl,ba,l1,l2⟩:=gf.rY;cases ba;refine wpIn_rangeFunc (F:=Fw I) λfn _=> ?_;obtain⟨l,r,y,aE,q1,q2,q3⟩:=MW fn K S hD cY hra be cd cj hx hy;have hm:=q2.mono K;let args':List Value:=fa.toList++([.func (.yield l) #[] #[]]++fc.toList);have A:LR (upd μ h.next ⟨l,0,0,0⟩) (eL first.toList (eL [.func (.yield h.next) #[] #[]] cap.toList)) args':=by
     rw[dS,dS];refine(l1.mono hm).append (.append (.cons ?_ .nil) (l2.mono hm));exact VR.M3 (.yield (fM _ _ _)) .nil .nil
    have cJ:R P (upd μ h.next ⟨l,0,0,0⟩) ({h.push (.loop e Q.toList m b 0 .normal)with log:=[]}:Heap) y:=q1.congr rfl rfl;refine⟨l,r,y,{target:= .fn (.func g) fc,args:=fa++ #[.func (.yield l) #[] #[]]},y,g,args'.toArray,y,aE,?_,λ_ _=>ic,?_,λhq=>(by cases hq),?_⟩
    ·have aw:∀v:Value,a.eval (.const v)=v:=λ_=>rfl;simp[resolve,rangeCall,hev,Deferred.ofValue,aw]
    ·have:(fa++ #[.func (.yield l) #[] #[]])++fc=args'.toArray:=by apply fm;simp[args']
     simp only[invoke,this];exact kT hT s _ _
    ·have O:∀C hh,jM T n g (eL first.toList (eL [.func (.yield h.next) #[] #[]] cap.toList)) {h.push (.loop e Q.toList m b 0 .normal)with log:=[]}=some (C,hh)→
      CallsIn Fence.wide 0 P g args'.toArray y (iF P (upd μ h.next ⟨l,0,0,0⟩) ({h.push (.loop e Q.toList m b 0 .normal)with log:=[]}:Heap) y C hh):=λC hh hq=>by
      have:=hC _ _ _ _ _ hq rfl _ _ _ cJ A;rw[kT hT s]at this;exact this
     split at k
     ·rename_i v h2 hcall;have hA:=(fN.all hT.aK n).call _ _ _ _ _ hcall rfl;have d9:h.next+1<=h2.next:=hA.next
      refine CallsIn.mono (F:=Fw I) (O _ _ hcall) λZ j hp=> ?_;obtain⟨μ',E,G,o⟩:=hp;cases Z with
      |outgrown=>exact E.elim
      |panicked ch=>exact E.elim
      |returned v'=>
       have o:St (upd μ h.next ⟨l,0,0,0⟩) (h.push (.loop e Q.toList m b 0 .normal)) y μ' h2 j:=o.rR rfl rfl;have V:St μ h w μ' h2 j:=q2.trans o (Hm _);split at k
       ·rename_i le lps la lb st jy hg2;split at k
        ·cases k
        ·rename_i t;have t:st≠1:=by simpa[beq_eq]using t
         cases k;have hμ:μ' h.next=some ⟨l,0,0,0⟩:=by
          rw[o.ext h.next (eA _)];exact fM _ _ _
         obtain⟨L,U,_,_,_,u⟩:=G.obj h.next _ hg2 _ hμ
         have bj:l<j.heap.size:=(G.dom _ _ hμ).2
         obtain⟨r1,r2⟩:=G.write (base:=base) (o':= .dead) (w':={j with heap:=j.heap.setIfInBounds l (.loop {L with state:= .exhausted})}) hg2 rfl rfl hμ (by simp)
          (fun r' cX=>by simp[gS,Ne.symm cX]) ⟨fun c el fz X=>(by rw[U]at X;cases X),fun L' N=>(by
            rw[U]at N;cases N;exact⟨{L with state:= .exhausted},by simp[gS,bj],⟨rfl,rfl,rfl,rfl,rfl,rfl⟩⟩)⟩ trivial
         have B:L.state≠ .busy:=by
          rcases u with⟨_,q,_⟩|⟨q,_⟩|⟨_,q,_⟩
          ·rw[q];simp
          ·exact(t q).elim
          ·rw[q];simp
         have p:(Instr.endLoop l).run P j= .ok L.pending {j with heap:=j.heap.setIfInBounds l (.loop {L with state:= .exhausted})}:=by
          have ar:(L.state==LoopState.busy)=false:=by
           cases hs:L.state<;>first|rfl|exact(B hs).elim
          simp only[Instr.endLoop,gR,run_getLoop U,ed,ar,Cl,if_false];simp[setObj,Sem.run,U]
         have M:St μ h w μ' (Heap.wr {h2 with log:=aJ base h.log h2.log} base h.next .dead) {j with heap:=j.heap.setIfInBounds l (.loop {L with state:= .exhausted})}:=by
          refine St.jF (h1:=h2.wr base h.next .dead) ?_ rfl;exact V.trans r2 ω
         have bo:=M.mono K;have ae:DR μ' (Heap.wr {h2 with log:=aJ base h.log h2.log} base h.next .dead) {j with heap:=j.heap.setIfInBounds l (.loop {L with state:= .exhausted})} H J (r++a.defers):=by
          have d1:=q3.step o (o.mono q1);have d2:=d1.step r2 (r2.mono G);exact d2.step (St.jF (h1:=h2.wr base h.next .dead) (.refl _ _ _) rfl) (λ_ _ h=>h)
         have d:∀ex,XR μ' x ex->Post P μ h w H a.tmps.size x e J (Heap.wr {h2 with log:=aJ base h.log h2.log} base h.next .dead) ex {a with defers:=r++a.defers} {j with heap:=j.heap.setIfInBounds l (.loop {L with state:= .exhausted})}:=
          λex hx=>⟨μ',hx,r1.congr rfl rfl,M,S.mono bo,ae,rfl⟩
         revert d p;generalize({j with heap:=j.heap.setIfInBounds l (.loop {L with state:= .exhausted})}:World)=W;intro p d;refine⟨L.pending,W,p,?_⟩;rcases u with⟨_,_,q,q'⟩|⟨q,_⟩|⟨_,_,q⟩
         ·rw[q];subst q';exact d .normal trivial
         ·exact(t q).elim
         ·cases x with
          |normal=>rw[show L.pending=none from q];exact d .normal trivial
          |exit i=>rw[show L.pending=some (.exit i)from q];exact wpIn_exit (d (.exit i) rfl)
          |ret=>rw[show L.pending=some .ret from q];exact wpIn_ret (d .ret trivial)
          |panic v=>exact q.elim
       ·cases k
     ·rename_i v h2 hcall;cases k;refine CallsIn.mono (F:=Fw I) (O _ _ hcall) λZ j hp=> ?_;obtain⟨μ',E,G,o⟩:=hp;cases Z with
      |outgrown=>exact E.elim
      |returned v'=>exact E.elim
      |panicked ch=>
       have o:St (upd μ h.next ⟨l,0,0,0⟩) (h.push (.loop e Q.toList m b 0 .normal)) y μ' h2 j:=o.rR rfl rfl;have V:St μ h w μ' h2 j:=q2.trans o (Hm _);exact⟨μ',E,G.congr rfl rfl,V.jF rfl,S.mono (V.mono K),(q3.step o (o.mono q1)).step (St.jF (h1:=h2) (.refl _ _ _) rfl) (λ_ _ h=>h),rfl⟩
     ·cases k
  ·cases k
 ·cases k
variable{ps:List Nat}
def KV{a:Heap}(q:h.get l=some (.loop e ps asg body 0 .normal))(j:AS h.next h a)
 (i:AS h.next {a with cU:=jI a.cU l (.loop e ps asg body 1 .normal)} c)(s:(c.get l).isSome):AS h.next h {c with cU:=jI c.cU l (.loop e ps asg body 0 .normal)}:=by
 have g:=j.next
 have m:a.next<=c.next:=i.next
 refine⟨gy g m,?_,λb d f=>i.mono b d (j.mono b d f),λb d n f=> ?_⟩
 ·show(jI c.cU l _).map (·.1)=_;rw[nk,i.keys];show _++(jI a.cU l _).map (·.1)=_;rw[nk,j.keys,←List.append_assoc];show dR a.next (c.next-a.next)++_++_=dR h.next (c.next-h.next)++_
  have p:c.next-h.next=(a.next-h.next)+(c.next-a.next):=ω
  rw[p,qv,show h.next+(a.next-h.next)=a.next by omega]
 ·have k:gL a.log b=false:=by
   cases e:gL a.log b with
   |false=>rfl
   |true=>rw[i.mono b d e]at f;cases f
  rw[sd];split
  ·rename_i e;subst e;obtain⟨o,r⟩:=Option.isSome_iff_exists.1 s;rw[r,q];rfl
  ·rename_i e;have:=i.same b d (m6 n g) f;rw[sd,if_neg e]at this;rw[this];exact j.same b d n k
def vF{nt:Nat}:∀{ps:List Nat} {args args':List Value} {e b:Env} {t:Array Value},j8 e ps args=some b->dH μ e t->LR μ args args'→nt<=t.size->(∀p∈ps,p<nt)→
 args'.length=ps.length/\dH μ b ((ps.zip args').foldl (λtmps (p:Nat×Value)=>tmps.setIfInBounds p.1 p.2) t)/\((ps.zip args').foldl (λtmps (p:Nat×Value)=>tmps.setIfInBounds p.1 p.2) t).size=t.size
 |[],[],args',e,b,t,hs,hE,hl,_,_=>by cases hs;cases hl;exact⟨rfl,hE,rfl⟩
 |[],_::_,_,_,_,_,hs,_,_,_,_=>by cases hs
 |_::_,[],_,_,_,_,hs,_,_,_,_=>by cases hs
 |p::ps,v::vs,args',e,b,t,hs,hE,hl,hnt,hps=>by
  cases hl with
  |cons h1 h2=>
   rename_i v' vs';simp only[j8]at hs;have hE':dH μ ((p,v)::e) (t.setIfInBounds p v'):=by
    have:=dH.put (a:=⟨t,[]⟩) (dst:=some p) (nt:=nt) hE (by simp[mQ,G7];exact hps p (by simp)) hnt h1;exact this
   obtain⟨d,f,g⟩:=vF (t:=t.setIfInBounds p v') hs hE' h2 (by simpa using hnt) (λx c=>hps x (by simp[c]));exact⟨by simp[d],by simpa using f,by simpa using g⟩
variable{k:Blk}
def R.Cf(x:R P μ h w){L0:Loop}{B:Env}{u:List Nat}{z A:aZ}{v:Nat}{s:bO}{st:Nat}{jy:bO}(D:h.get l=some (.loop B u z A v s))(m:μ l=some k)
 (g:w.heap[k.r]? =some (.loop L))(a:iM L L0)(C:dH μ e L.tmps)(E:L.params.toList=ps)(n:nt<=L.tmps.size)(o:∀t∈ps,t<nt)(i:ir P nt L.assign asg)(j:ir P nt L.body body)(q:StR st jy L0):
 (setObj k.r (.loop L0)).run P w= .ok () {w with heap:=w.heap.setIfInBounds k.r (.loop L0)}∧
 R P μ ({h with cU:=jI h.cU l (.loop e ps asg body st jy)}:Heap) {w with heap:=w.heap.setIfInBounds k.r (.loop L0)}∧
 St μ h w μ ({h with cU:=jI h.cU l (.loop e ps asg body st jy)}:Heap) {w with heap:=w.heap.setIfInBounds k.r (.loop L0)}:=by
 have f:k.r<w.heap.size:=(x.dom _ _ m).2
 obtain⟨F,G⟩:=x.write (base:=0) (o':= .loop e ps asg body st jy) (w':={w with heap:=w.heap.setIfInBounds k.r (.loop L0)}) D rfl rfl m (by simp)
  (fun M p=>by simp[gS,Ne.symm p]) ⟨fun c I J y=>(by rw[g]at y;cases y),fun H d=>(by
    rw[g]at d;cases d;exact⟨L0,by simp[gS,f],a⟩)⟩ (λK b=>by
     rw[m]at b;cases b;exact⟨L0,by simp[gS,f],by rw[a.tmps];exact C,by rw[a.params];exact E,⟨nt,by rw[a.tmps];exact n,o,by rw[a.assign];exact i,by rw[a.body];exact j⟩,q⟩)
 exact⟨by simp[setObj,Sem.run,g],F.congr rfl rfl,G.jF rfl⟩
def tf.succ(hT:eZ P T)(hE:oM P T n)(hC:vR P T n):tf P T (n+1):=by
 intro fn dj h dv h' c hl μ w b hR B;refine⟨λg hg=> ?_,λl k hg hk=> ?_⟩
 ·subst hg;simp only[iw]at c;exact hC _ _ _ _ _ c hl μ w b hR B
 ·subst hg;simp only[iw]at c;split at c
  ·rename_i e ps asg body hgl;split at c
   ·rename_i e1 hsp;split at c
    ·rename_i e2 ds2 h2 hq1;rw[cond_eq_ite]at c;split at c
     ·cases c
     ·rename_i hnr;have u:=(fN.all hT.aK n).exec _ _ _ _ _ _ _ _ _ _ hq1 (bl _);have M:∃e' S a' b',h2.get l=some (.loop e' S a' b' 0 .normal):=by
       unfold notReady at hnr;split at hnr
       ·rename_i hq;exact⟨_,_,_,_,hq⟩
       ·simp at hnr
      obtain⟨ee,ep,ea,eb,M⟩:=M;obtain⟨L,hL,X,O,⟨nt,C,ar,Z,ae⟩,dp⟩:=hR.obj l _ hgl k hk;obtain⟨p1,p2,p3⟩:=vF (t:=L.tmps) hsp X B C ar;let T0:Array Value:=(L.params.zip b.toArray).foldl (λG (t,a)=>G.setIfInBounds t a) L.tmps;have cj:T0=(ps.zip b).foldl (λG (p:Nat×Value)=>G.setIfInBounds p.1 p.2) L.tmps:=by
       show(L.params.zip b.toArray).foldl _ L.tmps=_;rw[←Array.foldl_toList,←O];simp
      rw[←cj]at p2 p3;have hy:(Instr.yield k.r b.toArray).run P w= .ok (.round k.r L.fn T0 L.assign L.body) w:=by
       have cY:¬b.toArray.size≠L.params.size:=by
        have:L.params.size=ps.length:=by rw[←O];simp
        simp[this,p1]
       simp only[Instr.yield,gR,run_getLoop hL,ed,cY,if_false,oC];rfl
      rw[hy];refine roundIn_of_wpIn (F:=Fence.wide) trivial ?_;refine eW (λI a1 A z=> ?_) (hE _ _ _ _ _ _ _ _ _ _ hq1 (bl _) L.assign nt μ w ⟨T0,[]⟩ (some k.r) w.heap.size Z (by rw[p3];exact C) hR p2 .nil ⟨k,hk,rfl⟩ (bl _));obtain⟨μ1,x1,R1,S1,E1,D1,z1⟩:=z;cases I<;>first|exact x1.elim|skip
      have be:=S1.mono hR;have N:=be _ _ hk;obtain⟨H,Y,y⟩:=S1.loops _ _ hL;obtain⟨du,W,_,_,_,bo⟩:=R1.obj l _ M k N;rw[Y]at W;cases W;have Q:H.state= .ready:=by
       rcases bo with⟨_,q,_⟩|⟨q,_⟩|⟨q,_⟩
       ·exact q
       ·cases q
       ·cases q
      obtain⟨s1,s2,s3⟩:=R1.Cf (L0:={H with state:= .busy}) (e:=e) (ps:=ps) (asg:=asg) (body:=body) (st:=1) (jy:= .normal) (nt:=nt) M N Y ⟨rfl,rfl,rfl,rfl,rfl,rfl⟩ (by rw[y.tmps];exact X.mono be) (by rw[y.params];exact O) (by rw[y.tmps];exact C) ar
       (by rw[y.assign];exact Z) (by rw[y.body];exact ae) (.inr (.inl ⟨rfl,rfl⟩))
      have ba:k.r<A.heap.size:=(R1.dom _ _ N).2;have K:(Instr.beginRound k.r).run P A= .ok () {A with heap:=A.heap.setIfInBounds k.r (.loop {H with state:= .busy})}:=by
       simp only[Instr.beginRound,gR,run_getLoop Y,ed,s1,Q,oC]
      refine⟨_,K,?_⟩;have cd:({A with heap:=A.heap.setIfInBounds k.r (.loop {H with state:= .busy})}:World).heap[k.r]? =some (.loop {H with state:= .busy}):=by simp[gS,ba]
      have da:iM L {H with state:= .busy}:=y.trans ⟨rfl,rfl,rfl,rfl,rfl,rfl⟩;have S2:St μ h w μ1 ({h2 with cU:=jI h2.cU l (.loop e ps asg body 1 .normal)}:Heap) {A with heap:=A.heap.setIfInBounds k.r (.loop {H with state:= .busy})}:=S1.trans s3 u.next
      have D2:=D1.step s3 (s3.mono R1);have d9:w.heap.size<=({A with heap:=A.heap.setIfInBounds k.r (.loop {H with state:= .busy})}:World).heap.size:=by simpa using S1.le
      generalize({A with heap:=A.heap.setIfInBounds k.r (.loop {H with state:= .busy})}:World)=w2 at*;generalize({H with state:= .busy}:Loop)=L2 at*
      have run:∀x J f o,di T n h.next (some l) body e2 ds2 {h2 with cU:=jI h2.cU l (.loop e ps asg body 1 .normal)}=some (x,J,f,o)→
       AS h.next {h2 with cU:=jI h2.cU l (.loop e ps asg body 1 .normal)} o∧
       L.body.wpIn (Fw (some k.r)) 0 P (Post P μ1 ({h2 with cU:=jI h2.cU l (.loop e ps asg body 1 .normal)}:Heap) w2 w.heap.size a1.tmps.size x J f o) a1 w2:=λx J f o hq=>
       ⟨(fN.all hT.aK n).exec _ _ _ _ _ _ _ _ _ _ hq u.next,
         hE _ _ _ _ _ _ _ _ _ _ hq u.next L.body nt μ1 w2 a1 (some k.r) w.heap.size ae (by rw[z1,p3];exact C) s2 E1 D2 ⟨k,N,rfl⟩ d9⟩
      have fin:∀(x:bO) J f o I (a3:Act) w3,AS h.next {h2 with cU:=jI h2.cU l (.loop e ps asg body 1 .normal)} o->Post P μ1 ({h2 with cU:=jI h2.cU l (.loop e ps asg body 1 .normal)}:Heap) w2 w.heap.size a1.tmps.size x J f o I a3 w3→
       ∀e' S a' b' pd,o.get l=some (.loop e' S a' b' 1 pd)->∀(st:Nat) (jy:bO) (d:Option Code),(∀V:Loop,V.state=(if d.isNone then LoopState.ready else .done)->V.pending=d->StR st jy V)→
       ∃μ3 U,(Instr.endRound k.r d).run P w3= .ok (.bool d.isNone) U/\R P μ3 ({o with cU:=jI o.cU l (.loop e ps asg body st jy)}:Heap) U/\St μ h w μ3 ({o with cU:=jI o.cU l (.loop e ps asg body st jy)}:Heap) U:=by
       intro x J f o I a3 w3 j z e' S a' b' pd m st jy d cX;obtain⟨μ3,_,R3,S3,_,_,_⟩:=z;have aw:=S2.trans S3 u.next
       have bj:=aw.mono hR;have cJ:=bj _ _ hk;obtain⟨L3,aE,s⟩:=S3.loops _ _ cd;have s:iM L L3:=da.trans s
       obtain⟨r1,r2,r3⟩:=R3.Cf (L0:={L3 with state:=if d.isNone then .ready else .done,pending:=d}) (e:=e) (ps:=ps) (asg:=asg) (body:=body) (st:=st) (jy:=jy) (nt:=nt) m cJ aE ⟨rfl,rfl,rfl,rfl,rfl,rfl⟩ (by rw[s.tmps];exact X.mono bj)
        (by rw[s.params];exact O) (by rw[s.tmps];exact C) ar (by rw[s.assign];exact Z) (by rw[s.body];exact ae) (cX _ rfl rfl)
       refine⟨μ3,_,?_,r2,aw.trans r3 (gy u.next j.next)⟩;simp only[Instr.endRound,gR,run_getLoop aE,ed,r1,oC]
      split at c
      ·rename_i J f o hq3;obtain⟨j,E⟩:=run _ _ _ _ hq3;split at c
       ·rename_i m;cases c;refine eW (λI a3 w3 z=> ?_) E;have D:=z;obtain⟨μ3,x3,_⟩:=D;cases I<;>first|exact x3.elim|skip
        obtain⟨μ4,U,t1,t2,t3⟩:=fin _ _ _ _ _ _ _ j z _ _ _ _ _ m 0 .normal none (λV q1 q2=> .inl ⟨rfl,q1,q2,rfl⟩);obtain⟨μ5,g1,g2,g3,_⟩:=M8 hR t2 t3 (KV hgl u j (by rw[m];rfl)) (v:= .bool true) (v':= .bool true) (.bool true);exact⟨_,U,t1,μ5,g2,g1,g3⟩
       ·cases c
      ·rename_i i J f o hq3;obtain⟨j,E⟩:=run _ _ _ _ hq3;split at c
       ·rename_i m;cases c;refine eW (λI a3 w3 z=> ?_) E;have D:=z;obtain⟨μ3,x3,_⟩:=D;cases I<;>first|exact x3.elim|skip
        have:i=_:=x3;subst this;obtain⟨μ4,U,t1,t2,t3⟩:=fin _ _ _ _ _ _ _ j z _ _ _ _ _ m 2 (.exit i) (some (.exit i)) (λV q1 q2=> .inr (.inr ⟨rfl,q1,q2⟩));exact⟨_,U,t1,μ4, .bool false,t2.congr rfl rfl,t3.jF rfl⟩
       ·cases c
      ·rename_i J f o hq3;obtain⟨j,E⟩:=run _ _ _ _ hq3;split at c
       ·rename_i m;cases c;refine eW (λI a3 w3 z=> ?_) E;have D:=z;obtain⟨μ3,x3,_⟩:=D;cases I<;>first|exact x3.elim|skip
        obtain⟨μ4,U,t1,t2,t3⟩:=fin _ _ _ _ _ _ _ j z _ _ _ _ _ m 2 .ret (some .ret) (λV q1 q2=> .inr (.inr ⟨rfl,q1,q2⟩));exact⟨_,U,t1,μ4, .bool false,t2.congr rfl rfl,t3.jF rfl⟩
       ·cases c
      ·cases c
    ·cases c
   ·cases c
  ·cases c
def xy:∀{vs:List Value} {i t:Nat} {v:Value},geT (fu i vs) t=some v->i<=t/\vs[t-i]? =some v
 |[],_,_,_,h=>by simp[fu,geT]at h
 |x::vs,i,t,v,h=>by
  simp only[fu,geT,cond_eq_ite,beq_eq,decide_eq_true_eq]at h;split at h
  ·rename_i e;subst e;cases h;exact⟨bl _,by simp⟩
  ·obtain⟨q1,q2⟩:=xy h;exact⟨ω,by rw[show t-i=(t-(i+1))+1 by omega];simpa using q2⟩
def BJ{args args':List Value}(c:LR μ args args')(m:Nat):dH μ (fu 0 args) (args'.toArray++Array.replicate (m-args'.toArray.size) undef):=by
 intro t v d;obtain⟨_,q⟩:=xy d;rw[Nat.sub_zero]at q;obtain⟨f,b,e⟩:=c.get (i:=t) (by rw[cC];exact q);refine⟨f,?_,e⟩;have a:=(List.getElem?_eq_some_iff.1 b).1;rw[Array.getElem?_append_left (by simpa using a)];simpa using b
def Tm(tmps:Array Value):ResultVar->Sem Value
 | .tmp t=>pure (tmps.getD t undef)
 | .cell a t=>do loadVar t (←asAddr (tmps.getD a undef))
def uD(d:R P μ h w):∀{rs:List ResultVar} {b:List (Nat×Option (Option Nat))} {vs:List Value} {tmps:Array Value},F3 P rs=some b->dH μ e tmps->cI h e b=some vs→
 ∃a,LR μ vs a∧(rs.mapM (Tm tmps)).run P w= .ok a w
 |[],b,vs,tmps,hp,hE,hr=>by
  cases hp;cases hr;exact⟨[], .nil,by simp⟩
 | .tmp t::rs,b,vs,tmps,hp,hE,hr=>by
   simp only[F3]at hp;obtain⟨l,hl,rfl⟩:=fq hp;simp only[cI]at hr;split at hr
   ·rename_i v hv;split at hr
    ·rename_i vs2 hvs;cases hr;obtain⟨a,i,j⟩:=uD d hl hE hvs;obtain⟨k,f,g⟩:=hE t v hv;refine⟨k::a, .cons g i,?_⟩;simp only[List.mapM_cons,gR,Tm,oC,ed,j,xf,f,Option.getD_some]
    ·cases hr
   ·cases hr
 | .cell c t::rs,b,vs,tmps,hp,hE,hr=>by
   simp only[F3]at hp;split at hp
   ·rename_i n l hn hl;cases hp;simp only[cI]at hr;split at hr
    ·rename_i av hav;split at hr
     ·rename_i v hv;split at hr
      ·rename_i vs2 hvs;cases hr;obtain⟨a,i,j⟩:=uD d hl hE hvs;obtain⟨q,f,g⟩:=hE c av hav;obtain⟨r,o,k,rfl,m,p⟩:=Fp (P:=P) d g hv;refine⟨k::a, .cons m i,?_⟩;simp only[List.mapM_cons,gR,Tm,oC,ed,xf,f,Option.getD_some,asAddr,xE hn,p,j]
      ·cases hr
     ·cases hr
    ·cases hr
   ·cases hp
def xF(j:R P μ h w){fn:Func}{b:List (Nat×Option (Option Nat))}{vs:List Value}{tmps:Array Value}(k:F3 P fn.results.toList=some b)(i:dH μ e tmps)(hr:cI h e b=some vs):
 ∃v',VR μ (fB vs) v'∧(results fn tmps).run P w= .ok v' w:=by
 obtain⟨a,f,l⟩:=uD j k i hr;have m:=f.length;have d:(results fn tmps).run P w= .ok (if hh:a.toArray.size=1 then a.toArray[0]else .tuple a.toArray) w:=by
  have g:results fn tmps=(do let vs ←fn.results.mapM (Tm tmps);pure (if h:vs.size=1 then vs[0]else .tuple vs)):=by
   unfold results;congr 2
  rw[g,Array.mapM_eq_mapM_toList];simp[l]
 refine⟨_,?_,d⟩;cases f with
 |nil=>simp[fB];exact VR.pg (c:= #[]) (c':= #[]) .nil
 |cons h1 h2=>
  cases h2 with
  |nil=>simpa[fB]using h1
  |cons h3 h4=>
   simp only[List.size_toArray,tb,show∀n:Nat,¬ (n+1+1=1)by omega,dite_false,fB];exact VR.pg (by simpa using LR.cons h1 (.cons h3 h4))
def R.shut(i:R P μ h w){r:Nat}{x:Option (List Deferred)}(hr:w.heap[r]? =some (.deferred x)):R P μ h {w with heap:=w.heap.setIfInBounds r (.deferred none)}:=by
 have m:∀b o k,h.get b=some o->o≠ .dead->μ b=some k->k.r≠r:=λb o k j n l e=>by
  have f:=i.obj b o j;cases o with
  |dead=>exact n rfl
  |cells vs own sz=>obtain⟨_,c,t,u,d,_⟩:=f k l;rw[e,hr]at d;cases d
  |map es=>obtain⟨_,_,d,_⟩:=f k l;rw[e,hr]at d;cases d
  |xO es=>obtain⟨_,_,d,_⟩:=f k l;rw[e,hr]at d;cases d
  |loop _ _ _ _ _ _=>obtain⟨_,d,_⟩:=f k l;rw[e,hr]at d;cases d
  |oH _ _=>have d:=(f k l).2;rw[e,hr]at d;cases d
 refine⟨i.big,λg o d p=> ?_,λb o j=> ?_,i.lt,λb k j=>⟨(i.dom b k j).1,by simpa using(i.dom b k j).2⟩,i.mu⟩
 ·obtain⟨k,a,b,c,x⟩:=i.mU g o d p;refine⟨k,a,b,c,λs q=>x.get ?_ s q⟩;have:=m g o k p (λe=>by subst e;cases q) a;simp[gS,Ne.symm this]
 by_cases n:o= .dead
 ·subst n;trivial
 ·exact OR.mono (λ_ _ h=>h) rfl (λk l=>by simp[gS,Ne.symm (m b o k j n l)]) (i.obj b o j)
def PD{r:Nat}(hr:w.heap[r]? =some (.deferred (some []))):(Instr.takeDeferred r).run P w= .ok [] {w with heap:=w.heap.setIfInBounds r (.deferred none)}:=by
 simp only[Instr.takeDeferred,gR,j4 hr (by simp),ed];simp[setObj,Sem.run,hr]
def DR.shut{r:Nat}{d:Dfs}{ms:List Deferred}(e:DR μ h w lo d ms)(b:∀a as,({target:= .collected a,args:=as}:Deferred)∈ms->a<r):DR μ h {w with heap:=w.heap.setIfInBounds r (.deferred none)} lo d ms:=by
 induction e with
 |nil=>exact .nil
 |cons h1 h2 h3 _ ih=>exact .cons h1 h2 h3 (ih λa as c=>b a as (bz _ c))
 |mark h1 h0 h2 h3 _ ih=>
  rename_i r0 _ _ _;have f:r0<r:=b r0 #[] (by simp);exact .mark h1 h0 (by simp[gS,show¬r=r0 by omega,h2]) h3 (ih λa as c=>b a as (bz _ c))
def St.shut{μ0:Mu}{w0:World}(s:St μ0 c w0 μ h w){r:Nat}(hr:w0.heap.size<=r):St μ0 c w0 μ h {w with heap:=w.heap.setIfInBounds r (.deferred none)}:=
 ⟨s.ext,by simpa using s.le,λa b g=>by
  rw[←s.keep a b g];simp[gS,show¬r=a by omega],s.wr,λa L d=>by
  have f:=(Array.getElem?_eq_some_iff.1 d).1;obtain⟨e,i,j⟩:=s.loops a L d;exact⟨e,by simp[gS,show¬r=a by omega,i],j⟩,s.same.trans ⟨rfl,rfl,rfl,by first|exact bl _|exact xp _ _⟩⟩
variable{u:FrameMode}
def OU{a:Option Value}(b:Gz μ a u):u≠ .run:=by
 cases a with
 |none=>rw[show u= .returning from b];simp
 |some v=>obtain⟨c,_,rfl⟩:=b;simp
def A8.succ(H:eZ P T)(Q:A8 P T n)(t:uK P T n):A8 P T (n+1):=by
 intro l K X e h o Y h' c p L μ w μ1 D m A u J G b s F E a;induction A generalizing D with
 |nil=>
  cases E;simp only[rL]at c;simp only[LeavesInM];split at c
  ·cases c;obtain⟨B,z,rfl⟩:=a;exact⟨μ1,⟨B,rfl,z⟩,b,s⟩
  ·split at c
   ·rename_i vs hvs;cases c;have:u= .returning:=a;subst this;obtain⟨B,z,j⟩:=xF b J F hvs;obtain⟨μ2,M,N,O,_⟩:=M8 G b s p z;exact⟨B,j,μ2,N,M,O⟩
   ·cases c
 |cons d ms ih=>
  simp only[LeavesInM];refine⟨OU a,?_⟩;cases E with
  |mark m1 m0 m2 m3 m4=>
   rename_i r;exact .inl ⟨r,_,rfl,PD m2,ih _ (b.shut m2) (s.shut m1) (m4.shut m0)⟩
  |cons c1 c2 c3 c4=>
   rename_i g first cap first' cap' args args' K
   simp only[rL]at c;split at c
   ·rename_i pan' h2 hq;have i:=(fN.all H.aK n).defer _ _ _ _ _ _ hq rfl;have S:o.next<=h2.next:=i.next
    have y:iu (T g)=false:=by
     cases n with
     |zero=>simp[mK]at hq
     |succ n=>
      simp only[mK]at hq;split at hq
      ·rename_i hTg;rw[hTg];rfl
      ·cases hq
    have f:LR μ1 (eL first.toList (eL args cap.toList)) (first'.toList++(args'++cap'.toList)):=by
     rw[dS,dS];exact c1.append (c3.append c2)
    refine .inr ⟨λq=>(by cases q), .func g,cap',g,(first'.toList++(args'++cap'.toList)).toArray,rfl,?_,λ_ _=>trivial,?_⟩
    ·have:(first'++args'.toArray)++cap'=(first'.toList++(args'++cap'.toList)).toArray:=by apply fm;simp
     simp only[invoke,this];exact kT H y _ _
    ·refine CallsDIn.mono (t _ _ _ _ _ _ hq rfl μ1 D _ u (b.congr rfl rfl) f a) λZ u' C U=> ?_;obtain⟨v,μ',rfl,V,k,W⟩:=U;have k:St μ1 o D μ' h2 C:=k.rR rfl rfl;have I:=k.mono b;have x:St μ h w μ' ({h2 with log:=aJ h.next o.log h2.log}:Heap) C:=(s.trans k p.next).jF rfl;exact Q _ _ _ _ _ _ _ _ c (p.trans (AS.call i p.next)) L μ w μ' C m ms _ J G (V.congr rfl rfl) x (F.mono I) ((c4.step k I).step (St.jF (h1:=h2) (.refl _ _ _) rfl) (λ_ _ h=>h)) W
   ·cases c
def vR.succ(D:eZ P T)(J:oM P T n)(G:A8 P T n):vR P T (n+1):=by
 intro f k h O S d L μ w a s g;simp only[jM]at d;split at d
 ·cases d
 ·rename_i p hTf;split at d
  ·rename_i v q j;cases d;exact(D.mW f p k h v _ hTf j L).2 μ w a s g
  ·cases d
 ·rename_i code results hTf;have H:iu (T f)=false:=by rw[hTf];rfl
  rw[kT D H];obtain⟨o,N,K,b⟩:=D.code f code results hTf;unfold aI at b;split at b
  ·rename_i c hb;split at b
   ·cases b
   ·split at b
    ·rename_i ac rs hcomp hres;cases b;show CallsIn Fence.wide 0 P f a.toArray w _;refine callsIn_of_wp_marks (F:=Fence.wide) K hb trivial ?_;have l:=fN.all D.aK n
     have run:∀x r e q,di T n h.next none code (fu 0 k) [] h=some (x,r,e,q)→
      c.wpIn (Fw none) 0 P (Post P μ h w w.heap.size (a.toArray++Array.replicate (o.ntmps-a.toArray.size) undef).size x r e q) {tmps:=a.toArray++Array.replicate (o.ntmps-a.toArray.size) undef,defers:=[]} w:=
      λx r e q j=>J _ _ _ _ _ _ _ _ _ _ j (bl _) c o.ntmps μ w ⟨_,[]⟩ none w.heap.size ⟨N,[],hcomp⟩ (by simp;omega) s (BJ g _) .nil rfl (bl _)
     split at d
     ·rename_i v r e q j;have C:=l.exec _ _ _ _ _ _ _ _ _ _ j (bl _);refine eW (λB m E I=> ?_) (run _ _ _ _ j);obtain⟨μ',t,z,A,y,u,_⟩:=I;cases B<;>first|exact t.elim|skip
      obtain⟨Q,rfl,M⟩:=t;exact G _ _ _ _ _ _ _ _ d C o μ w μ' E m.tmps m.defers _ hres s z A y u ⟨Q,M,rfl⟩
     ·cases d
     ·rename_i x r e q hnp hne j;have C:=l.exec _ _ _ _ _ _ _ _ _ _ j (bl _);refine eW (λB m E I=> ?_) (run _ _ _ _ j);obtain⟨μ',t,z,A,y,u,_⟩:=I;cases x with
      |panic v=>exact(hnp v rfl).elim
      |exit i=>exact(hne i rfl).elim
      |normal=>
       cases B<;>first|exact t.elim|skip
       exact G _ _ _ _ _ _ _ _ d C o μ w μ' E m.tmps m.defers _ hres s z A y u rfl
      |ret=>
       cases B<;>first|exact t.elim|skip
       exact G _ _ _ _ _ _ _ _ d C o μ w μ' E m.tmps m.defers _ hres s z A y u rfl
     ·cases d
    ·cases b
  ·cases b
def yq.mono{μ':Mu}(f:∀b k,μ b=some k->μ' b=some k){a:Option Value}{u:FrameMode}(c:yq μ a u):yq μ' a u:=by
 cases a with
 |none=>exact c
 |some v=>obtain⟨g,d,e⟩:=c;exact⟨g,d.mono f,e⟩
def SO{a:Option Value}(b:Gz μ a u):yq μ a u:=by
 cases a with
 |none=>exact .inl b
 |some v=>exact b
def xw{a:Option Value}(b:yq μ a u):Gz μ a (settle u):=by
 cases a with
 |none=>
  rcases b with rfl|⟨c,rfl⟩
  ·rfl
  ·rfl
 |some v=>obtain⟨c,d,rfl⟩:=b;exact⟨c,d,rfl⟩
def wS(P:Program)(μ0:Mu)(h0:Heap)(w0:World)(sz:Nat)(x:bO)(e':Env)(pan':Option Value)(h':Heap)(c0:Frame)(cs:List Frame):Exit->Act->List Frame->World->Prop:=λex a' cs' w'=>
 ∃μ' u',XR μ' x ex/\R P μ' h' w'∧St μ0 h0 w0 μ' h' w'∧dH μ' e' a'.tmps/\a'.defers=[]/\a'.tmps.size=sz/\cs'={c0 with mode:=u'}::cs/\yq μ' pan' u'
def wS.trans{μ0 μ1:Mu}{b h1:Heap}{w0 e:World}{sz:Nat}{x:bO}{e':Env}{pan':Option Value}{h':Heap}{c0:Frame}{cs:List Frame}(s:St μ0 b w0 μ1 h1 e)(f:b.next<=h1.next){d:Exit}{c:Act}{a:List Frame}{w':World}
 (g:wS P μ1 h1 e sz x e' pan' h' c0 cs d c a w'):wS P μ0 b w0 sz x e' pan' h' c0 cs d c a w':=by
 obtain⟨μ',l,h,i,j,k⟩:=g;exact⟨μ',l,h,i,s.trans j f,k⟩
def gw{F:Fence}{n:Nat}{ops:Array Oper}{Q c:Exit->Act->List Frame->World->Prop}(b:∀e a cs w,Q e a cs w->c e a cs w):∀(l:List Nat) (a:Act) (cs:List Frame) (w:World),wpOpsSIn F n P ops Q l a cs w->wpOpsSIn F n P ops c l a cs w
 |[],_,_,_,h=>b _ _ _ _ h
 |i::l,a,cs,w,h=>by
  simp only[wpOpsSIn]at h⊢;split at h
  ·exact gw b l _ _ _ h
  ·obtain⟨h0,h⟩:=h;refine⟨h0,?_⟩;split at h
   ·rename_i hw;rw[if_pos hw];split at h
    ·split at h
     ·exact gw b l _ _ _ h
     ·exact gw b l _ _ _ h
    ·exact gw b l _ _ _ h
    ·exact gw b l _ _ _ h
    ·exact b _ _ _ _ h
    ·exact h.elim
   ·rename_i hw;rw[if_neg hw];exact gw b l _ _ _ h
def qp{c:Code}{cs:List Frame}{Q f:Exit->Act->List Frame->World->Prop}(j:∀e a cs w,Q e a cs w->f e a cs w)(h:c.wpSIn F n P Q a cs w):c.wpSIn F n P f a cs w:=
 λb k i m g d=>let⟨e,a',cs',w',l,q,r⟩:=h b k i m g d;⟨e,a',cs',w',l,j _ _ _ _ q,r⟩
def vT.succ(hT:eZ P T)(V:vT P T n):vT P T (n+1):=by
 intro base as e ae h x y d z f I ops i nt μ w a c0 k u hi l m t p A b;cases as with
 |nil=>
  simp only[lu]at f;cases f;have W:ops.toList.drop i=[]:=by
   cases hq:ops.toList.drop i with
   |nil=>rfl
   |cons o os=>
    rw[hq]at l;simp only[cS]at l;repeat' split at l
    all_goals cases l
  have:ops.size<=i:=by
   have:=List.drop_eq_nil_iff.1 W;simpa using this
  rw[show ops.size-i=0 by omega];exact⟨μ,u,trivial,t, .refl _ _ _,p,A,rfl,rfl,b⟩
 |cons ao as=>
  cases hdr:ops.toList.drop i with
  |nil=>rw[hdr]at l;simp[cS]at l
  |cons o os=>
   rw[hdr]at l;obtain⟨D,C,B⟩:=Br hdr;obtain⟨F,G,O,Q,_⟩:=iV l;rw[FY D];simp only[lu]at f;simp only[wpOpsSIn,C];rw[←B]at Q
   have H:∀{μ1:Mu} {q:Heap} {E:World} {s:Act} {L:Env} {j:Option Value} {K:FrameMode},lu T n base as L j q=some (x,y,d,z)->base<=q.next->h.next<=q.next->s.tmps.size=a.tmps.size->R P μ1 q E->St μ h w μ1 q E→
    dH μ1 L s.tmps->s.defers=[]->yq μ1 j K->wpOpsSIn Fence.wide 0 P ops (wS P μ h w a.tmps.size x y d z c0 k) (List.range' (i+1) (ops.size-(i+1))) s ({c0 with mode:=K}::k) E:=by
    intro μ1 q E s L j K M N J Z k5 k6 k7 k8 k9;have:=V _ _ _ _ _ _ _ _ _ M N ops (i+1) nt μ1 E s c0 k K D Q ω k5 k7 k8 k9;rw[Z]at this;exact gw (λ_ _ _ _ X=>wS.trans (x:=x) (e':=y) (pan':=d) (h':=z) (c0:=c0) (cs:=k) k6 J X) _ _ _ _ this
   refine⟨λ_ _=>trivial,?_⟩;split at f
   ·rename_i hw;rw[rz l p hw];simp only[Cl,if_false];refine H f I (bl _) (ef _ _ _) t (.refl _ _ _) ?_ ?_ b
    ·rw[G];exact p.put F m (VR.dA (v:=undef) rfl).1
    ·rw[put_defers];exact A
   ·rename_i hw;rw[rz l p hw];simp only[if_true];split at f
    ·rename_i v q hq;have S:=rK hq;obtain⟨μ',r,w',c,M,N,J,_⟩:=Jd t p O hq;have U:=J.mono t;have fin:wpOpsSIn Fence.wide 0 P ops (wS P μ h w a.tmps.size x y d z c0 k) (List.range' (i+1) (ops.size-(i+1))) (a.put o.dst r) ({c0 with mode:=u}::k) w':=by
      refine H f (gy I S.next) S.next (ef _ _ _) N J ?_ ?_ (b.mono U)
      ·rw[G];exact(p.mono U).put F m M
      ·rw[put_defers];exact A
     rcases c with c|⟨c,rfl⟩
     ·rw[c];exact fin
     ·rw[c];exact fin
    ·rename_i hq;rw[Hv O hq];simp only;split at f
     ·rename_i v;obtain⟨r,Y,rfl⟩:=b;have g:recoverD ({c0 with mode:= .panicking [{v:=r,recovered:=false}]}::k)=some (r,{c0 with mode:= .panicking [{v:=r,recovered:=true}]}::k):=rfl;rw[g];refine H f I (bl _) (ef _ _ _) t (.refl _ _ _) ?_ ?_ (.inr ⟨r,rfl⟩)
      ·rw[G];exact p.put F m Y
      ·rw[put_defers];exact A
     ·have g:recoverD ({c0 with mode:=u}::k)=none:=by
       rcases b with rfl|⟨r,rfl⟩<;>rfl
      rw[g];refine H f I (bl _) (ef _ _ _) t (.refl _ _ _) ?_ ?_ b
      ·rw[G];exact p.put F m .nilIface
      ·rw[put_defers];exact A
    ·cases f
   ·cases f
def tg.succ(hT:eZ P T)(F:tg P T n)(hO:vT P T n):tg P T (n+1):=by
 intro base ac e O h x B f C i A c D μ w a c0 k u G j m d s b;have hA:=fN.all hT.aK n;cases ac<;>simp only[jE]at i<;>(try (cases i;done))
 case skip=>
  have L:c= .skip∨∃l,c= .label l:=G.inv;cases i;rcases L with rfl|⟨l,rfl⟩
  ·exact wpSIn_of_wpIn rfl (wpIn_skip ⟨μ,u,trivial,m, .refl _ _ _,d,s,rfl,rfl,b⟩)
  ·exact wpSIn_of_wpIn rfl (wpIn_label ⟨μ,u,trivial,m, .refl _ _ _,d,s,rfl,rfl,b⟩)
 case ret=>
  have:c= .ret:=G.inv;subst this;cases i;exact wpSIn_of_wpIn rfl (wpIn_ret ⟨μ,u,trivial,m, .refl _ _ _,d,s,rfl,rfl,b⟩)
 case region as keep=>
  obtain⟨id,ops,rfl,M⟩:=G.inv;refine wpSIn_region ?_;have run:∀x B f C,lu T n base as e O h=some (x,B,f,C)->wpOpsSIn Fence.wide 0 P ops (wS P μ h w a.tmps.size x B f C c0 k) (List.range ops.size) a ({c0 with mode:=u}::k) w:=λx B f C r=>by
   have:=hO _ _ _ _ _ _ _ _ _ r A ops 0 D μ w a c0 k u (hK _) (by simpa using M) j m d s b;rw[Nat.sub_zero,←List.range_eq_range']at this;exact this
  split at i
  ·rename_i r;cases i;refine gw (λ_ _ _ _ v=> ?_) _ _ _ _ (run _ _ _ _ r);obtain⟨μ',I,q1,Q,S,U,V⟩:=v;exact⟨μ',I,q1,Q,S,U.keep keep,V⟩
  ·exact run _ _ _ _ i
 case seq p q=>
  obtain⟨y,z,rfl,H,N⟩:=G.inv;refine wpSIn_seq ?_;split at i
  ·rename_i e1 pan1 h2 r;have E:=hA.je _ _ _ _ _ _ _ _ _ r A;refine qp (λK X J Z v=> ?_) (F _ _ _ _ _ _ _ _ _ r A y D μ w a c0 k u H j m d s b);obtain⟨μ',I,W,Q,S,U,V,q6,rfl,q8⟩:=v;cases K<;>first|exact W.elim|skip
   have:=F _ _ _ _ _ _ _ _ _ i (gy A E.next) z D μ' Z X c0 k I N ω Q U V q8;rw[q6]at this;exact qp (λ_ _ _ _ v=>wS.trans (x:=x) (e':=B) (pan':=f) (h':=C) (c0:=c0) (cs:=k) S E.next v) this
  ·rename_i hne;refine qp (λK X J Z v=> ?_) (F _ _ _ _ _ _ _ _ _ i A y D μ w a c0 k u H j m d s b);cases K with
   |normal=>
    obtain⟨μ',I,W,_⟩:=v;cases x<;>first|exact W.elim|skip
    exact(hne _ _ _ i).elim
   |_=>exact v
 case cond o p q=>
  obtain⟨y,z,rfl,Y,H,N⟩:=G.inv;split at i
  ·rename_i r;have g:=dF m d Y r;generalize hev:a.eval o=ov at g;cases g;exact wpSIn_cond (t:=true) hev (F _ _ _ _ _ _ _ _ _ i A y D μ w a c0 k u H j m d s b)
  ·rename_i r;have g:=dF m d Y r;generalize hev:a.eval o=ov at g;cases g;exact wpSIn_cond (t:=false) hev (F _ _ _ _ _ _ _ _ _ i A z D μ w a c0 k u N j m d s b)
  ·cases i
def uK.succ(K:eZ P T)(I:tg P T n):uK P T (n+1):=by
 intro g j q h e V f W μ w b u J i k;simp only[mK]at f;split at f
 ·rename_i code hTg;obtain⟨z,Q,L,a⟩:=K.code g code [] hTg;unfold aI at a;split at a
  ·rename_i c hb;split at a
   ·cases a
   ·split at a
    ·rename_i ac rs hcomp hres;cases a;have run:∀x t m,jE T n h.next code (fu 0 j) q h=some (x,t,e,m)->(x= .normal∨x= .ret)->CallsDIn Fence.wide 0 P g b.toArray u w λH o s=>∃v μ',H= .returned v/\R P μ' m s∧St μ h w μ' m s∧Gz μ' e (settle o):=λx t m l O=>by
      refine callsDIn_of_wpSIn (F:=Fence.wide) L hb trivial λc0 E N=> ?_;have hc0:({c0 with mode:=u}:Frame)=c0:=by subst N;rfl
      have:=I _ _ _ _ _ _ _ _ _ l (bl _) c z.ntmps μ w ⟨b.toArray++Array.replicate (z.ntmps-b.toArray.size) undef,[]⟩ c0 E u ⟨Q,[],hcomp⟩ (by simp;omega) J (BJ i _) rfl (SO k);rw[hc0]at this;refine qp (λy U G s M=> ?_) this;obtain⟨μ',o,D,r,A,S,B,Y,rfl,C⟩:=M;obtain⟨p,X,d⟩:=xF r hres S (vs:=[]) rfl;rcases O with rfl|rfl
      ·cases y<;>first|exact D.elim|skip
       exact⟨B,o,rfl,p,d,p,μ',rfl,r,A,xw C⟩
      ·cases y<;>first|exact D.elim|skip
       exact⟨B,o,rfl,p,d,p,μ',rfl,r,A,xw C⟩
     split at f
     ·rename_i l;cases f;exact run _ _ _ l (.inl rfl)
     ·rename_i l;cases f;exact run _ _ _ l (.inr rfl)
     ·cases f
    ·cases a
  ·cases a
 ·cases f
def xU{x:Operand}(a:nS [x]=true):ev h e x=ev h' e x:=by
 cases x<;>first|rfl|simp[nS]at a
def xq{x:Operand}{l:List Operand}(a:nS (x::l)=true):nS [x]=true/\nS l=true:=by
 cases x<;>simp[nS]at a⊢ <;>exact a
def zg{h h':Heap}:∀{ps:List (Nat×Nat×Operand)} {z:List Value},nS (ps.map (·.2.2))=true->jO h e z ps=jO h' e z ps
 |[],_,_=>rfl
 |(o,s,x)::ps,z,hx=>by
  obtain⟨h1,h2⟩:=xq hx;simp only[jO,xU (h:=h) (h':=h') h1];split
  ·rw[zg h2]
  ·rfl
variable{b:Nat}
def DJ{l:List Value}{c:Array Value}{el:TypeId}(h:w'.heap=w.heap.push (.cells c el))(a:LR μ l c.toList)(g:∀b k,μ b=some k->μ' b=some k)(hb:μ' b=some ⟨w.heap.size,0,c.size,sz⟩):
 OR P μ' w' b (.cells l true sz):=by
 intro k e;rw[hb]at e;cases e;have f:l.length=c.size:=by rw[a.length];simp
 refine⟨rfl,c,el,(0,0),by rw[h];simp,by simp only;omega,bl _,λi d=> ?_,λ_=>⟨rfl,rfl,λj _=>by simp⟩⟩;have:=(a.gv i d).mono g;refine⟨_,?_,this⟩;have q:=uh (l:=c.toList) (i:=i) (by rw[←a.length];exact d);simpa using q
def Iu(P:Program)(o:Oper)(er:Env)(b:Nat)(v:Value)(obj:bT):Prop:=
 obj.live=true/\obj.ro=false/\∀(μ:Mu) (hc:Heap) (w:World) (a:Act),R P μ hc w->dH μ er a.tmps->∃v' mobj w' k,(execOp a.eval o).run P w= .ok (.value v') w'∧Same w w'∧w'.heap=w.heap.push mobj/\k.r=w.heap.size∧
  ∀μ':Mu,(∀b k,μ b=some k->μ' b=some k)->μ' b=some k->VR μ' v v'∧OR P μ' w' b obj
variable{E:Env}
def R8{I:AOp}(A:dX I=true)(b:iy P o.op=some I)(d:aop h base E I=some (.val v h1)):∃obj,h1=h.push obj/\Iu P o E h.next v obj:=by
 unfold iy at b;split at b
 ·rename_i hall;cases hop:o.op<;>rw[hop]at b hall<;>(try dsimp only at b)<;>(try (cases b;done))
  case alloc t=>
   split at b
   ·rename_i z D;split at b
    ·rename_i hs;cases b;cases d;refine⟨_,rfl,rfl,rfl,λμ b w a u m=> ?_⟩;have S:LR μ (cellsOf z) z.cells.toList:=Ee hs;refine⟨.pointer (some ⟨w.heap.size,0,none⟩), .cells z.cells t,{w with heap:=w.heap.push (.cells z.cells t)},⟨w.heap.size,0,z.cells.size,1⟩,?_,⟨rfl,rfl,rfl,by first|exact bl _|exact xp _ _⟩,rfl,rfl,λμ' y e=>⟨VR.ptr (o:=0) e,DJ rfl S y e⟩⟩;simp[execOp,hop,Instr.alloc,eO D,newVar,iJ]
    ·cases b
   ·cases b
  case box t x=>
   cases b;obtain⟨xv,Z,hh⟩:=aD d;cases hh;refine⟨_,rfl,rfl,rfl,λμ b w a u m=> ?_⟩;have H:ev b E x=some xv:=by rw[←xU (h:=h) (h':=b) A];exact Z
   have hx:aP P x=true:=by simpa[Op.operands]using hall
   have S:LR μ (cellsOf xv) (a.eval x).cells.toList:=uU (dF u m hx H);refine⟨.pointer (some ⟨w.heap.size,0,none⟩), .cells (a.eval x).cells t,{w with heap:=w.heap.push (.cells (a.eval x).cells t)},⟨w.heap.size,0,(a.eval x).cells.size,1⟩,?_,⟨rfl,rfl,rfl,by first|exact bl _|exact xp _ _⟩,rfl,rfl,λμ' y e=>⟨VR.ptr (o:=0) e,DJ rfl S y e⟩⟩;simp[execOp,hop,Instr.box,newVar,iJ]
  case makeMap t r=>
   have ar:∀(J:Option Value),(J=none∨∃k n kt el,J=some (.int k n)/\P.underlying t=some (.map kt el))->∀w:World,(Instr.makeMap t J).run P w= .ok (.map (some w.heap.size)) {w with heap:=w.heap.push (.map #[] 0)}:=λJ X w=>by
    rcases X with rfl|⟨k,n,kt,el,rfl,hd⟩
    ·simp[Instr.makeMap,newObj,Sem.run]
    ·simp only[Instr.makeMap,gR,run_underlying hd,ed];simp[asInt,asIntOf,newObj,Sem.run]
   have fin:I= .mkMap->(∀a:Act,(r.map a.eval)=none∨∃k n kt el,(r.map a.eval)=some (.int k n)/\P.underlying t=some (.map kt el))->∃obj,h1=h.push obj/\Iu P o E h.next v obj:=λN X=>by
    subst N;cases d;refine⟨_,rfl,rfl,rfl,λμ b w a u m=> ?_⟩;refine⟨.map (some w.heap.size), .map #[] 0,{w with heap:=w.heap.push (.map #[] 0)},⟨w.heap.size,0,0,0⟩,?_,⟨rfl,rfl,rfl,by first|exact bl _|exact xp _ _⟩,rfl,rfl,λμ' y e=>⟨VR.map e,λk hk=> ?_⟩⟩
    ·simp[execOp,hop,ar _ (X a)]
    ·rw[e]at hk;cases hk;exact⟨#[],0,by simp, .nil,List.nodup_nil,λn A=>by cases A⟩
   cases r with
   |none=>exact fin (by cases b;rfl) λa=> .inl rfl
   |some r=>
    cases r<;>(try dsimp only at b)<;>(try (cases b;done))
    rename_i c;cases c<;>(try dsimp only at b)<;>(try (cases b;done))
    rename_i k n;split at b
    ·rename_i kt el hd;exact fin (by cases b;rfl) λa=> .inr ⟨k,n,kt,el,rfl,hd⟩
    ·cases b
  case buildSlice t n ps=>
   have W:∀p∈ps.toList,aP P p.2=true:=λp hp=>List.all_eq_true.1 hall p.2 (by simpa[Op.operands]using⟨p.1,by simpa using hp⟩);split at b
   ·rename_i el hd;split at b
    ·rename_i s z hs D;split at b
     ·rename_i hcc;obtain⟨qs,hq,rfl⟩:=fq b;simp only[aop]at d;split at d
      ·rename_i cs hcs;cases d;refine⟨_,rfl,rfl,rfl,λμ b w a u m=> ?_⟩;have ae:z.cells.size=s:=by rw[JH,←cK];exact hcc.2.1
       have g:LR μ (eR n (cellsOf z)) ((Array.range (n*s)).map (z.cells[· % z.cells.size]!)).toList:=by
        have:=DI (μ:=μ) hcc.2.2.2 n;rw[ae]at this⊢;exact this
       have F:jO b E (eR n (cellsOf z)) qs=some cs:=by rw[←zg (h:=h) (h':=b) A];exact hcs
       obtain⟨C,M,g2⟩:=xW u m W hq g F;have V:n<UNK:=by
        have:=Nat.le_mul_of_pos_right n (AC hcc.2.2.1);have:=hcc.1;unfold UNK;omega
       refine⟨.slice (some ⟨w.heap.size,0,none⟩) n n, .cells C el,{w with heap:=w.heap.push (.cells C el)},⟨w.heap.size,0,C.size,bS (cellsOf z)⟩,?_,⟨rfl,rfl,rfl,by first|exact bl _|exact xp _ _⟩,rfl,rfl,λμ' y e=>⟨VR.slice (o:=0) e V (bl _),DJ rfl g2 y e⟩⟩;simp only[execOp,hop,gR];have aw:=hcc.1;simp only[Instr.buildSlice,gR,run_underlying hd,ed,run_sizeOf hs,if_neg (show¬n*s>2 ^ 24 by omega),wu];by_cases h0:n*s=0
       ·rw[if_pos h0];have:n=0:=by
         rcases Nat.mul_eq_zero.1 h0 with h|h
         ·exact h
         ·exact absurd h hcc.2.2.1
        subst this;simp only[I0,show Array.range 0= #[]from rfl,Array.map_empty]at M;simp only[I0,show Array.range 0= #[]from rfl,Array.map_empty,oC,ed,M,gR,iJ]
       ·rw[if_neg h0];simp only[gR,eO D,ed,oC,M,iJ]
      ·cases d
     ·cases b
    ·cases b
   ·cases b
  case makeSlice t l c=>
   split at b
   ·rename_i el hd;split at b
    ·rename_i s z bytes hs D hby;split at b
     ·rename_i hcc;cases b;simp only[dX]at A;obtain⟨T,U⟩:=xq A;simp only[aop]at d;split at d
      ·rename_i lv cv hlv hcv;split at d
       ·rename_i ln cn hln hcn;simp only[ble_eq,blt_eq,cond_eq_ite,gk,decide_eq_true_eq]at d;split at d
        ·rename_i hcond;obtain⟨⟨c1,c2⟩,c3⟩:=hcond;cases d;refine⟨_,rfl,rfl,rfl,λμ b w a u m=> ?_⟩;have f:aP P l=true/\aP P c=true:=by simpa[Op.operands]using hall
         obtain⟨kl,L⟩:=sD (dF u m f.1 (by rw[←xU (h:=h) (h':=b) T];exact hlv)) hln;obtain⟨kc,K⟩:=sD (dF u m f.2 (by rw[←xU (h:=h) (h':=b) U];exact hcv)) hcn;obtain⟨i,Q,D⟩:=tR D;have Y:i.size=s:=by
          obtain⟨j,G,q⟩:=tM hs;rw[Q]at G;cases G;exact q
         have O:i.bytes=bytes:=by
          simp only[nE,BT]at hby;obtain⟨j,G,q⟩:=hby;rw[Q]at G;cases G;exact q
         have B:z.cells.size=s:=by rw[JH,←cK];exact hcc.1
         have g:LR μ (eR cn (cellsOf z)) (madeCells z.cells ((cn:Int).toNat*i.size)).toList:=by
          have:=DI (μ:=μ) hcc.2.2 cn;rw[B]at this;unfold madeCells;rw[B,Y,Int.toNat_natCast];exact this
         refine⟨.slice (some ⟨w.heap.size,0,none⟩) ln cn, .cells (madeCells z.cells ((cn:Int).toNat*i.size)) el,{w with heap:=w.heap.push (.cells (madeCells z.cells ((cn:Int).toNat*i.size)) el)},⟨w.heap.size,0,(madeCells z.cells ((cn:Int).toNat*i.size)).size,bS (cellsOf z)⟩,?_,⟨rfl,rfl,rfl,by first|exact bl _|exact xp _ _⟩,rfl,rfl,λμ' y e=>⟨VR.slice (o:=0) e c3 c1,DJ rfl g y e⟩⟩;simp only[execOp,hop,L,K];simp only[gR];rw[run_make w t el i z hd Q D kl kc ln cn ω ω (by rw[O,←Int.natCast_mul];omega) (by unfold UNK at c3;omega)];rfl
        ·cases d
       ·cases d
      ·cases d
     ·cases b
    ·cases b
   ·cases b
  all_goals
   exfalso;repeat' split at b
   all_goals first
    |contradiction
    |(cases b;done)
    |(cases b;simp[dX]at A;done)
    |(obtain⟨_,_,rfl⟩:=fq b;simp[dX]at A;done)
 ·cases b
def R.late(d:R P μ h w){v:Obj}{o:bT}(t:w'.heap=w.heap.push v)(K:k.r=w.heap.size)(hb:h.get b=some o)(s:μ b=none)(B:P.globals.size<=b)(C:OR P (upd μ b k) w' b o):
 R P (upd μ b k) h w':=by
 have y:∀c i,μ c=some i→upd μ b k c=some i:=λc i a=>by
  unfold upd;rw[if_neg];exact a;intro e;subst e;rw[s]at a;cases a
 have L:=size_push t;refine⟨d.big,λg q A D=> ?_,λc q a=> ?_,d.lt,λc i a=> ?_,λc m I J u F l a n G H j f E=> ?_⟩
 ·obtain⟨u,z,x⟩:=d.mU g q A D;exact⟨u,y _ _ z,x.1,x.2.1,x.2.2.get (fQ t _ (d.dom _ _ z).2)⟩
 ·by_cases e:c=b
  ·subst e;rw[hb]at a;cases a;exact C
  ·exact OR.mono y (by unfold upd;rw[if_neg e]) (λi p=>fQ t _ (d.dom _ _ p).2) (d.obj c q a)
 ·unfold upd at a;split at a
  ·rename_i e;subst e;cases a;exact⟨d.lt _ o hb,ω⟩
  ·have:=d.dom c i a;exact⟨this.1,ω⟩
 ·unfold upd at j f;by_cases e1:c=b
  ·rw[if_pos e1]at j;cases j;by_cases e2:m=b
   ·exact absurd (e1.trans e2.symm) l
   ·rw[if_neg e2]at f;have:=(d.dom _ _ f).2;omega
  ·rw[if_neg e1]at j;by_cases e2:m=b
   ·rw[if_pos e2]at f;cases f;have:=(d.dom _ _ j).2;omega
   ·rw[if_neg e2]at f;exact d.mu c m I J u F l a n G H j f E
def St.late{μ0:Mu}{d:Heap}{w0:World}(s:St μ0 d w0 μ h w){j:Obj}(g:w'.heap=w.heap.push j)(D:k.r=w.heap.size)(hb:d.next<=b)(y:μ b=none)(f:Same w w'):St μ0 d w0 (upd μ b k) h w':=by
 have E:=size_push g;have v:=s.le;refine⟨λx A=> ?_,ω,λr e z=> ?_,λr e i=> ?_,λr L u=> ?_,s.same.trans f⟩
 ·unfold upd;rw[if_neg ω];exact s.ext x A
 ·rw[fQ g r ω];exact s.keep r e z
 ·obtain⟨c,o,B,n,p,q,a,t⟩:=i;unfold upd at a;split at a
  ·cases a;omega
  ·exact s.wr r e ⟨c,o,B,n,p,q,a,t⟩
 ·obtain⟨m,l,C⟩:=s.loops r L u;exact⟨m,(fQ g r (Array.getElem?_eq_some_iff.1 l).1).trans l,C⟩
def lT{nt:Nat}{ops:Array Oper}:∀{l:List Oper} {as:List bg},cS P nt ops l=some as->as.length=l.length/\∀(i:Nat) (o:Oper),l[i]? =some o->∃ao:bg,as[i]? =some ao/\mQ nt o.dst=true/\ao.dst=o.dst/\iy P o.op=some ao.op∧
 ∀{e:Env} {μ:Mu} {t:Array Value} {b:Bool},(∀s b0,ao.guard=some (s,b0)->∀v,geT e s=some v->∃v',t[s]? =some v'∧VR μ v v')->cg e ao.guard=some b->Region.wanted o (yielded ops t)=b
 |[],as,h=>by
  cases h;exact⟨rfl,λi o a=>by simp at a⟩
 |o::os,as,h=>by
  cases as with
  |nil=>
   simp only[cS]at h;repeat' split at h
   all_goals cases h
  |cons ao as=>
   obtain⟨c1,c2,c3,c4,c5⟩:=iV h;obtain⟨f,g⟩:=lT c4;refine⟨by simp[f],λi j a=> ?_⟩;cases i with
   |zero=>simp at a;subst a;exact⟨ao,rfl,c1,c2,c3,λ{e μ t b} c d=>c5 c d⟩
   |succ i=>simpa using g i j (by simpa using a)
def jR:∀{l:List Nat} {n:Nat},gL l n=true↔n∈l
 |[],n=>by simp[gL]
 |x::l,n=>by
  rw[nq];simp only[wp,decide_eq_true_eq,Ps,jR];exact⟨λh=>h.imp Eq.symm id,λh=>h.imp Eq.symm id⟩
structure Stat (as:List bg) (ops:List Oper) (bf:List Nat):Prop where
 slots:∀(j p:Nat) (aj ap:bg) (t:Nat),as[j]? =some aj->as[p]? =some ap->t∈dK aj->ap.dst=some t->p∈j6 ops j∨∃m:Nat,bf[p]? =some m/\Nat.testBit m j=true
 U5:∀(j p:Nat) (aj ap:bg) (t:Nat),as[j]? =some aj->as[p]? =some ap->aj.dst=some t->ap.dst=some t->j=p
 masks:∀(i p m:Nat),i<ops.length->p<ops.length->bf[i]? =some m->Nat.testBit m p=true->∃q∈j6 ops i,p=q∨∃mq:Nat,bf[q]? =some mq/\Nat.testBit mq p=true
 Hp:∀(i:Nat) (ai:bg),as[i]? =some ai->∀f l,ai.op≠ .lI f l
def EM{as:List bg}{ops:List Oper}{a bf:List Nat}(k:as.length=ops.length)(h:y9 as ops a bf=true):
 a.length=ops.length/\(∀i∈a,i<ops.length)/\(∀i,i<ops.length->i∈a)/\topoOk as ops [] a=true/\Stat as ops bf:=by
 unfold y9 at h;simp only[gk,beq_eq,decide_eq_true_eq]at h;obtain⟨⟨⟨⟨⟨⟨⟨y,z⟩,A⟩,B⟩,C⟩,D⟩,E⟩,F⟩:=h;refine⟨y,λi e=>by simpa[G7]using List.all_eq_true.1 z i e,λi e=>jR.1 (List.all_eq_true.1 A i (by simpa using e)),B,⟨λj p v w t g c I o=> ?_,λj p v w t g c o r=> ?_,λi p m e c s G=> ?_,λi u n f l H=> ?_⟩⟩
 ·have b:j<ops.length:=by rw[←k];exact(List.getElem?_eq_some_iff.1 g).1
  have d:p<ops.length:=by rw[←k];exact(List.getElem?_eq_some_iff.1 c).1
  have q:=List.all_eq_true.1 C j (by simpa using b);rw[cC,g]at q;have q:=List.all_eq_true.1 q t I;have q:=List.all_eq_true.1 q p (by simpa using d);rw[cC,c]at q;simp only[o,wp,Id,beq_eq_false_iff_ne,ne_eq,not_true_eq_false,false_or]at q;refine q.imp jR.1 λq=> ?_;rw[cC]at q;split at q
  ·rename_i m s;exact⟨m,s,q⟩
  ·cases q
 ·have b:j<ops.length:=by rw[←k];exact(List.getElem?_eq_some_iff.1 g).1
  have d:p<ops.length:=by rw[←k];exact(List.getElem?_eq_some_iff.1 c).1
  have q:=List.all_eq_true.1 D j (by simpa using b);have q:=List.all_eq_true.1 q p (by simpa using d);rw[cC,cC,g,c]at q;simp[o,r]at q;exact q
 ·have q:=List.all_eq_true.1 E i (by simpa using e);have q:=List.all_eq_true.1 q p (by simpa using c);rw[cC,s]at q;simp only[G,LE,Bool.false_or,List.any_eq_true,wp,beq_eq,decide_eq_true_eq]at q;obtain⟨x,J,q⟩:=q;refine⟨x,J,q.imp id λq=> ?_⟩;rw[cC]at q;split at q
  ·rename_i mq hmq;exact⟨mq,hmq,q⟩
  ·cases q
 ·have q:=List.all_eq_true.1 F u (ci n);rw[H]at q;cases q
def topo_cons{as:List bg}{ops:List Oper}{done is:List Nat}{i:Nat}(h:topoOk as ops done (i::is)=true):(∀p∈j6 ops i,p∈done)/\i ∉ done/\topoOk as ops (i::done) is=true∧
 ∃ai:bg,as[i]? =some ai/\(lJ ai.op=true∨∀j∈is,∃p∈j6 ops j,p∈i::is):=by
 simp only[topoOk,gk]at h;obtain⟨⟨⟨d,c⟩,a⟩,e⟩:=h;refine⟨λp b=>jR.1 (List.all_eq_true.1 d p b),λf=> ?_,e,?_⟩
 ·rw[jR.2 f]at c;cases c
 ·rw[cC]at a;split at a
  ·rename_i ai hai;refine⟨ai,hai,?_⟩;simp only[wp,PP,List.any_eq_true]at a;exact a.imp id λq j g=>let⟨p,b,hq⟩:=q j g;⟨p,b,jR.1 hq⟩
  ·cases a
def fO{ops:Array Oper}{a:Array Bool}{i:Nat}(hi:i∈Region.ready .any ops a):i<ops.size/\a.getD i true=false/\∀p∈j6 ops.toList i,a.getD p false=true:=by
 simp only[Region.ready,List.mem_filter,List.mem_range,gk,Id]at hi;obtain⟨e,f,c⟩:=hi;refine⟨e,f,λp b=> ?_⟩;simp only[j6,cC,Array.getElem?_toList]at b;cases ho:ops[i]? with
 |none=>rw[ho]at b;cases b
 |some o=>
  rw[ho]at b c;simp only[HB,List.mem_map,List.mem_filter,Array.mem_toList_iff]at b;obtain⟨d,⟨h,g⟩,rfl⟩:=b;simp only[ab2,Option.getD_some,Array.all_eq_true_iff_forall_mem]at c;have:=c d h;simpa[g]using this
def Lst(listed:Array Bool)(i:Nat):Prop:=listed.getD i false=true
structure Xq (P:Program) (ops:Array Oper) (as:List bg) (base:Nat) (h0:Heap) (listed:Array Bool) (μ:Mu) (a:Act) (done:List Nat) (rs:List Rec) (e:Env) (h:Heap) (r:Rec):Prop where
 done:r.i∈done
 op:as[r.i]? =some r.o
 env:∀t v,geT r.e t=some v->t∈dK r.o/\(¬Lst listed r.i->(∃r'∈rs,¬Lst listed r'.i/\r'.o.dst=some t/\r'.v=v/\r'.i∈j6 ops.toList r.i)∨
  ((∀(p:Nat) (ap:bg),as[p]? =some ap->ap.dst=some t->p∈j6 ops.toList r.i->Lst listed p)/\∃v',a.tmps[t]? =some v'∧VR μ v v'))
 dst:∀t,r.o.dst=some t->geT e t=some r.v
 kind:match r.k with
  | .skip=>cg r.e r.o.guard=some false/\r.v=undef
  | .quiet=>cg r.e r.o.guard=some true/\(∀f l,r.o.op≠ .lI f l)/\dB r.o.op=true/\aop h base r.e r.o.op=some (.val r.v h)
  | .made b=>cg r.e r.o.guard=some true/\(∀f l,r.o.op≠ .lI f l)/\∃obj o,ops[r.i]? =some o/\h.get b=some obj/\Iu P o r.e b r.v obj/\h0.next<=b/\(¬Lst listed r.i->μ b=none)
structure Inv (P:Program) (ops:Array Oper) (as:List bg) (bf:List Nat) (base:Nat) (μ0:Mu) (h0:Heap) (w0:World) (a0:Act) (listed:Array Bool) (μ:Mu) (a:Act) (w:World) (done is:List Nat) (rs:List Rec) (e:Env) (h:Heap):Prop where
 size:listed.size=ops.size
 sub:∀i,Lst listed i->i∈done
 Pt:∀i,i∈done->¬Lst listed i->∃r∈rs,r.i=i
 Fu:∀(i m p:Nat),Lst listed i->bf[i]? =some m->p<ops.size->Nat.testBit m p=true->Lst listed p
 topo:topoOk as ops.toList done is=true
 closed:∀j∈done,∀p∈j6 ops.toList j,p∈done
 BD:∀(j m p:Nat),j∈done->bf[j]? =some m->p<ops.size->Nat.testBit m p=true->p∈done
 lt:∀i,i∈done->i<ops.size
 all:∀i,i<ops.size->i∈done∨i∈is
 AX:∀i,i∈is->i<ops.size
 sP:∀r∈rs,Xq P ops as base h0 listed μ a done rs e h r
 alone:∀r∈rs,∀r'∈rs,∀b,r.k= .made b->r'.k= .made b->r.i=r'.i
 rel:R P μ h w
 st:St μ0 h0 w0 μ h w
 nx0:h0.next<=h.next
 nxb:base<=h.next
 big:P.globals.size<=h0.next
 env:∀t v,geT e t=some v->(∃r∈rs,¬Lst listed r.i/\r.o.dst=some t)∨∃v',a.tmps[t]? =some v'∧VR μ v v'
 tm:a.tmps.size=a0.tmps.size
 df:a.defers=a0.defers
variable {ops:Array Oper} {as:List bg} {bf:List Nat} {base:Nat} {μ0 μ:Mu} {h0 h:Heap} {w0 w:World} {a0 a:Act} {listed:Array Bool} {done is:List Nat} {rs:List Rec} {e:Env} {i:Nat}
def Lst.set{i j:Nat}(hi:i<listed.size):Lst (listed.setIfInBounds i true) j↔(j=i∨Lst listed j):=by
 unfold Lst;simp only[xf,gS];by_cases h:i=j
 ·subst h;simp[hi]
 ·simp[h,Ne.symm h]
variable{m:Nat}
def Inv.before(hI:Inv P ops as bf base μ0 h0 w0 a0 listed μ a w done is rs e h)(f:Stat as ops.toList bf){i:Nat}(hi:i∈Region.ready .any ops listed)(hb:bf[i]? =some m){p:Nat}(d:p<ops.size)(j:Nat.testBit m p=true):Lst listed p:=by
 obtain⟨q,g,c⟩:=f.masks i p m (by simpa using(fO hi).1) (by simpa using d) hb j;have b:=(fO hi).2.2 q g;rcases c with rfl|⟨mq,h1,h2⟩
 ·exact b
 ·exact hI.Fu q mq p b h1 d h2
variable{t:Nat}
def Inv.fresh(hI:Inv P ops as bf base μ0 h0 w0 a0 listed μ a w done (i::is) rs e h)(C:Stat as ops.toList bf){k:bg}(n:as[i]? =some k)(D:t∈dK k)(z:geT e t=some v):
 (∃b∈rs,¬Lst listed b.i/\b.o.dst=some t/\b.v=v/\b.i∈j6 ops.toList i)∨((∀(p:Nat) (l:bg),as[p]? =some l->l.dst=some t->p∈j6 ops.toList i->Lst listed p)/\∃v',a.tmps[t]? =some v'∧VR μ v v'):=by
 obtain⟨E,F,_⟩:=topo_cons hI.topo;have jy:∀b∈rs,b.o.dst=some t->b.v=v/\b.i∈j6 ops.toList i:=λb x j=>by
  have d:=hI.sP b x;have c:=d.dst t j;rw[z]at c;injection c with c
  refine⟨c.symm,?_⟩;rcases C.slots i b.i k b.o t n d.op D j with q|⟨m,q1,q2⟩
  ·exact q
  ·exact(F (hI.BD b.i m i d.done q1 (hI.AX i (b7 ..)) q2)).elim
 by_cases hp:∃b∈rs,¬Lst listed b.i/\b.o.dst=some t
 ·obtain⟨b,c,f,g⟩:=hp;obtain⟨A,B⟩:=jy b c g;exact .inl ⟨b,c,f,g,A,B⟩
 ·right;refine⟨λp l s j u=>Classical.byContradiction λy=> ?_,?_⟩
  ·obtain⟨b,c,f⟩:=hI.Pt p (E p u) y;have:=(hI.sP b c).op;rw[f,s]at this;injection this with this
   exact hp ⟨b,c,by rw[f];exact y,by rw[←this];exact j⟩
  ·rcases hI.env t v z with⟨r,c,f,g⟩|q
   ·exact(hp ⟨r,c,f,g⟩).elim
   ·exact q
def Inv.look(hI:Inv P ops as bf base μ0 h0 w0 a0 listed μ a w done (i::is) rs e h)(k:Stat as ops.toList bf)(hi:i∈Region.ready .any ops listed){d:bg}(b:as[i]? =some d){f:Env}
 (c:∀t v,geT f t=some v->t∈dK d/\geT e t=some v):dH μ f a.tmps:=by
 intro t v l;obtain⟨g,j⟩:=c t v l;rcases hI.fresh k b g j with⟨r',q1,q2,q3,q4,q5⟩|⟨_,q⟩
 ·exact(q2 ((fO hi).2.2 _ q5)).elim
 ·exact q
def Inv.YO(hI:Inv P ops as bf base μ0 h0 w0 a0 listed μ a w done is rs e h){r:Rec}(hr:r∈rs)(hi:r.i∈Region.ready .any ops listed)(b:¬Lst listed r.i):dH μ r.e a.tmps:=by
 intro t v c;rcases((hI.sP r hr).env t v c).2 b with⟨r',q1,q2,q3,q4,q5⟩|⟨_,q⟩
 ·exact(q2 ((fO hi).2.2 _ q5)).elim
 ·exact q
def pZ{i:Nat}(d:listed.size=ops.size)(hi:i∈Region.ready .any ops listed):i<listed.size/\¬Lst listed i:=by
 obtain⟨c,b,_⟩:=fO hi;have a:i<listed.size:=ω
 refine⟨a,λh=> ?_⟩;unfold Lst at h;simp[xf,a]at h b;rw[h]at b;cases b
def Inv.took(hI:Inv P ops as bf base μ0 h0 w0 a0 listed μ a w done is rs e h)(T:Stat as ops.toList bf){i:Nat}(hi:i∈Region.ready .any ops listed){r:Rec}(hr:r∈rs)(y:r.i=i)(g:r.o.dst=dst)
 (M:mQ nt dst=true)(be:nt<=a.tmps.size)(hv:VR μ' r.v v')(hR:R P μ' h w')(W:St μ0 h0 w0 μ' h w')(hm:∀b k,μ b=some k->μ' b=some k)
 (ar:∀s∈rs,s.i≠i->¬Lst listed s.i->∀b,s.k= .made b->μ b=none->μ' b=none):Inv P ops as bf base μ0 h0 w0 a0 (listed.setIfInBounds i true) μ' (a.put dst v') w' done is rs e h:=by
 obtain⟨Z,ae⟩:=pZ hI.size hi;have c:∀j,Lst (listed.setIfInBounds i true) j↔(j=i∨Lst listed j):=λj=>Lst.set Z;have f:=hI.sP r hr;refine⟨by simpa using hI.size,λj I=> ?_,λj I C=> ?_,λj m p I H hp hb=> ?_,hI.topo,hI.closed,hI.BD,hI.lt,hI.all,hI.AX,λs O=> ?_,hI.alone,hR,W,hI.nx0,hI.nxb,hI.big,λt v S=> ?_,by rw[ef];exact hI.tm,by rw[put_defers];exact hI.df⟩
 ·rcases(c j).1 I with rfl|h
  ·rw[←y];exact f.done
  ·exact hI.sub j h
 ·exact hI.Pt j I λh=>C ((c j).2 (.inr h))
 ·refine(c p).2 ?_;rcases(c j).1 I with rfl|h
  ·obtain⟨q,hq,aw⟩:=T.masks j p m (by simpa using(fO hi).1) (by simpa using hp) H hb;have J:=(fO hi).2.2 q hq;rcases aw with rfl|⟨mq,x,E⟩
   ·exact .inr J
   ·exact .inr (hI.Fu q mq p J x hp E)
  ·exact .inr (hI.Fu j m p h H hp hb)
 ·have l:=hI.sP s O;refine⟨l.done,l.op,λt u hu=> ?_,l.dst,?_⟩
  ·obtain⟨q0,q⟩:=l.env t u hu;refine⟨q0,λC=> ?_⟩;have K:s.i≠i:=λe=>C ((c _).2 (.inl e));have n:¬Lst listed s.i:=λe=>C ((c _).2 (.inr e));rcases q n with⟨r2,A,G,D,U,k5⟩|⟨A,v2,G,D⟩
   ·by_cases E:r2.i=i
    ·right;have L:r2.o=r.o:=by
      have x:=(hI.sP r2 A).op;rw[E,←y,f.op]at x;injection x with x;exact x.symm
     rw[L,g]at D;subst D;have aE:r.v=u:=by
      have x:=f.dst t g;have z:=(hI.sP r2 A).dst t (by rw[L];exact g);rw[x]at z;injection z with z
      rw[z,U]
     refine⟨λp V B X N=>(c p).2 (.inl ?_),v',?_,aE▸hv⟩
     ·exact T.U5 p i V r.o t B (by rw[←y];exact f.op) X g
     ·simp only[mQ,G7]at M;rw[iz];simp[gS,show t<a.tmps.size by omega]
    ·exact .inl ⟨r2,A,λh=>((c _).1 h).elim E G,D,U,k5⟩
   ·right;refine⟨λp V B X N=>(c p).2 (.inr (A p V B X N)),v2,?_,D.mono hm⟩;rw[iz];cases hdd:dst with
    |none=>exact G
    |some d=>
     have Y:d≠t:=λh=>by
      subst h;have Q:r.o.dst=some d:=by rw[g,hdd]
      rcases T.slots s.i i s.o r.o d l.op (by rw[←y];exact f.op) q0 Q with q|⟨m,q1,q2⟩
      ·exact ae (A i r.o (by rw[←y];exact f.op) Q q)
      ·exact n (hI.before T hi q1 (hI.lt _ l.done) q2)
     simp[gS,Y,G]
  have F:=l.kind;cases hrk:s.k with
  |skip=>rw[hrk]at F;exact F
  |quiet=>rw[hrk]at F;exact F
  |made b=>
   rw[hrk]at F;obtain⟨A,G,ba,o,D,U,k5,k6,k7⟩:=F;refine⟨A,G,ba,o,D,U,k5,k6,λC=> ?_⟩;have K:s.i≠i:=λe=>C ((c _).2 (.inl e));have n:¬Lst listed s.i:=λe=>C ((c _).2 (.inr e));exact ar s O K n b hrk (k7 n)
 ·by_cases ht:dst=some t
  ·right;have:=f.dst t (by rw[g];exact ht);rw[S]at this;cases this;subst ht;simp only[mQ,G7]at M;refine⟨v',?_,hv⟩;rw[iz];simp[gS,show t<a.tmps.size by omega]
  ·rcases hI.env t v S with⟨s,q1,q2,q3⟩|⟨v2,q1,q2⟩
   ·left;refine⟨s,q1,λh=> ?_,q3⟩;rcases(c _).1 h with h|h
    ·have l:=hI.sP s q1;have:s.o=r.o:=by
      have x:=l.op;have E:=f.op;rw[h,←y,E]at x;injection x with x;exact x.symm
     rw[this,g]at q3;exact ht q3
    ·exact q2 h
   ·right;refine⟨v2,?_,q2.mono hm⟩;rw[iz];cases dst with
    |none=>exact q1
    |some d=>
     have:d≠t:=λh=>ht (by rw[h]);simp[gS,this,q1]
variable{rd:Option Nat}
def Inv.jy(hI:Inv P ops as bf base μ0 h0 w0 a0 listed μ a w done is rs e h)(H:Stat as ops.toList bf)(l:nt<=a.tmps.size)(N:cS P nt ops ops.toList=some as){i:Nat}(hi:i∈Region.ready .any ops listed)(hd:i∈done)
 (G:∀μ' a' y,Inv P ops as bf base μ0 h0 w0 a0 (listed.setIfInBounds i true) μ' a' y done is rs e h->K a' y):wpOpIn (Fw rd) 0 P ops Q i K a w:=by
 obtain⟨ar,j⟩:=pZ hI.size hi;obtain⟨r,n,d⟩:=hI.Pt i hd j;have x:=hI.sP r n;have O:i<ops.size:=(fO hi).1;obtain⟨o,T⟩:∃o,ops[i]? =some o:=⟨ops[i],by simp[O]⟩;obtain⟨ao,h1,C,D,E,c5⟩:=(lT N).2 i o (by simpa using T);have I:ao=r.o:=by
  have:=x.op;rw[d,h1]at this;injection this
 subst I;have F:dH μ r.e a.tmps:=hI.YO n (by rw[d];exact hi) (by rw[d];exact j);have U:∀b,cg r.e r.o.guard=some b->Region.wanted o (yielded ops a.tmps)=b:=λb J=>c5 (λs _ _ v hv=>F s v hv) J;have g:=x.kind;unfold wpOpIn;simp only[T];cases hrk:r.k with
 |skip=>
  rw[hrk]at g;rw[U _ g.1];simp only[Cl,if_false];refine⟨λ_ _=>ic,G μ _ _ ?_⟩;exact hI.took H hi n d D C l (by rw[g.2];exact(VR.dA (v:=undef) rfl).1) hI.rel hI.st (λ_ _ h=>h) (λ_ _ _ _ _ _ h=>h)
 |quiet=>
  rw[hrk]at g;obtain⟨W,X,_,A⟩:=g;rw[U _ W];simp only[if_true];refine⟨λ_ _=>ic,?_⟩;rw[Oper.semAt_eq _ _ _ (vu E X)];refine As (Jd hI.rel F E A) λμ' v' y Z B p=>G μ' _ _ ?_;have z:=p.mono hI.rel;refine hI.took H hi n d D C l Z B (hI.st.trans p hI.nx0) z λr' m _ u b J f=> ?_;have t:=(hI.sP r' m).kind;rw[J]at t;obtain⟨_,_,Y,_,_,hg,_⟩:=t;rw[p.ext b (hI.rel.lt b _ hg)];exact f
 |made b=>
  rw[hrk]at g;obtain⟨W,X,Y,o',A,k4,k5,k6,k7⟩:=g;rw[d,T]at A;cases A;rw[U _ W];simp only[if_true];refine⟨λ_ _=>ic,?_⟩;rw[Oper.semAt_eq _ _ _ (vu E X)];obtain⟨v',ae,y,k,Z,qs,B,p,q4⟩:=k5.2.2 μ h w a hI.rel F;have f:=k7 (by rw[d];exact j);have z:∀c V,μ c=some V→upd μ b k c=some V:=λc V M=>by
   unfold upd;rw[if_neg];exact M;intro e;subst e;rw[f]at M;cases M
  obtain⟨s1,s2⟩:=q4 (upd μ b k) z (fM _ _ _);rw[Z];refine G (upd μ b k) _ y ?_;refine hI.took H hi n d D C l s1 (hI.rel.late B p k4 f (gy hI.big k6) s2) (hI.st.late B p k6 f qs) z λr' m S u b' L q=> ?_;unfold upd;rw[if_neg]
  ·exact q
  ·intro e;subst e;exact S ((hI.alone r' m r n b' L hrk).trans d)
def sW:∀{a b:List Value},(∀x∈a,∀y,kU x y=true->x=y)->j7 a b=true->a=b
 |[],[],_,_=>rfl
 |[],_::_,_,h=>by simp[j7]at h
 |_::_,[],_,h=>by simp[j7]at h
 |x::xs,y::ys,hx,h=>by
  simp only[j7,cond_eq_ite]at h;split at h
  ·rename_i h1;rw[hx x (by simp) y h1,sW (λz hz=>hx z (by simp[hz])) h]
  ·cases h
def JV{a b:ByteArray}(h:a.data.toList=b.data.toList):a=b:=by
 obtain⟨⟨x⟩⟩:=a;obtain⟨⟨y⟩⟩:=b;simp at h;rw[h]
variable{y:Value}
def sV(h:kU x y=true):x=y:=by
 unfold kU at h;split at h<;>(try simp only[gk,beq_iff_eq]at h)
 all_goals first
  |rfl
  |(cases h;done)
  |(subst h;rfl)
  |(obtain⟨a,b⟩:=h;subst a;subst b;rfl)
  |(rw[JV h];done)
  |(obtain⟨⟨a,b⟩,c⟩:=h;subst a;subst b;subst c;rfl)
def vE(h:jj x y=true):x=y:=by
 unfold jj at h;split at h
 ·rw[fm (sW (λ_ _ _ h=>sV h) h)]
 ·rw[fm (sW (λ_ _ _ h=>sV h) h)]
 ·simp only[gk,beq_iff_eq]at h;obtain⟨a,b,c⟩:=h;rw[a,fm (sW (λ_ _ _ h=>sV h) b),fm (sW (λ_ _ _ h=>sV h) c)]
 ·exact sV h
def Bc(i:dB f=true)(h1:aop h base e f=some (.val v h')):h'=h∨∃o,h'=h.push o:=by
 have j:∀{size:Nat} {a:Option Addr} {len cap:Nat} {lo hi mx:Option Operand},hM h e size a len cap lo hi mx=some (v,h')->h'=h∨∃o,h'=h.push o:=λd=>by
  unfold hM at d;simp only[cond_eq_ite]at d;repeat' split at d
  all_goals first
   |(cases d;done)
   |(cases d;exact .inl rfl)
   |(cases d;exact .inr ⟨_,rfl⟩)
 have g:∀{x:Option (Value×Heap)},fW x=some (.val v h')->x=some (v,h'):=λd=>mh d;cases f<;>(try (simp[dB]at i;done))
 case mov=>obtain⟨v,_,b⟩:=aD h1;cases b;exact .inl rfl
 case jw=>obtain⟨v,_,b⟩:=aD h1;cases b;exact .inl rfl
 case un=>obtain⟨v,_,b⟩:=aD h1;obtain⟨v,_,b⟩:=aD b;cases b;exact .inl rfl
 case load=>obtain⟨v,_,b⟩:=aD h1;obtain⟨v,_,b⟩:=aD b;cases b;exact .inl rfl
 case conv c x=>
  obtain⟨l,_,b⟩:=aD h1;have b:=g b;unfold y5 at b;repeat' split at b
  all_goals first
   |(cases b;done)
   |(cases b;exact .inl rfl)
   |(cases b;exact .inr ⟨_,rfl⟩)
 case cT=>
  obtain⟨v,_,b⟩:=aD h1;split at b<;>cases b;exact .inl rfl
 case bin op x y=>
  cases op;case num=>
   obtain⟨v,_,b⟩:=aD h1;obtain⟨v,_,b⟩:=aD b;obtain⟨v,_,b⟩:=aD b;cases b;exact .inl rfl
  case beq=>simp only[aop]at h1;split at h1<;>cases h1;exact .inl rfl
  case nil=>
   obtain⟨v,_,b⟩:=aD h1;obtain⟨v,_,b⟩:=aD b;split at b<;>cases b;exact .inl rfl
  case agg=>
   obtain⟨v,_,b⟩:=aD h1;obtain⟨v,_,b⟩:=aD b;split at b
   ·split at b<;>cases b;exact .inl rfl
   ·cases b
 case pick=>
  simp only[aop]at h1;split at h1
  ·obtain⟨v,_,b⟩:=aD h1;cases b;exact .inl rfl
  ·obtain⟨v,_,b⟩:=aD h1;cases b;exact .inl rfl
  ·cases h1
 case slice k x lo hi mx=>
  cases k<;>cases mx<;>simp only[aop]at h1
  ·repeat' split at h1
   all_goals first|(cases h1;done)|skip
   simp only[cond_eq_ite,ec]at h1;obtain⟨_,h1⟩:=h1;cases h1;exact .inl rfl
  ·cases h1
  all_goals
   split at h1
   ·exact j (g h1)
   ·cases h1
 case len k x=>
  match k with
  |0=>simp only[aop]at h1;split at h1<;>cases h1;exact .inl rfl
  |1=>simp only[aop]at h1;split at h1<;>cases h1;exact .inl rfl
  |k+2=>
   simp only[aop]at h1;split at h1
   ·cases h1;exact .inl rfl
   ·split at h1<;>cases h1;exact .inl rfl
   ·cases h1
 case dx=>simp only[aop]at h1;repeat' split at h1
          all_goals first|(cases h1;done)|(simp only[cond_eq_ite,ec]at h1;obtain⟨_,h1⟩:=h1;cases h1;exact .inl rfl)
 case aC=>simp only[aop]at h1;repeat' split at h1
          all_goals first|(cases h1;done)|(simp only[cond_eq_ite,ec]at h1;obtain⟨_,h1⟩:=h1;cases h1;exact .inl rfl)
 case oR=>cases h1;exact .inl rfl
 all_goals
  revert h1;simp only[aop,cond_eq_ite];intro h1;repeat' split at h1
  all_goals first
   |(cases h1;done)
   |(cases h1;exact .inl rfl)
   |(obtain⟨v,_,b⟩:=aD h1;cases b;exact .inl rfl)
def yp(P:Program)(ops:Array Oper)(base:Nat)(h0:Heap)(listed:Array Bool)(μ:Mu)(h:Heap)(r:Rec):Prop:=
 match r.k with
  | .skip=>cg r.e r.o.guard=some false/\r.v=undef
  | .quiet=>cg r.e r.o.guard=some true/\(∀f l,r.o.op≠ .lI f l)/\dB r.o.op=true/\aop h base r.e r.o.op=some (.val r.v h)
  | .made b=>cg r.e r.o.guard=some true/\(∀f l,r.o.op≠ .lI f l)/\∃obj o,ops[r.i]? =some o/\h.get b=some obj/\Iu P o r.e b r.v obj/\h0.next<=b/\(¬Lst listed r.i->μ b=none)
def ni:∀{l:List Nat} {t:Nat} {v:Value},geT (cZ e l) t=some v->t∈l/\geT e t=some v
 |[],_,_,h=>by simp[cZ,geT]at h
 |x::l,t,v,h=>by
  simp only[cZ]at h;split at h
  ·rename_i u hu;simp only[geT,cond_eq_ite,beq_eq,decide_eq_true_eq]at h;split at h
   ·rename_i e;subst e;cases h;exact⟨by simp,hu⟩
   ·have:=ni h;exact⟨by simp[this.1],this.2⟩
  ·have:=ni h;exact⟨by simp[this.1],this.2⟩
def ve{d:Option Nat}:geT (cN e d v) t=if d=some t then some v else geT e t:=by
 cases d with
 |none=>simp[cN]
 |some x=>simp[cN,geT,cond_eq_ite,beq_eq]
def Inv.adv{i:Nat}(hI:Inv P ops as bf base μ0 h0 w0 a0 listed μ a w done (i::is) rs e h)(J:Stat as ops.toList bf){s:bg}(x:as[i]? =some s){k:Rk}{f:Heap}(W:R P μ f w)(K:St μ0 h0 w0 μ f w)(B:h.next<=f.next)
 (X:yp P ops base h0 listed μ f ⟨i,s,cZ e (dK s),v,k⟩)(M:∀r∈rs,yp P ops base h0 listed μ f r)(F:∀b,k= .made b->∀r∈rs,r.k≠ .made b):
 Inv P ops as bf base μ0 h0 w0 a0 listed μ a w (i::done) is (⟨i,s,cZ e (dK s),v,k⟩::rs) (cN e s.dst v) f:=by
 obtain⟨T,V,Y,_⟩:=topo_cons hI.topo;have N:¬Lst listed i:=λh=>V (hI.sub i h);refine⟨hI.size,λj c=>bz _ (hI.sub j c),λj c B=> ?_,hI.Fu,Y,λj c p C=> ?_,λj m p c A C n=> ?_,λj c=> ?_,λj c=> ?_,λj c=>hI.AX j (bz _ c),λr g=> ?_,λr g E l b A y=> ?_,W,K,gy hI.nx0 B,gy hI.nxb B,hI.big,λt u z=> ?_,hI.tm,hI.df⟩
 ·rcases List.mem_cons.1 c with rfl|c
  ·exact⟨_,b7 ..,rfl⟩
  ·obtain⟨r,I,f⟩:=hI.Pt j c B;exact⟨r,bz _ I,f⟩
 ·rcases List.mem_cons.1 c with rfl|c
  ·exact bz _ (T p C)
  ·exact bz _ (hI.closed j c p C)
 ·rcases List.mem_cons.1 c with rfl|c
  ·obtain⟨q,U,O⟩:=J.masks j p m (by simpa using hI.AX j (b7 ..)) (by simpa using C) A n;rcases O with rfl|⟨mq,I,f⟩
   ·exact bz _ (T p U)
   ·exact bz _ (hI.BD q mq p (T q U) I C f)
  ·exact bz _ (hI.BD j m p c A C n)
 ·rcases List.mem_cons.1 c with rfl|c
  ·exact hI.AX _ (b7 ..)
  ·exact hI.lt j c
 ·rcases hI.all j c with h|h
  ·exact .inl (bz _ h)
  ·rcases List.mem_cons.1 h with rfl|h
   ·exact .inl (b7 ..)
   ·exact .inr h
 ·rcases List.mem_cons.1 g with rfl|g
  ·refine⟨b7 ..,x,λt u z=> ?_,λt H=> ?_,X⟩
   ·obtain⟨D,G⟩:=ni z;refine⟨D,λ_=> ?_⟩;rcases hI.fresh J x D G with⟨E,Q,S⟩|k
    ·exact .inl ⟨E,bz _ Q,S⟩
    ·exact .inr k
   ·rw[ve,if_pos H]
  ·have d:=hI.sP r g;refine⟨bz _ d.done,d.op,λt u z=> ?_,λt H=> ?_,M r g⟩
   ·obtain⟨D,G⟩:=d.env t u z;refine⟨D,λB=>(G B).imp (λ⟨E,Q,S⟩=>⟨E,bz _ Q,S⟩) id⟩
   ·rw[ve,if_neg]
    ·exact d.dst t H
    ·intro L;have:=J.U5 r.i i r.o s t d.op x H L;exact V (this▸d.done)
 ·rcases List.mem_cons.1 g with rfl|g<;>rcases List.mem_cons.1 l with rfl|l
  ·rfl
  ·exact(F b A E l y).elim
  ·exact(F b y r g A).elim
  ·exact hI.alone r g E l b A y
 ·rw[ve]at z;split at z
  ·rename_i L;exact .inl ⟨_,b7 ..,N,L⟩
  ·rcases hI.env t u z with⟨r,D,G,q3⟩|q
   ·exact .inl ⟨r,bz _ D,G,q3⟩
   ·exact .inr q
def qQ{f:Heap}{log:List Nat}{c:Nat}:∀{rs b:List Rec},bL f base log c rs=some b→
 (∀r∈b,r∈rs/\uB f base r=true/\KP log r=true)/\∀r∈rs,Nat.testBit c r.i=false->r∈b
 |[],b,h=>by cases h;exact⟨λr hr=>(by cases hr),λr hr=>(by cases hr)⟩
 |r::rs,b,h=>by
  simp only[bL,cond_eq_ite]at h;split at h
  ·rename_i hb;obtain⟨e,g⟩:=qQ h;refine⟨λx a=>⟨bz _ (e x a).1,(e x a).2⟩,λx a d=> ?_⟩;rcases List.mem_cons.1 a with rfl|a
   ·rw[hb]at d;cases d
   ·exact g x a d
  ·split at h
   ·rename_i hc;simp only[gk]at hc;split at h
    ·rename_i rs2 f;cases h;obtain⟨e,g⟩:=qQ f;refine⟨λx a=> ?_,λx a d=> ?_⟩
     ·rcases List.mem_cons.1 a with rfl|a
      ·exact⟨b7 ..,hc⟩
      ·exact⟨bz _ (e x a).1,(e x a).2⟩
     ·rcases List.mem_cons.1 a with rfl|a
      ·exact b7 ..
      ·exact bz _ (g x a d)
    ·cases h
   ·cases h
def Jp{b:Heap}{r:Rec}(a:uB b base r=true)(f:r.k= .quiet)(c:dB r.o.op=true):aop b base r.e r.o.op=some (.val r.v b):=by
 unfold uB at a;rw[f]at a;simp only at a;split at a
 ·rename_i v' h3 hv;simp only[gk,beq_eq,decide_eq_true_eq]at a;have d:=vE a.1;rcases Bc c hv with rfl|⟨o,rfl⟩
  ·rw[hv,d]
  ·exact absurd a.2 (by show¬b.next+1=b.next;omega)
 ·cases a
def Inv.bar{i:Nat}(hI:Inv P ops as bf base μ0 h0 w0 a0 listed μ a w done (i::is) rs e h)(Q:Stat as ops.toList bf)(hi:i∈Region.ready .any ops listed){z:bg}(S:as[i]? =some z)(T:bf[i]? =some l)
 (X:mQ nt z.dst=true)(cY:nt<=a.tmps.size){D:Heap}{log:List Nat}{Z:List Rec}(hv:VR μ' v v')(hR:R P μ' D w')(I:St μ h w μ' D w')(hn:h.next<=D.next)
 (K:∀b,b<h.next->gL log b=false->D.get b=h.get b)(cj:bL D base log l rs=some Z):
 Inv P ops as bf base μ0 h0 w0 a0 (listed.setIfInBounds i true) μ' (a.put z.dst v') w' (i::done) is Z (cN e z.dst v) D:=by
 obtain⟨t1,t2,t3,_⟩:=topo_cons hI.topo;obtain⟨aE,cX⟩:=pZ hI.size hi;have c:∀j,Lst (listed.setIfInBounds i true) j↔(j=i∨Lst listed j):=λj=>Lst.set aE;obtain⟨s1,s2⟩:=qQ cj;have hm:=I.mono hI.rel;have n:∀p,p<ops.size->Nat.testBit l p=true->Lst listed p:=λp y x=>hI.before Q hi T y x;refine⟨by simpa using hI.size,λj g=> ?_,λj g A=> ?_,λj m p g x y s=> ?_,t3,λj g p y=> ?_,λj m p g x y s=> ?_,λj g=> ?_,λj g=> ?_,λj g=>hI.AX j (bz _ g),λr hr=> ?_,λr hr r' bj b x ar=>hI.alone r (s1 r hr).1 r' (s1 r' bj).1 b x ar,hR,
  hI.st.trans I hI.nx0,gy hI.nx0 hn,gy hI.nxb hn,hI.big,λt u L=> ?_,by rw[ef];exact hI.tm,by rw[put_defers];exact hI.df⟩
 ·rcases(c j).1 g with rfl|h
  ·exact b7 ..
  ·exact bz _ (hI.sub j h)
 ·rcases List.mem_cons.1 g with rfl|g
  ·exact(A ((c _).2 (.inl rfl))).elim
  ·have W:¬Lst listed j:=λh=>A ((c j).2 (.inr h));obtain⟨r,h1,h3⟩:=hI.Pt j g W;refine⟨r,s2 r h1 ?_,h3⟩;cases x:Nat.testBit l r.i with
   |false=>rfl
   |true=>exact(W (h3▸n r.i (h3▸hI.lt j g) x)).elim
 ·rcases(c j).1 g with rfl|h
  ·rw[T]at x;cases x;exact(c p).2 (.inr (n p y s))
  ·exact(c p).2 (.inr (hI.Fu j m p h x y s))
 ·rcases List.mem_cons.1 g with rfl|g
  ·exact bz _ (t1 p y)
  ·exact bz _ (hI.closed j g p y)
 ·rcases List.mem_cons.1 g with rfl|g
  ·obtain⟨q,hq,be⟩:=Q.masks j p m (by simpa using hI.AX j (b7 ..)) (by simpa using y) x s;rcases be with rfl|⟨mq,h1,D⟩
   ·exact bz _ (t1 p hq)
   ·exact bz _ (hI.BD q mq p (t1 q hq) h1 y D)
  ·exact bz _ (hI.BD j m p g x y s)
 ·rcases List.mem_cons.1 g with rfl|g
  ·exact hI.AX _ (b7 ..)
  ·exact hI.lt j g
 ·rcases hI.all j g with h|h
  ·exact .inl (bz _ h)
  ·rcases List.mem_cons.1 h with rfl|h
   ·exact .inl (b7 ..)
   ·exact .inr h
 ·obtain⟨bo,cd,J⟩:=s1 r hr;have f:=hI.sP r bo;refine⟨bz _ f.done,f.op,λt u L=> ?_,λt ht=> ?_,?_⟩
  ·obtain⟨H,O⟩:=f.env t u L;refine⟨H,λhn=> ?_⟩;have F:¬Lst listed r.i:=λh=>hn ((c _).2 (.inr h));rcases O F with⟨r2,B,C,G,N,Y⟩|⟨B,v2,C,G⟩
   ·left;refine⟨r2,s2 r2 B ?_,λh=> ?_,G,N,Y⟩
    ·cases x:Nat.testBit l r2.i with
     |false=>rfl
     |true=>exact(C (n r2.i (hI.lt _ (hI.sP r2 B).done) x)).elim
    ·rcases(c _).1 h with h|h
     ·exact t2 (h▸(hI.sP r2 B).done)
     ·exact C h
   ·right;refine⟨λp ap ae E ba=>(c p).2 (.inr (B p ap ae E ba)),v2,?_,G.mono hm⟩;rw[iz];cases hdd:z.dst with
    |none=>exact C
    |some d=>
     have aw:d≠t:=λh=>by
      subst h;rcases Q.slots r.i i r.o z d f.op S H hdd with q|⟨m,N,Y⟩
      ·exact t2 (hI.closed _ f.done i q)
      ·exact F (hI.before Q hi N (hI.lt _ f.done) Y)
     simp[gS,aw,C]
  ·rw[ve,if_neg]
   ·exact f.dst t ht
   ·intro E;have:=Q.U5 r.i i r.o z t f.op S ht E;exact t2 (this▸f.done)
  ·have M:=f.kind;cases hrk:r.k with
   |skip=>rw[hrk]at M;exact M
   |quiet=>
    rw[hrk]at M;obtain⟨B,C,G,_⟩:=M;exact⟨B,C,G,Jp cd hrk G⟩
   |made b=>
    rw[hrk]at M;obtain⟨B,C,cJ,o,G,N,Y,k6,k7⟩:=M;have V:gL log b=false:=by
     unfold KP at J;rw[hrk]at J;simpa using J
    have U:=hI.rel.lt b _ N;refine⟨B,C,cJ,o,G,by rw[K b U V];exact N,Y,k6,λA=> ?_⟩;rw[I.ext b U];exact k7 λh=>A ((c _).2 (.inr h))
 ·rw[ve]at L;by_cases E:z.dst=some t
  ·rw[if_pos E]at L;cases L;right;rw[E]at X⊢;simp only[mQ,G7]at X;refine⟨v',?_,hv⟩;rw[iz];simp[gS,show t<a.tmps.size by omega]
  ·rw[if_neg E]at L;rcases hI.env t u L with⟨r,H,O,q3⟩|⟨v2,H,O⟩
   ·left;have f:=hI.sP r H;refine⟨r,s2 r H ?_,λh=> ?_,q3⟩
    ·cases x:Nat.testBit l r.i with
     |false=>rfl
     |true=>exact(O (n r.i (hI.lt _ f.done) x)).elim
    ·rcases(c _).1 h with h|h
     ·exact t2 (h▸f.done)
     ·exact O h
   ·right;refine⟨v2,?_,O.mono hm⟩;rw[iz];cases hdd:z.dst with
    |none=>exact H
    |some d=>
     have:d≠t:=λh=>E (by rw[hdd,h]);simp[gS,this,H]
def unl(ops:Array Oper)(listed:Array Bool):Nat:=((List.range ops.size).filter λi=> !listed.getD i false).length
def Ei(P:Program)(μ0:Mu)(h0:Heap)(w0:World)(a0:Act)(x:bO)(e':Env)(h':Heap):Exit->Act->World->Prop:=λex a' w'=>
 ∃μ',XR μ' x ex/\R P μ' h' w'∧St μ0 h0 w0 μ' h' w'∧dH μ' e' a'.tmps/\a'.tmps.size=a0.tmps.size/\a'.defers=a0.defers
def GU{l:List Nat}(c:l.Nodup){p q:Nat->Bool}{i:Nat}(hi:i∈l)(f:p i=true)(g:q i=false)(a:∀j,j≠i->q j=p j):(l.filter q).length+1=(l.filter p).length:=by
 induction l with
 |nil=>cases hi
 |cons x l ih=>
  simp only[Ys]at c;by_cases hx:x=i
  ·subst hx;have:l.filter q=l.filter p:=HG λj d=>a j λe=>c.1 (e▸d);simp[f,g,this]
  ·have b:i∈l:=by rcases List.mem_cons.1 hi with h|h;exact absurd h.symm hx;exact h
   have:=ih c.2 b;rw[PH,PH,a x hx];by_cases hpx:p x=true
   ·rw[if_pos hpx,if_pos hpx,tb,tb];omega
   ·rw[if_neg hpx,if_neg hpx];exact this
def TN{ops:Array Oper}{a:Array Bool}{i:Nat}(d:a.size=ops.size)(hi:i<ops.size)(b:¬Lst a i):unl ops (a.setIfInBounds i true)+1=unl ops a:=by
 unfold unl;refine GU List.nodup_range (by simpa using hi) ?_ ?_ (λj c=> ?_)
 ·unfold Lst at b;simpa using b
 ·simp[xf,gS,show i<a.size by omega]
 ·simp[xf,gS,Ne.symm c]
def Qn{ops:Array Oper}{a:Array Bool}(h:unl ops a=0):∀i,i<ops.size->Lst a i:=by
 intro i d;have b:=List.length_eq_zero_iff.1 h;rw[List.filter_eq_nil_iff]at b;have c:=b i (by simpa using d);unfold Lst;simpa using c
def Ord(ops:List Oper):List Nat->Prop
 |[]=>True
 |i::d=>(∀p∈j6 ops i,p∈d)/\Ord ops d
def F0{ops:Array Oper}{a:Array Bool}{i:Nat}(hi:i<ops.size)(h:a.size=ops.size)(b:¬Lst a i)(g:∀p∈j6 ops.toList i,Lst a p):i∈Region.ready .any ops a:=by
 rw[mem_ready];obtain⟨o,c⟩:∃o,ops[i]? =some o:=⟨ops[i],by simp[hi]⟩;refine⟨?_,o,c,λe f d=> ?_⟩
 ·unfold Lst at b;simp[xf,show i<a.size by omega]at b⊢;exact b
 ·refine g e.on ?_;simp only[j6,cC,Array.getElem?_toList,c,HB,List.mem_map,List.mem_filter,Array.mem_toList_iff];exact⟨e,⟨f,d⟩,rfl⟩
def Jf{ops:List Oper}{a:Array Bool}:∀{d:List Nat},Ord ops d->(∃j∈d,¬Lst a j)->∃j∈d,¬Lst a j/\∀p∈j6 ops j,Lst a p
 |[],_,⟨j,c,_⟩=>by cases c
 |x::d,ho,hex=>by
  by_cases h:∃j∈d,¬Lst a j
  ·obtain⟨j,h1,h2⟩:=Jf ho.2 h;exact⟨j,bz _ h1,h2⟩
  ·have b:∀j∈d,Lst a j:=λj c=>Classical.byContradiction λe=>h ⟨j,c,e⟩;obtain⟨j,c,e⟩:=hex;rcases List.mem_cons.1 c with rfl|c
   ·exact⟨j,b7 ..,e,λp f=>b p (ho.1 p f)⟩
   ·exact(e (b j c)).elim
def topo_not{as:List bg}{ops:List Oper}:∀{is done:List Nat},topoOk as ops done is=true->∀p∈is,p ∉ done
 |[],_,_,p,hp=>by cases hp
 |i::is,done,h,p,hp=>by
  obtain⟨_,t2,t3,_⟩:=topo_cons h;rcases List.mem_cons.1 hp with rfl|hp
  ·exact t2
  ·exact λa=>topo_not t3 p hp (bz _ a)
variable {ops:Array Oper} {as:List bg} {bf:List Nat} {base:Nat} {μ0 μ:Mu} {h0 h:Heap} {w0 w:World} {a0 a:Act} {listed:Array Bool} {done is:List Nat} {rs:List Rec} {e:Env}
def Inv.HT(hI:Inv P ops as bf base μ0 h0 w0 a0 listed μ a w done is rs e h)(o:Ord ops.toList done)(hr:Region.ready .any ops listed=[]):∀i,i<ops.size->Lst listed i:=by
 have b:∀j∈done,Lst listed j:=λj l=>Classical.byContradiction λn=>by
  obtain⟨k,c,d,f⟩:=Jf o ⟨j,l,n⟩;have:=F0 (hI.lt k c) hI.size d f;rw[hr]at this;cases this
 intro i g;rcases hI.all i g with h|h
 ·exact b i h
 ·exfalso;cases is with
  |nil=>cases h
  |cons x is=>
   obtain⟨r,s,_⟩:=topo_cons hI.topo;have:=F0 (hI.AX x (b7 ..)) hI.size (λm=>s (hI.sub x m)) (λp q=>b p (r p q));rw[hr]at this;cases this
def Inv.fin(hI:Inv P ops as bf base μ0 h0 w0 a0 listed μ a w done is rs e h)(b:∀i,i<ops.size->Lst listed i):Ei P μ0 h0 w0 a0 .normal e h .normal a w:=
 ⟨μ,trivial,hI.rel,hI.st,λt v c=>by
  rcases hI.env t v c with⟨r,h1,h2,_⟩|h
  ·exact(h2 (b _ (hI.lt _ (hI.sP r h1).done))).elim
  ·exact h,hI.tm,hI.df⟩
def Inv.run{nt:Nat}{m:Option Nat}{Q:Exit->Act->World->Prop}(n:Stat as ops.toList bf)(g:cS P nt ops ops.toList=some as)(j:nt<=a0.tmps.size)(o:Ord ops.toList done)
 (c:∀(b:Array Bool) (μ:Mu) (a:Act) (w:World),Inv P ops as bf base μ0 h0 w0 a0 b μ a w done is rs e h->(∀i,i<ops.size->Lst b i)->Q .normal a w)
 (d:∀(b:Array Bool) (μ:Mu) (a:Act) (w:World) (i:Nat),Inv P ops as bf base μ0 h0 w0 a0 b μ a w done is rs e h→i∈Region.ready .any ops b→i ∉ done→∀k,unl ops (b.setIfInBounds i true)=k→
   wpOpIn (Fw m) 0 P ops Q i (wpAnyIn (Fw m) 0 P .any ops Q k (b.setIfInBounds i true)) a w):
 ∀(k:Nat) (b:Array Bool) (μ:Mu) (a:Act) (w:World),unl ops b=k->Inv P ops as bf base μ0 h0 w0 a0 b μ a w done is rs e h->wpAnyIn (Fw m) 0 P .any ops Q k b a w
 |0,b,μ,a,w,hk,hI=>by
  have hall:=Qn hk;refine⟨?_,c _ _ _ _ hI hall⟩;rw[List.eq_nil_iff_forall_not_mem];intro i f;exact(pZ hI.size f).2 (hall i (fO f).1)
 |k+1,b,μ,a,w,hk,hI=>by
  refine⟨λp=>c _ _ _ _ hI (hI.HT o p),λi f=> ?_⟩;have r:=TN hI.size (fO f).1 (pZ hI.size f).2;by_cases hd:i∈done
  ·exact hI.jy n (by rw[hI.tm];exact j) g f hd λμ' q s l=>Inv.run n g j o c d k _ _ _ _ ω l
  ·exact d _ _ _ _ _ hI f hd k ω
def BL{base:Nat}{h:Heap}:∀{rs:List Rec},rG h base rs=true->∀r∈rs,uB h base r=true
 |[],_,r,hr=>by cases hr
 |x::rs,h,r,hr=>by
  simp only[rG,cond_eq_ite]at h;split at h
  ·rename_i hx;rcases List.mem_cons.1 hr with rfl|hr
   ·exact hx
   ·exact BL h r hr
  ·cases h
def Bb{bf:List Nat}{i:Nat}:∀{a:List Nat},Ew bf i a=true->∀{j:Nat},j∈a->∃m,bf[j]? =some m/\Nat.testBit m i=true
 |[],_,_,hj=>by cases hj
 |x::a,h,j,hj=>by
  simp only[Ew]at h;split at h
  ·rename_i m hm;rw[cC]at hm;simp only[cond_eq_ite]at h;split at h
   ·rename_i ht;rcases List.mem_cons.1 hj with rfl|hj
    ·exact⟨m,hm,ht⟩
    ·exact Bb h hj
   ·cases h
  ·cases h
def qd(P:Program)(T:Nat->Option aq)(n:Nat):Prop:=∀base as is bf rs e h x e' h',fG T n base as is bf rs e h=some (x,e',h')→
 ∀(ops:Array Oper) nt μ0 h0 w0 a0 listed μ a w done rd (Q:Exit->Act->World->Prop),cS P nt ops ops.toList=some as->Stat as ops.toList bf->nt<=a0.tmps.size→
  Inv P ops as bf base μ0 h0 w0 a0 listed μ a w done is rs e h->Ord ops.toList done->(∀ex a' w',Ei P μ0 h0 w0 a0 x e' h' ex a' w'→Q ex a' w')→
  wpAnyIn (Fw rd) 0 P .any ops Q (unl ops listed) listed a w
def qd.succ(hT:eZ P T)(hD:qd P T n)(hC:tf P T n):qd P T (n+1):=by
 intro base as is bf rs e h x e' h' d ops nt μ0 h0 w0 a0 listed μ a w done rd Q B A y z ho hQ;cases is with
 |nil=>
  simp only[fG]at d;cases d;refine z.run A B y ho (λ_ _ _ _ c u=>hQ _ _ _ (c.fin u)) (λ_ _ _ _ i c hi hd=> ?_) _ _ _ _ _ rfl;rcases c.all i (fO hi).1 with q|q
  ·exact(hd q).elim
  ·cases q
 |cons i is=>
  simp only[fG]at d;split at d
  ·rename_i o mask ho' hm';rw[cC]at ho' hm';obtain⟨t1,t2,t3,ai,t4,t5⟩:=topo_cons z.topo;rw[ho']at t4;injection t4 with t4
   subst t4;have E:Ord ops.toList (i::done):=⟨t1,ho⟩;have ae:i<ops.size:=z.AX i (b7 ..);obtain⟨oo,Y⟩:∃oo,ops[i]? =some oo:=⟨ops[i],by simp[ae]⟩;obtain⟨ao,q1,c1,c2,c3,c5⟩:=(lT B).2 i oo (by simpa using Y);rw[ho']at q1;injection q1 with q1
   subst q1;have ar:∀r∈rs,yp P ops base h0 listed μ h r:=λr hr=>(z.sP r hr).kind;split at d
   ·rename_i hw;exact hD _ _ _ _ _ _ _ _ _ _ d ops nt μ0 h0 w0 a0 listed μ a w (i::done) rd Q B A y (z.adv A ho' z.rel z.st (bl _) ⟨hw,rfl⟩ ar (λb V=>by cases V)) E hQ
   ·rename_i hw
    have aw:(∀{listed:Array Bool} {μ:Mu} {a:Act} {w:World} {j:Nat},Inv P ops as bf base μ0 h0 w0 a0 listed μ a w done (i::is) rs e h->j∈Region.ready .any ops listed->j ∉ done->j=i)→
     ∀{v:Value} {D:Heap} {U:List Rec},aop (η h) h.next (cZ e (dK o)) o.op=some (.val v D)->bL {D with log:=aJ base h.log D.log} base D.log mask rs=some U→
     fG T n base as is bf U (cN e o.dst v) {D with log:=aJ base h.log D.log}=some (x,e',h')->wpAnyIn (Fw rd) 0 P .any ops Q (unl ops listed) listed a w:=by
     intro W v D U f L bo;refine z.run A B y ho (λ_ _ _ _ c u=>(t2 (c.sub i (u i ae))).elim) (λlisted μ a w j c G C k H=> ?_) _ _ _ _ _ rfl;have X:=W c G C;subst X;have hE:dH μ (cZ e (dK o)) a.tmps:=c.look A G ho' λt v S=>ni S;unfold wpOpIn;simp only[Y];rw[c5 (λs _ _ v S=>hE s v S) hw];simp only[if_true];refine⟨λ_ _=>ic,?_⟩;rw[Oper.semAt_eq _ _ _ (vu c3 (A.Hp _ o ho'))];have hA:=rK f;have J:R P μ ((η h):Heap) w:=c.rel.congr rfl rfl;refine As (Jd J hE c3 f) λμ' v' Z F k2 M=> ?_;have M:St μ h w μ' D Z:=M.rR rfl rfl;subst H;rw[←c2];exact hD _ _ _ _ _ _ _ _ _ _ bo ops nt μ0 h0 w0 a0 _ μ' _ Z (j::done) rd Q B A y (c.bar A G ho' hm' (by rw[c2];exact c1) (by rw[c.tm];exact y) F (k2.congr rfl rfl) (M.jF rfl) hA.next (λb V hl=>hA.same b V V hl) L) E hQ
    simp only[cond_eq_ite]at d;split at d
    ·rename_i heager;split at d
     ·rename_i v D f;split at d
      ·rename_i hnew;split at d
       ·rename_i N;obtain⟨bj,rfl,cJ⟩:=R8 hnew c3 f;obtain⟨r1,r2⟩:=z.rel.abE bj;have cX:μ h.next=none:=by
         cases hm:μ h.next with
         |none=>rfl
         |some k=>exact absurd (z.rel.dom _ _ hm).1 (xc _)
        refine hD _ _ _ _ _ _ _ _ _ _ d ops nt μ0 h0 w0 a0 listed μ a w (i::done) rd Q B A y (z.adv A ho' r1 (z.st.trans r2 z.nx0) (Hm _) ⟨hw,A.Hp i o ho',bj,oo,Y,by rw[Heap.dU,if_pos rfl],cJ,z.nx0,λ_=>cX⟩ (λr hr=> ?_) (λb V r hr O=> ?_)) E hQ
        ·have H:=ar r hr;unfold yp at H⊢;cases O:r.k with
         |skip=>rw[O]at H;exact H
         |quiet=>
          rw[O]at H;obtain⟨F,k2,M,_⟩:=H;exact⟨F,k2,M,Jp (BL N r hr) O M⟩
         |made b=>
          rw[O]at H;obtain⟨F,k2,ob,o2,M,k4,k5⟩:=H;have:=z.rel.lt b _ k4;exact⟨F,k2,ob,o2,M,by rw[Heap.dU,if_neg ω];exact k4,k5⟩
        ·cases V;have H:=ar r hr;unfold yp at H;rw[O]at H;obtain⟨_,_,ob,_,_,k4,_⟩:=H;exact xc _ (z.rel.lt _ _ k4)
       ·cases d
      ·rename_i hnew;split at d
       ·rename_i hnx;have be:dB o.op=true:=by
         unfold lJ at heager;simp only[wp]at heager;rcases heager with q|q
         ·exact q
         ·exact(hnew q).elim
        have hh:D=h:=by
         rcases Bc be f with q|⟨ob,rfl⟩
         ·exact q
         ·rw[beq_eq]at hnx;simp only[decide_eq_true_eq]at hnx;exact absurd hnx (by show¬h.next+1=h.next;omega)
        subst hh;exact hD _ _ _ _ _ _ _ _ _ _ d ops nt μ0 h0 w0 a0 listed μ a w (i::done) rd Q B A y (z.adv A ho' z.rel z.st (bl _) ⟨hw,A.Hp i o ho',be,f⟩ ar (λb V=>by cases V)) E hQ
       ·split at d
        ·rename_i u;split at d
         ·rename_i v D f;split at d
          ·rename_i U L;exact aw (λ{listed μ a w j} c G C=>by
            rcases c.all j (fO G).1 with q|q
            ·exact(C q).elim
            ·rcases List.mem_cons.1 q with q|q
             ·exact q
             ·obtain⟨m,cd,cj⟩:=Bb u q;exact(t2 (c.sub i (c.before A G cd ae cj))).elim) f L d
          ·cases d
         ·cases d
        ·cases d
     ·cases d
    ·rename_i hne;have W:∀{listed:Array Bool} {μ:Mu} {a:Act} {w:World} {j:Nat},Inv P ops as bf base μ0 h0 w0 a0 listed μ a w done (i::is) rs e h->j∈Region.ready .any ops listed->j ∉ done->j=i:=λ{listed μ a w j} c G C=>by
      rcases c.all j (fO G).1 with q|q
      ·exact(C q).elim
      ·rcases List.mem_cons.1 q with q|q
       ·exact q
       ·rcases t5 with t5|t5
        ·exact(hne t5).elim
        ·obtain⟨p,cY,d9⟩:=t5 j q;exact(topo_not c.topo p d9 (c.sub p ((fO G).2.2 p cY))).elim
     have aE:∀(listed:Array Bool) (μ:Mu) (a:Act) (w:World),Inv P ops as bf base μ0 h0 w0 a0 listed μ a w done (i::is) rs e h->(∀i,i<ops.size->Lst listed i)->Q .normal a w:=λ_ _ _ _ c u=>(t2 (c.sub i (u i ae))).elim;split at d
     ·rename_i v D f;split at d
      ·rename_i U L;exact aw W f L d
      ·cases d
     ·rename_i fn args h3 f;split at d
      ·rename_i v D hcall;split at d
       ·rename_i U L;refine z.run A B y ho aE (λlisted μ a w j c G C k H=> ?_) _ _ _ _ _ rfl;have X:=W c G C;subst X;have hE:dH μ (cZ e (dK o)) a.tmps:=c.look A G ho' λt v S=>ni S;unfold wpOpIn;simp only[Y];rw[c5 (λs _ _ v S=>hE s v S) hw];simp only[if_true];refine⟨λ_ _=>ic,?_⟩;have J:R P μ ((η h):Heap) w:=c.rel.congr rfl rfl;obtain⟨_,nd,I,ha,K⟩:=Dc J hE c3 f;rw[Oper.semAt_eq _ _ _ nd];have ba:rC P (iF P μ ((η h):Heap) w (.ret v) D) ((execOp a.eval oo).run P w):=by
         obtain⟨g1,g2⟩:=hC _ _ _ _ _ hcall rfl μ w I J ha;rcases K with⟨g,e1,e2⟩|⟨l,k,e1,e2,e3⟩
         ·rw[e2];exact g1 g e1
         ·rw[e3];exact g2 l k e1 e2
        have hA:=(fN.all hT.aK n).kF _ _ _ _ _ hcall rfl;refine jY ba (λv' Z N=> ?_) (λch Z N=> ?_) (λZ N=> ?_)
        ·obtain⟨μ',F,k2,M⟩:=N;have M:St μ h w μ' D Z:=M.rR rfl rfl;subst H;rw[←c2];exact hD _ _ _ _ _ _ _ _ _ _ d ops nt μ0 h0 w0 a0 _ μ' _ Z (j::done) rd Q B A y (c.bar A G ho' hm' (by rw[c2];exact c1) (by rw[c.tm];exact y) F (k2.congr rfl rfl) (M.jF rfl) hA.next (λb V hl=>hA.same b V V hl) L) E hQ
        ·obtain⟨μ',F,_⟩:=N;exact F.elim
        ·obtain⟨μ',F,_⟩:=N;exact F.elim
       ·cases d
      ·rename_i v D hcall;cases d;refine z.run A B y ho aE (λlisted μ a w j c G C k H=> ?_) _ _ _ _ _ rfl;have X:=W c G C;subst X;have hE:dH μ (cZ e (dK o)) a.tmps:=c.look A G ho' λt v S=>ni S;unfold wpOpIn;simp only[Y];rw[c5 (λs _ _ v S=>hE s v S) hw];simp only[if_true];refine⟨λ_ _=>ic,?_⟩;have J:R P μ ((η h):Heap) w:=c.rel.congr rfl rfl;obtain⟨_,nd,I,ha,K⟩:=Dc J hE c3 f;rw[Oper.semAt_eq _ _ _ nd];have ba:rC P (iF P μ ((η h):Heap) w (.panic v) D) ((execOp a.eval oo).run P w):=by
        obtain⟨g1,g2⟩:=hC _ _ _ _ _ hcall rfl μ w I J ha;rcases K with⟨g,e1,e2⟩|⟨l,k,e1,e2,e3⟩
        ·rw[e2];exact g1 g e1
        ·rw[e3];exact g2 l k e1 e2
       refine jY ba (λv' Z N=> ?_) (λch Z N=> ?_) (λZ N=> ?_)
       ·obtain⟨μ',F,_⟩:=N;exact F.elim
       ·obtain⟨μ',F,k2,M⟩:=N;exact hQ _ _ _ ⟨μ',F,k2.congr rfl rfl,(c.st.trans (M.rR rfl rfl) c.nx0).jF rfl,(λt v S=>by cases S),c.tm,c.df⟩
       ·obtain⟨μ',F,_⟩:=N;exact F.elim
      ·cases d
     ·cases d
   ·cases d
  ·cases d
def qd.ok(J:eZ P T)(F:qd P T n):Lw P T n:=by
 intro base as u bf e h x C D E K ops Y μ w a rd X B id d l o k G g _ L;obtain⟨d1,y,z,A,I⟩:=EM (lT d).1 l;refine wpIn_region_any J.mixed ?_;obtain⟨Z,r2⟩:=k.world (w':={w with drawn:=w.drawn+1}) rfl;have c:∀i,¬Lst (Array.replicate ops.size false) i:=λi=>by
  unfold Lst;simp[xf,Array.getElem?_replicate];split<;>simp
 have H:Inv P ops as bf base μ h w a (Array.replicate ops.size false) μ a {w with drawn:=w.drawn+1} [] u [] e h:=
  ⟨by simp,λi f=>(c i f).elim,λi f=>(by cases f),λi m p f=>(c i f).elim,A,λj b=>(by cases b),λj m p b=>(by cases b),λj b=>(by cases b),λj b=> .inr (z j (by simpa using b)),λj b=>by simpa using y j b,
   λr q=>(by cases q),λr q=>(by cases q),Z,r2,bl _,K,k.big,λt v O=> .inr (G t v O),rfl,rfl⟩
 have N:unl ops (Array.replicate ops.size false)=ops.size:=by
  unfold unl;rw[List.filter_eq_self.2]
  ·simp
  ·intro j _;have:=c j;unfold Lst at this;simpa using this
 have:=F _ _ _ _ _ _ _ _ _ _ E ops Y μ h w a _ μ a _ [] rd (Post P μ h w X a.tmps.size x C B D) d I o H trivial (λex a' w' M=> ?_)
 ·rw[N]at this;exact this
 ·obtain⟨μ',Q,S,s,U,V,W⟩:=M;exact⟨μ',Q,S,s,U,by rw[W];exact g.step s (s.mono k),V⟩
def R.Nb{d:Heap}(e:∀b,d.get b=h1.get b)(h:d.next=h1.next)(c:R P μ h1 w):R P μ d w:=
 ⟨by rw[h];exact c.big,λg o h1 d=>c.mU g o h1 (by rw[←e];exact d),λb o a=>c.obj b o (by rw[←e];exact a),λb o a=>by rw[h];exact c.lt b o (by rw[←e];exact a),
  λb k a=>by rw[h];exact c.dom b k a,λb j o m k l i a f=>c.mu b j o m k l i (by rw[←e];exact a) (by rw[←e];exact f)⟩
def Wr.Nb{a:Heap}(c:∀b,a.get b=h1.get b){r:Nat}(d:Wr μ a r):Wr μ h1 r:=by
 obtain⟨b,o,k,e,f⟩:=d;exact⟨b,o,k,by rw[←c];exact e,f⟩
def R.forget{μ0:Mu}{a:Heap}{w0 g:World}(c:R P μ0 a w0)(i:R P μ1 h1 g)(p:St μ0 a w0 μ1 h1 g)(h:AS a.next a h1)(j:h1.log=[]):
 R P μ0 a g/\St μ0 a w0 μ0 a g:=by
 obtain⟨μ2,l,_,e,_⟩:=M8 c i p h (v:= .bool true) (v':= .bool true) (.bool true);have f:gcA a h1 (.bool true)={h1 with cU:=pK (h1.next-a.next) h1.cU,next:=a.next}:=by
  unfold gcA;rw[j];rfl
 have q:(gcA a h1 (.bool true)).next=a.next:=by rw[f]
 have d:∀b,a.get b=(gcA a h1 (.bool true)).get b:=λb=>by
  rw[f];rw[show({h1 with cU:=pK (h1.next-a.next) h1.cU,next:=a.next}:Heap).get b=if b<a.next then h1.get b else none from M5 c h b];split
  ·rename_i hb;exact(h.same b hb hb (by rw[j];rfl)).symm
  ·rename_i hb;cases hq:a.get b with
   |none=>rfl
   |some o=>exact(hb (c.lt b o hq)).elim
 have u:μ2=μ0:=funext λb=>by
  by_cases hb:b<a.next
  ·exact e.ext b hb
  ·have m:μ2 b=none:=by
    cases hq:μ2 b with
    |none=>rfl
    |some k=>have:=(l.dom b k hq).1;omega
   have n:μ0 b=none:=by
    cases hq:μ0 b with
    |none=>rfl
    |some k=>exact(hb (c.dom b k hq).1).elim
   rw[m,n]
 subst u;exact⟨l.Nb d q.symm,⟨e.ext,e.le,e.keep,λr s t=>e.wr r s (t.Nb d),e.loops,e.same⟩⟩
def oD(a:h.get m=some (.map es))(b:Nat):(roM h m es).get b=if b=m then some (.xO es)else h.get b:=by
 have:(roM h m es).get b=if b=m then(h.get m).map (λ_=> .xO es)else h.get b:=wh _ _ _ _
 rw[this];split
 ·rw[a];rfl
 ·rfl
def Wr.VP(d:h.get m=some (.map es)){r:Nat}(e:Wr μ (roM h m es) r):Wr μ h r:=by
 obtain⟨b,o,k,a,f,c,g⟩:=e;rw[oD d]at a;split at a
 ·cases a;cases c
 ·exact⟨b,o,k,a,f,c,g⟩
def R.toRo(i:R P μ h w)(j:h.get m=some (.map es)):R P μ (roM h m es) w:=by
 refine⟨i.big,λg o z n=> ?_,λb o d=> ?_,λb o d=> ?_,i.dom,λb p o C k u l d f A B v x s=> ?_⟩
 ·rw[oD j]at n;split at n
  ·rename_i e;subst e;cases n;obtain⟨k,a,b,c,_⟩:=i.mU g _ z j;refine⟨k,a,b,c,λ_ _ E t F D=> ?_⟩;obtain⟨y,r,z1,_⟩:=i.obj g _ j k a;rw[D]at z1;cases z1
  ·exact i.mU g o z n
 ·rw[oD j]at d;split at d
  ·rename_i e;subst e;cases d;have q:=i.obj b _ j;exact q
  ·exact i.obj b o d
 ·rw[oD j]at d;split at d
  ·rename_i e;subst e;cases d;exact i.lt b _ j
  ·exact i.lt b o d
 ·rw[oD j]at d f;split at d
  ·rename_i e1;subst e1;cases d;rw[if_neg (Ne.symm l)]at f;have:=i.mu b p _ C k u l j f rfl B v x s;cases this.1
  ·split at f
   ·rename_i e2;subst e2;cases f;have:=i.mu b p o _ k u l d j A rfl v x s;cases this.2
   ·exact i.mu b p o C k u l d f A B v x s
def R.VP{w0:World}(f:R P μ h w0)(l:h.get m=some (.map es))(d:R P μ (roM h m es) w):R P μ h w:=by
 have s:∀b o,h.get b=some o->b≠m->(roM h m es).get b=some o:=λb o i p=>by rw[oD l,if_neg p];exact i
 have j:(roM h m es).get m=some (.xO es):=by rw[oD l,if_pos rfl]
 refine⟨d.big,λg o r n=> ?_,λb o i=> ?_,f.lt,d.dom,f.mu⟩
 ·by_cases e:g=m
  ·subst e;rw[l]at n;cases n;obtain⟨k,a,b,c,_⟩:=d.mU g _ r j;exact⟨k,a,b,c,λq=>by cases q⟩
  ·exact d.mU g o r (s g o n e)
 ·by_cases e:b=m
  ·subst e;rw[l]at i;cases i;have q:=d.obj b _ j;exact q
  ·exact d.obj b o (s b o i e)
def R.dead(f:R P μ h w){r:Nat}(hr:r<w.heap.size):R P (upd μ h.next ⟨r,0,0,0⟩) (h.push .dead) w/\St μ h w (upd μ h.next ⟨r,0,0,0⟩) (h.push .dead) w:=by
 have s:∀d,μ h.next=some d→False:=λd G=>xc _ (f.dom _ _ G).1
 have z:∀b d,μ b=some d→upd μ h.next ⟨r,0,0,0⟩ b=some d:=λb d a=>by
  unfold upd;rw[if_neg];exact a;intro e;subst e;exact s _ a
 have j:=f.big;refine⟨⟨HP j,λg q H A=> ?_,λb y a=> ?_,λb y a=> ?_,λb d a=> ?_,λb D M N u K p a c B C v x hr=> ?_⟩,⟨λb a=> ?_,bl _,λr hr _=>rfl,λr hr t=> ?_,λr L J=>⟨L,J, .refl L⟩, .refl w⟩⟩
 ·rw[Heap.dU,if_neg ω]at A;obtain⟨u,i,l,m,F⟩:=f.mU g q H A;exact⟨u,z _ _ i,l,m,F⟩
 ·rw[Heap.dU]at a;split at a
  ·cases a;trivial
  ·rename_i e;exact OR.mono z (by unfold upd;rw[if_neg e]) (λd I=>rfl) (f.obj b y a)
 ·rw[Heap.dU]at a;split at a
  ·rename_i e;subst e;exact eA _
  ·exact EQ (f.lt b y a)
 ·unfold upd at a;split at a
  ·rename_i e;subst e;cases a;exact⟨eA _,hr⟩
  ·have:=f.dom b d a;exact⟨EQ this.1,this.2⟩
 ·rw[Heap.dU]at a c;unfold upd at v x;split at a
  ·cases a;cases B
  ·rename_i e1;split at c
   ·cases c;cases C
   ·rename_i e2;rw[if_neg e1]at v;rw[if_neg e2]at x;exact f.mu b D M N u K p a c B C v x hr
 ·unfold upd;rw[if_neg ω]
 ·obtain⟨b,o,k,i,l,m,n,E⟩:=t;rw[Heap.dU]at i;split at i
  ·cases i;cases l
  ·rename_i e;unfold upd at n;rw[if_neg e]at n;exact⟨b,o,k,i,l,m,n,E⟩
def R.DN(d:R P μ h w){r:Nat}(hr:∀b k,μ b=some k->k.r≠r)(m:w'.heap.size=w.heap.size)(f:∀r',r'≠r->w'.heap[r']? =w.heap[r']?):R P μ h w':=
 ⟨d.big,λg o i j=>let⟨k,a,b,c,x⟩:=d.mU g o i j;⟨k,a,b,c,x.get (f _ (hr _ _ a))⟩,λb o e=>OR.mono (λ_ _ h=>h) rfl (λk l=>f _ (hr _ _ l)) (d.obj b o e),d.lt,λb k e=>⟨(d.dom b k e).1,by have:=(d.dom b k e).2;omega⟩,d.mu⟩
def oq{b:AOp}(a:iy P op=some b):
 (∀x,b= .oU x->∃t kt et,op= .range t x/\P.underlying t=some (.map kt et)/\aP P x=true)/\(∀x s,b= .next x s->op= .next x s)/\(∀x i,b= .extract x i->op= .extract x i)/\(∀x,b= .entry x->op= .entry x):=by
 unfold iy at a;split at a
 ·rename_i hall;cases op<;>(try dsimp only at a)
  case range t x=>
   split at a
   ·cases a
   ·rename_i kt et hd;cases a;exact⟨λ_ h=>(by cases h;exact⟨_,_,_,rfl,hd,by simpa[Op.operands]using hall⟩),λ_ _ h=>(by cases h),λ_ _ h=>(by cases h),λ_ h=>(by cases h)⟩
   ·cases a
  case next x s=>
   cases s with
   |true=>cases a
   |false=>cases a;exact⟨λ_ h=>(by cases h),λ_ _ h=>(by cases h;rfl),λ_ _ h=>(by cases h),λ_ h=>(by cases h)⟩
  case extract x s=>cases a;exact⟨λ_ h=>(by cases h),λ_ _ h=>(by cases h),λ_ _ h=>(by cases h;rfl),λ_ h=>(by cases h)⟩
  case entry x=>cases a;exact⟨λ_ h=>(by cases h),λ_ _ h=>(by cases h),λ_ _ h=>(by cases h),λ_ h=>(by cases h;rfl)⟩
  all_goals
   repeat' split at a
   all_goals first
    |contradiction
    |(cases a;done)
    |(cases a;exact⟨λ_ h=>(by cases h),λ_ _ h=>(by cases h),λ_ _ h=>(by cases h),λ_ h=>(by cases h)⟩)
    |(obtain⟨_,_,rfl⟩:=fq a;exact⟨λ_ h=>(by cases h),λ_ _ h=>(by cases h),λ_ _ h=>(by cases h),λ_ h=>(by cases h)⟩)
 ·cases a
def rQ{nt:Nat}{ops:Array Oper}:∀{l:List Oper} {as c:List bg} {g:bg},cS P nt ops l=some as->AK as=some (c,g)→
 ∃h o,l=h++[o]/\cS P nt ops h=some c/\cS P nt ops [o]=some [g]
 |[],as,c,g,h1,h2=>by simp only[cS]at h1;cases h1;cases h2
 |o::os,as,c,g,h1,h2=>by
  cases as with
  |nil=>cases h2
  |cons a as=>
   obtain⟨c1,c2,c3,c4,_⟩:=iV h1;have f:∀e d,cS P nt ops e=some d→cS P nt ops (o::e)=some (a::d):=λe d m=>by
    simp only[cS]at h1⊢;rw[if_pos c1]at h1⊢;rw[c3,m];rw[c3,c4]at h1;dsimp only at h1⊢;cases hg:o.guard with
    |none=>rw[hg]at h1;dsimp only at h1⊢;simp only[Option.some.injEq,List.cons.injEq,and_true]at h1⊢;exact h1
    |some gb=>
     rw[hg]at h1;dsimp only at h1⊢;cases hj:(ops[gb.1]?).bind (·.dst)with
     |none=>rw[hj]at h1;dsimp only at h1;cases h1
     |some t=>rw[hj]at h1;dsimp only at h1⊢;simp only[Option.some.injEq,List.cons.injEq,and_true]at h1⊢;exact h1
   cases as with
   |nil=>
    cases h2;have:os=[]:=by
     cases os with
     |nil=>rfl
     |cons o2 os2=>
      simp only[cS]at c4;repeat' split at c4
      all_goals cases c4
    subst this;exact⟨[],o,rfl,rfl,h1⟩
   |cons b bs=>
    simp only[AK]at h2;split at h2
    ·rename_i l' y hu;cases h2;obtain⟨h,n,i,j,k⟩:=rQ c4 hu;exact⟨o::h,n,by rw[i];rfl,f _ _ j,k⟩
    ·cases h2
def DX{g:Exit->Act->World->Prop}(d:∀a w,K a w->j a w)(f:∀e a w,e≠ .normal->Q e a w->g e a w){r:Result Next}(b:o.uponIn F n P a K Q r):
 o.uponIn F n P a j g r:=by
 have k:LetsOut Q->LetsOut g:=λ⟨a,w,h⟩=>⟨a,w,f _ _ _ (by simp) h⟩;cases r with
 |ok x w'=>
  cases x<;>simp only[Oper.uponIn]at b⊢ <;>
   first
    |exact d _ _ b
    |exact⟨b.1,CallsIn.mono b.2 (λe i c=>by cases e<;>first|exact d _ _ c|exact f _ _ _ (by simp) c|exact k c)⟩
    |exact⟨b.1,RowsIn.mono b.2 (λ_ _ c=>d _ _ c)⟩
    |exact⟨b.1,RoundIn.mono b.2 (λe i c=>by cases e<;>first|exact d _ _ c|exact f _ _ _ (by simp) c|exact k c)⟩
 |halt x w'=>cases x<;>simp only[Oper.uponIn]at b⊢ <;>first|exact b|exact f _ _ _ (by simp) b
def kX{F:Fence}{n:Nat}{ops:Array Oper}{Q:Exit->Act->World->Prop}:∀(l b:List Nat) (a:Act) (w:World),
 wpOpsIn F n P ops (Exit.then (wpOpsIn F n P ops Q b) Q) l a w->wpOpsIn F n P ops Q (l++b) a w
 |[],_,_,_,h=>h
 |i::l,b,a,w,h=>by
  simp only[wpOpsIn,SW]at h⊢;split at h
  ·exact kX l b _ _ h
  ·rename_i o ho;split at h
   ·rename_i hw;rw[if_pos hw];exact⟨h.1,DX (λa w=>kX l b a w) (λe a w hne hq=>by cases e<;>first|exact(hne rfl).elim|exact hq) h.2⟩
   ·rename_i hw;rw[if_neg hw];exact⟨h.1,kX l b _ _ h.2⟩
variable{d:Nat}
def tc{f:Option Nat}{ops:Array Oper}{i:Nat}{l:List Nat}{g:AOp}{as:List bg}(b:ops[i]? =some o)(m:cS P nt ops (o::os)=some (⟨some d,g,none⟩::as))
 (n:∀c,o.op≠ .defer c)(hr:(execOp a.eval o).run P w= .ok (.value v) w')(h:wpOpsIn (Fw f) 0 P ops Q l (a.put (some d) v) w'):wpOpsIn (Fw f) 0 P ops Q (i::l) a w:=by
 obtain⟨r,j,s,t,k⟩:=iV m;have q:Region.wanted o (yielded ops a.tmps)=true:=k (e:=[]) (μ:=λ_=>none) (λ_ _ p=>by cases p) rfl;simp only[wpOpsIn,b,q,if_true];refine⟨λ_ _=>ic,?_⟩;rw[Oper.semAt_eq _ _ _ n,hr,Oper.uponIn_value];have:o.dst=some d:=j.symm;rw[this];exact h
def sO(b:d<a.tmps.size):(a.put (some d) v).eval (.tmp d)=v:=by
 show((a.put (some d) v).tmps).getD d undef=v;rw[iz];simp[Array.getD,b]
def HZ{e j:Nat}{k:List Nat}{c:Code}{H:Option Nat}(G:ir P nt c (.region [⟨some e, .next (.tmp t) false,none⟩,⟨some j, .extract (.tmp e) 0,none⟩] k))(q:nt<=a.tmps.size)
 {r:Nat}(p:a.eval (.tmp t)= .pointer (some ⟨r,0,none⟩)){b:Bool}{l:List Value}(i:∀ty,(Instr.next (.pointer (some ⟨r,0,none⟩)) false ty).run P w= .ok (.tuple (.bool b::l).toArray) w')
 (h:j<nt->e<nt->Q .normal ((a.put (some e) (.tuple (.bool b::l).toArray)).put (some j) (.bool b)) w'):c.wpIn (Fw H) 0 P Q a w:=by
 obtain⟨id,ops,rfl,d⟩:=G.inv;refine wpIn_region ?_;cases hl:ops.toList with
 |nil=>rw[hl]at d;simp[cS]at d
 |cons o1 l1=>
  rw[hl]at d;obtain⟨u,A,B,m,_⟩:=iV d;cases l1 with
  |nil=>simp[cS]at m
  |cons o2 l2=>
   obtain⟨x,C,D,n,_⟩:=iV m;have:l2=[]:=by
    cases l2 with
    |nil=>rfl
    |cons o3 l3=>
     simp only[cS]at n;repeat' split at n
     all_goals cases n
   subst this;have s:ops.size=2:=by
    have:=congrArg List.length hl;simpa using this
   have E:ops[0]? =some o1:=by
    have:ops.toList[0]? =some o1:=by rw[hl];rfl
    simpa using this
   have F:ops[1]? =some o2:=by
    have:ops.toList[1]? =some o2:=by rw[hl];rfl
    simpa using this
   have y:o1.op= .next (.tmp t) false:=(oq B).2.1 _ _ rfl
   have z:o2.op= .extract (.tmp e) 0:=(oq D).2.2.1 _ _ rfl;have f:e<nt:=by
    have:o1.dst=some e:=A.symm;rw[this]at u;simpa[mQ,G7]using u
   have o:j<nt:=by
    have:o2.dst=some j:=C.symm;rw[this]at x;simpa[mQ,G7]using x
   rw[s,show List.range 2=[0,1]from rfl];refine tc E d (λc g=>by rw[y]at g;cases g) (v:= .tuple (.bool b::l).toArray) (w':=w') ?_ ?_
   ·simp only[execOp,y,p];simp[gR,i]
   ·refine tc F m (λc g=>by rw[z]at g;cases g) (v:= .bool b) (w':=w') ?_ (h o f);simp only[execOp,z];rw[sO (m6 f q)];simp[Instr.extract]
open Go.ChangeMaps (setBlock)
def CC:∀{e:Env} {t:Nat} {v:Value},geT e t=some v->(t,v)∈e
 |(k,u)::e,t,v,hq=>by
  simp only[geT,cond_eq_ite,beq_eq,decide_eq_true_eq]at hq;split at hq
  ·rename_i hk;subst hk;cases hq;exact b7
  ·exact bz _ (CC hq)
def DV{a:Env}:∀{e:Env},La a e=true->∀t v,(t,v)∈e->geT a t=some v
 |(k,u)::e,hs,t,v,hq=>by
  simp only[La]at hs;split at hs
  ·rename_i v' hv';simp only[cond_eq_ite,Bool.if_false_right,gk,decide_eq_true_eq]at hs;rcases List.mem_cons.1 hq with hh|hh
   ·cases hh;rw[hv',vE hs.1]
   ·exact DV hs.2 t v hh
  ·cases hs
def Df{b:Env}:∀{a:Env},De b a=true->∀t v,(t,v)∈a->flat v=true∨geT b t=some v
 |(k,u)::a,hs,t,v,hq=>by
  simp only[De,cond_eq_ite]at hs;split at hs
  ·rename_i hf;rcases List.mem_cons.1 hq with hh|hh
   ·cases hh;exact .inl hf
   ·exact Df hs t v hh
  ·split at hs
   ·rename_i v' hv';split at hs
    ·rename_i hsm;rcases List.mem_cons.1 hq with hh|hh
     ·cases hh;exact .inr (by rw[hv',vE hsm])
     ·exact Df hs t v hh
    ·cases hs
   ·cases hs
def Az:∀{a b:Env},Ay a b=true->a=b
 |[],[],_=>rfl
 |[],_::_,hs=>by simp[Ay]at hs
 |_::_,[],hs=>by simp[Ay]at hs
 |(t,v)::e,(t',v')::e',hs=>by
  simp only[Ay,cond_eq_ite,beq_eq,decide_eq_true_eq]at hs;split at hs
  ·rename_i ht;subst ht;split at hs
   ·rename_i hv;rw[vE hv,Az hs]
   ·cases hs
  ·cases hs
def rJ(nxt:Nat)(e e2:Env)(x:bO):Prop:=(x= .normal∨x= .exit nxt)/\La e2 e=true
def UM(nxt:Nat)(eo e2:Env)(x:bO)(r:Option (bO×Env)):Prop:=(x= .ret∨∃i,x= .exit i/\i≠nxt)/\De eo e2=true/\r=some (x,e2)
def Rnd(fo fe:Env->Heap->Option (bO×Env×Dfs×Heap))(pr:Nat)(k2:List Nat)(e:Env)(h:Heap)(C:bO->Env->Prop)(p:Value×Value):Prop:=
 ∃e1 h1 x e2 h2,fo ((pr, .tuple #[p.1,p.2])::e) h=some (.normal,e1,[],h1)/\fe (cZ e1 k2) h1=some (x,e2,[],h2)/\h2.log=[]/\C x e2
def Rnd.mono{b fe:Env->Heap->Option (bO×Env×Dfs×Heap)}{c:List Nat}{C a:bO->Env->Prop}{p:Value×Value}(f:∀x e,C x e->a x e)(hr:Rnd b fe d c e h C p):Rnd b fe d c e h a p:=
 let⟨e1,h1,x,e2,h2,q1,q2,q3,q4⟩:=hr;⟨e1,h1,x,e2,h2,q1,q2,q3,f _ _ q4⟩
def Be{j fe:Env->Heap->Option (bO×Env×Dfs×Heap)}{b o:Nat}{m:List Nat}{e y:Env}{h:Heap}:∀{es:List (Value×Value)} {r:Option (bO×Env)},uf j fe b o m e y h es=some r→
 (∀p∈es,Rnd j fe o m e h (λx c=>rJ b e c x∨UM b y c x r) p)/\((∀p∈es,Rnd j fe o m e h (λx c=>rJ b e c x) p)->r=none)
 |[],r,a=>by cases a;exact⟨λp u=>by simp at u,λ_=>rfl⟩
 |(k,v)::es,r,a=>by
  simp only[uf]at a;split at a
  ·rename_i e1 h1 hq1;split at a
   ·rename_i x c h2 hq2;split at a
    ·rename_i hl;split at a
     ·rename_i r0 hr0;obtain⟨i1,i2⟩:=Be hr0;have F:∀C:bO->Env->Prop,C x c->Rnd j fe o m e h C (k,v):=λC d=>⟨e1,h1,x,c,h2,hq1,hq2,hl,d⟩;have z:∀C:bO->Env->Prop,Rnd j fe o m e h C (k,v)->C x c:=λC d=>by
       obtain⟨G,J,M,H,K,A,w,_,I⟩:=d;rw[hq1]at A;cases A;rw[hq2]at w;cases w;exact I
      have s:rJ b e c x->r0=r->(∀p∈(k,v)::es,Rnd j fe o m e h (λx c=>rJ b e c x∨UM b y c x r) p)/\((∀p∈(k,v)::es,Rnd j fe o m e h (λx c=>rJ b e c x) p)->r=none):=λL D=>by
       subst D;refine⟨λp u=> ?_,λf=>i2 λp u=>f p (bz _ u)⟩;rcases List.mem_cons.1 u with hh|hh
       ·subst hh;exact F _ (.inl L)
       ·exact i1 p hh
      have n:(x= .ret∨∃i,x= .exit i/\i≠b)->De y c=true->r=some (x,c)->(r0=none∨r0=r)->(∀p∈(k,v)::es,Rnd j fe o m e h (λx c=>rJ b e c x∨UM b y c x r) p)/\((∀p∈(k,v)::es,Rnd j fe o m e h (λx c=>rJ b e c x) p)->r=none):=λE t B g=>by
       refine⟨λp u=> ?_,λf=> ?_⟩
       ·rcases List.mem_cons.1 u with hh|hh
        ·subst hh;exact F _ (.inr ⟨E,t,B⟩)
        ·refine(i1 p hh).mono λM N d=> ?_;rcases d with d|d
         ·exact .inl d
         ·rcases g with g|g
          ·rw[g]at d;cases d.2.2
          ·rw[g]at d;exact .inr d
       ·have:=z _ (f (k,v) b7);rcases E with rfl|⟨i,rfl,hi⟩
        ·rcases this.1 with q|q<;>cases q
        ·rcases this.1 with q|q
         ·cases q
         ·cases q;exact(hi rfl).elim
      unfold Uz at a;split at a
      ·simp only[cond_eq_ite,ec]at a;exact s ⟨.inl rfl,a.1⟩ (by injection a.2)
      ·cases a
      ·rename_i i;simp only[cond_eq_ite,beq_eq,decide_eq_true_eq]at a;split at a
       ·rename_i hi;subst hi;simp only[ec]at a;exact s ⟨.inr rfl,a.1⟩ (by injection a.2)
       ·rename_i hi;split at a
        ·rename_i t;split at a
         ·cases a;exact n (.inr ⟨i,rfl,hi⟩) t rfl (.inl rfl)
         ·simp only[ec,gk,decide_eq_true_eq]at a;obtain⟨⟨A,w⟩,l⟩:=a;have:=Az w;subst this;subst A;injection l with l
          exact n (.inr ⟨i,rfl,hi⟩) t l.symm (.inr l)
         ·cases a
        ·cases a
      ·simp only[cond_eq_ite,ec]at a;obtain⟨t,a⟩:=a;split at a
       ·cases a;exact n (.inl rfl) t rfl (.inl rfl)
       ·simp only[ec]at a;obtain⟨w,l⟩:=a;have:=Az w;subst this;injection l with l
        exact n (.inl rfl) t l.symm (.inr l)
       ·cases a
     ·cases a
    ·cases a
   ·cases a
  ·cases a
def MR.at{ms:List MapEntry}(c:MR μ es ms):∀(i:Nat) (a:MapEntry),ms[i]? =some a->∃k v,es[i]? =some (k,v)/\VR μ k a.key/\VR μ v a.val:=by
 induction c with
 |nil=>intro i a b;simp at b
 |cons h1 h2 _ ih=>
  intro i a b;cases i with
  |zero=>simp at b;subst b;exact⟨_,_,rfl,h1,h2⟩
  |succ i=>exact ih i a (by simpa using b)
def AS.low{b':Nat}{d:Heap}(a:AS b' h1 d)(hb:b<=b'):AS b h1 d:=
 ⟨a.next,a.keys,λx c=>a.mono x (m6 c hb),λx c=>a.same x (m6 c hb)⟩
def wm{e:Env}:∀{l:List Nat} {t:Nat} {v:Value},geT (cZ e l) t=some v->t∈l
 |y::l,t,v,hq=>by
  simp only[cZ]at hq;split at hq
  ·simp only[geT,cond_eq_ite,beq_eq,decide_eq_true_eq]at hq;split at hq
   ·rename_i hy;subst hy;exact b7
   ·exact bz _ (wm hq)
  ·exact bz _ (wm hq)
def dH.Ac(c:dH μ e a.tmps)(f:geT e d=none):dH μ e (a.put (some d) v).tmps:=by
 intro t u b;obtain⟨j,h,i⟩:=c t u b;refine⟨j,?_,i⟩;rw[iz];have:d≠t:=λg=>by subst g;rw[f]at b;cases b
 simp[this,h]
def DR.Kg{a:Dfs}{ms:List Deferred}(b:DR μ h w lo a ms)(c:∀(r:Nat) (x:Option (List Deferred)),w.heap[r]? =some (Obj.deferred x)->w'.heap[r]? =some (Obj.deferred x)):DR μ h w' lo a ms:=by
 induction b with
 |nil=>exact .nil
 |cons h1 h2 h3 _ ih=>exact .cons h1 h2 h3 ih
 |mark h1 h0 h2 h3 _ ih=>exact .mark h1 h0 (c _ _ h2) h3 ih
def DR.back{ms:List Deferred}(j:R P μ h w)(f:DR μ' h' w lo [] ms):DR μ h w lo [] ms:=by
 generalize hds:([]:Dfs)=ds at f;induction f with
 |nil=>exact .nil
 |cons h1 h2 h3 _ ih=>cases hds
 |mark h1 h0 h2 h3 _ ih=>
  refine .mark h1 h0 h2 (λ⟨b,o,k,g,i,n,d,e⟩=> ?_) (ih hds);have a:=j.obj b o g;cases o with
  |dead=>cases i
  |cells vs own sz=>obtain⟨_,c,l,m,z1,_⟩:=a k d;rw[e,h2]at z1;cases z1
  |map es=>obtain⟨_,_,z1,_⟩:=a k d;rw[e,h2]at z1;cases z1
  |xO es=>obtain⟨_,_,z1,_⟩:=a k d;rw[e,h2]at z1;cases z1
  |loop _ _ _ _ _ _=>obtain⟨_,z1,_⟩:=a k d;rw[e,h2]at z1;cases z1
  |oH _ _=>have z1:=(a k d).2;rw[e,h2]at z1;cases z1
def St.abD(a:h.get m=some (.map es))(s:St μ (roM h m es) w μ (roM h m es) w'):St μ h w μ h w':=
 ⟨λ_ _=>rfl,s.le,λr c b=>s.keep r c λq=>b (q.VP a),λ_ _ q=>q,s.loops,s.same⟩
def St.DN{μ0:Mu}{w0:World}(s:St μ0 c w0 μ h w){r:Nat}(hr:w0.heap.size<=r)(m:w'.heap.size=w.heap.size)(e:∀a,a≠r->w'.heap[a]? =w.heap[a]?)(b:Same w w'):St μ0 c w0 μ h w':=
 ⟨s.ext,by have:=s.le;omega,λa g i=>(e a ω).trans (s.keep a g i),s.wr,λa L d=>by
  have j:a<w0.heap.size:=(Array.getElem?_eq_some_iff.1 d).1;obtain⟨f,k,l⟩:=s.loops a L d;exact⟨f,(e a ω).trans k,l⟩,s.same.trans b⟩
structure Xn (P:Program) (μ0:Mu) (h0:Heap) (wI:World) (μI:Mu) (hI:Heap) (lo sz it r bm clock:Nat) (eo:Env) (ents:Array MapEntry) (es:List (Value×Value)) (C:Value×Value->Prop) (seen:Array Nat) (c0:Nat) (a:Act) (w:World):Prop where
 size:a.tmps.size=sz
 it:a.tmps[it]? =some (.pointer (some ⟨r,0,none⟩))
 env:dH μ0 eo a.tmps
 dr:DR μ0 h0 w lo [] a.defers
 rel:R P μ0 h0 w
 st:St μI hI wI μ0 h0 w
 iter:w.heap[r]? =some (.mapIter (some bm) clock seen c0)
 map:w.heap[bm]? =some (.map ents clock)
 c0:clock<=c0
 done:∀(i:Nat) (en:MapEntry) (p:Value×Value),ents.toList[i]? =some en->es[i]? =some p->seen.contains en.born=true->C p
def getElem?_lt_size{α:Type}{a:Array α}{i:Nat}{x:α}(h:a[i]? =some x):i<a.size:=(Array.getElem?_eq_some_iff.1 h).1
def PC(w:eZ P T){n:Nat}{μ0:Mu}{a:Heap}{c f:World}{μ2:Mu}{e:Heap}{r:Nat}(h:a.get m=some (.map es))(i:R P μ0 a c)(p:r<c.heap.size)
 (j:AS (a.next+1) ((roM a m es).push .dead) h1)(l:AS (a.next+1) h1 e)(u:e.log=[])(o:R P μ2 e f)(t:St (upd μ0 a.next ⟨r,0,0,0⟩) ((roM a m es).push .dead) c μ2 e f):
 R P μ0 a f/\St μ0 a c μ0 a f/\(∀x,x<c.heap.size->¬Wr μ0 (roM a m es) x->f.heap[x]? =c.heap[x]?)/\(∀b k,μ0 b=some k->μ2 b=some k):=by
 have d:=(i.toRo h).dead p;have g:St μ0 (roM a m es) c μ2 e f:=d.2.trans t (Hm _);have s:AS (roM a m es).next (roM a m es) e:=(AS.push _ _ _).trans ((j.trans l).low (Hm _))
 obtain⟨v,q⟩:=R.forget (i.toRo h) o g s u;refine⟨R.VP i h v,q.abD h,q.keep,g.mono (i.toRo h)⟩
def R9(hT:eZ P T)(hO:wR P T n)(hE:oM P T n){μ0 μI:Mu}{y hI:Heap}{wI:World}{B r J f nx mo out H pr:Nat}{km:Blk}{s:Array MapEntry}
 {U:List bg}{k k2:List Nat}{be:Option (bO×Env)}{c:Code}
 (fb:uf (λe h=>iC T n (y.next+1) rnd U e [] h) (λe h=>di T n (y.next+1) rnd body e [] h) H pr k2 (itE B y E) E ((roM y m es).push .dead) es=some be)
 (hm:y.get m=some (.map es))(f8:μ0 m=some km)(eq:km.r=J)(eg:MR μ0 es s.toList)(hB:vQ s.toList f)(L:∀b k,μ0 b=some k->k.r≠r)(ju:wI.heap.size<=r)(hn:hI.next<=y.next)
 (hc:ir P nt c (.seq (.region [⟨some nx, .next (.tmp B) false,none⟩,⟨some mo, .extract (.tmp nx) 0,none⟩] k) (.seq (.cond (.tmp mo) .skip (.exit out)) (.block H (.seq (.region (⟨some pr, .entry (.tmp B),none⟩::U) k2) body)))))
 (ba:nt<=sz)(lL:nx≠mo)(i7:B≠nx)(i6:B≠mo)(M:geT E nx=none/\geT E mo=none)(jz:RdR μ0 rnd rd)(lw:lo<=wI.heap.size)
 (fw:be=none->∀a w,Post P μI hI wI lo sz .normal E [] y .normal a w->Q (.exit out) a w)
 (fY:∀i F,be=some (.exit i,F)->∀a w,Post P μI hI wI lo sz (.exit i) F [] y (.exit i) a w->Q (.exit i) a w)
 (fX:∀F,be=some (.ret,F)->∀a w,Post P μI hI wI lo sz .ret F [] y .ret a w->Q .ret a w):
 ∀(d:Nat) (u:Array Nat) (c0:Nat) (a:Act) (w:World),(leftOf s u).size<d→
  Xn P μ0 y wI μI hI lo sz B r J f E s es (Rnd (λe h=>iC T n (y.next+1) rnd U e [] h) (λe h=>di T n (y.next+1) rnd body e [] h) pr k2 (itE B y E) ((roM y m es).push .dead) (λx F=>rJ H (itE B y E) F x)) u c0 a w→
  c.roundsIn (Fw rd) 0 P Q d a w:=by
 obtain⟨dp,du⟩:=Be fb;obtain⟨cs,cz,rfl,eJ,i4⟩:=hc.inv;obtain⟨cc,cb,rfl,hY,hJ⟩:=i4.inv;obtain⟨cx,cy,rfl,_,D,i0⟩:=hY.inv;have eK:cx= .skip∨∃l,cx= .label l:=D.inv;have:cy= .exit out:=i0.inv;subst this;obtain⟨cq,rfl,hZ⟩:=hJ.inv;obtain⟨ca,V,rfl,gt,aE⟩:=hZ.inv;intro d;induction d with
 |zero=>intro u c0 a w hd;omega
 |succ d ih=>
  intro u c0 a w hd z;have bo:a.eval (.tmp B)= .pointer (some ⟨r,0,none⟩):=by
   show a.tmps.getD B undef=_;rw[xf,z.it];rfl
  refine wpIn_seq ?_;have eI:J≠r:=λhh=>L m km f8 (eq.trans hh);have cX:∀x∈s.toList,x.born<f:=λx hx=>hB.2 _ (List.mem_map_of_mem hx);have cJ:∀v,dH μ0 E (a.put (some nx) v).tmps:=λv=>z.env.Ac M.1;rcases run_next_at (P:=P) w 0 r J f c0 u s f z.iter z.map cX z.c0 with⟨h0',_⟩|_
  ·
   have O:∀ty,(Instr.next (.pointer (some ⟨r,0,none⟩)) false ty).run P w= .ok (.tuple (.bool false::[]).toArray) w:=λty=>by
    rcases run_next_at (P:=P) w ty r J f c0 u s f z.iter z.map cX z.c0 with⟨_,q⟩|⟨A,Y,_⟩
    ·exact q
    ·have:(leftOf s u).toList=[]:=by
      rw[←List.length_eq_zero_iff];simpa using h0'
     rw[this]at Y;simp at Y
   refine HZ eJ (by rw[z.size];exact ba) bo O λie ik=> ?_;have fd:nx<(a.put (some nx) (.tuple (.bool false::[]).toArray)).tmps.size/\mo<(a.put (some nx) (.tuple (.bool false::[]).toArray)).tmps.size:=by
    rw[ef,z.size];omega
   refine wpIn_seq (wpIn_cond_false (sO fd.2) (wpIn_exit ?_));refine fw (du λp Z=> ?_) _ _ ⟨μ0,trivial,z.rel,z.st,(cJ _).Ac M.2,?_,?_⟩
   ·obtain⟨i,i9,io⟩:=List.mem_iff_getElem.1 Z;have hl:es.length=s.toList.length:=eg.length;have f9:i<s.toList.length:=ω
    refine z.done i s.toList[i] p (bx f9) (by rw[bx i9,io]) ?_;exact all_seen s u h0' _ (CS _)
   ·rw[put_defers,put_defers];exact z.dr
   ·rw[ef,ef];exact z.size
  ·
   rename_i hround;obtain⟨A,Y,w1,dC,ae⟩:=hround;have cj:=mem_left Y;have O:∀ty,(Instr.next (.pointer (some ⟨r,0,none⟩)) false ty).run P w= .ok (.tuple (.bool true::[A.key,A.val]).toArray) (setBlock w1 r (.mapIter (some J) f (u.push A.born) f)):=λty=>ae;have kd:r<w.heap.size:=getElem?_lt_size z.iter;have S:w1.heap=w.heap:=by rcases dC with rfl|rfl<;>rfl
   have G:Same w w1:=by rcases dC with rfl|rfl<;>exact⟨rfl,rfl,rfl,by first|exact bl _|exact xp _ _⟩
   generalize hw2:setBlock w1 r (.mapIter (some J) f (u.push A.born) f)=w2 at O;have g1:w2.heap.size=w.heap.size:=by rw[←hw2];simp[setBlock,S]
   have g2:∀r',r'≠r->w2.heap[r']? =w.heap[r']? :=λr' ii=>by
    rw[←hw2];simp[setBlock,S,gS,Ne.symm ii]
   have g3:w2.heap[r]? =some (.mapIter (some J) f (u.push A.born) f):=by
    rw[←hw2];simp[setBlock,S,gS,kd]
   have g4:Same w w2:=by rw[←hw2];exact⟨G.os,G.tape,G.out,G.drawn⟩
   clear hw2 ae G S dC;have R2:R P μ0 y w2:=z.rel.DN L g1 g2;have S2:St μI hI wI μ0 y w2:=z.st.DN ju g1 g2 g4;have D2:DR μ0 y w2 lo [] a.defers:=z.dr.Kg λr' x hx=>(g2 r' (λhh=>by rw[hh,z.iter]at hx;cases hx)).trans hx;have N:w2.heap[J]? =some (.map s f):=(g2 _ eI).trans z.map;obtain⟨j,hj,i8⟩:=List.mem_iff_getElem.1 cj.1;have f7:s.toList[j]? =some A:=by rw[bx hj,i8]
   obtain⟨kk,vv,Z,lc,ld⟩:=eg.at j A f7;have ip:(kk,vv)∈es:=ci Z;obtain⟨e1,h1,x,F,h2,q1,q2,q3,q4⟩:=dp _ ip;refine HZ eJ (by rw[z.size];exact ba) bo O λie ik=> ?_;generalize ha2:(a.put (some nx) (.tuple (.bool true::[A.key,A.val]).toArray)).put (some mo) (.bool true)=a2;have z1:a2.tmps.size=sz:=by rw[←ha2,ef,ef];exact z.size
   have z2:dH μ0 E a2.tmps:=by rw[←ha2];exact(cJ _).Ac M.2
   have z3:a2.defers=a.defers:=by rw[←ha2,put_defers,put_defers]
   have z4:a2.eval (.tmp mo)= .bool true:=by rw[←ha2];exact sO (by rw[ef,z.size];omega)
   have z5:a2.tmps[B]? =some (.pointer (some ⟨r,0,none⟩)):=by
    rw[←ha2,iz,iz];simp[Ne.symm i7,Ne.symm i6,z.it]
   clear ha2;have bj:∀{Q:Exit->Act->World->Prop} {a:Act} {w:World},Q .normal a w->cx.wpIn (Fw rd) 0 P Q a w:=λhq=>by
    rcases eK with rfl|⟨l,rfl⟩
    ·exact wpIn_skip hq
    ·exact wpIn_label hq
   refine wpIn_seq (wpIn_cond_true z4 (bj ?_));refine wpIn_block (wpIn_seq ?_);obtain⟨ll,C,rfl,X⟩:=gt.inv;refine wpIn_region ?_;cases hl:C.toList with
   |nil=>rw[hl]at X;simp[cS]at X
   |cons o1 l1=>
    have K:=X;rw[hl]at K;obtain⟨c1,c2,c3,c4,_⟩:=iV K;have ke:C.size=l1.length+1:=by
     have:=congrArg List.length hl;simpa using this
    have f0:C[0]? =some o1:=by
     have:C.toList[0]? =some o1:=by rw[hl];rfl
     simpa using this
    have dT:o1.op= .entry (.tmp B):=(oq c3).2.2.2 _ rfl;have jp:pr<nt:=by
     have:o1.dst=some pr:=c2.symm;rw[this]at c1;simpa[mQ,G7]using c1
    have eQ:a2.eval (.tmp B)= .pointer (some ⟨r,0,none⟩):=by
     show a2.tmps.getD B undef=_;rw[xf,z5];rfl
    rw[ke,List.range_eq_range',List.range'_succ];refine tc f0 K (λc hh=>by rw[dT]at hh;cases hh) (v:= .tuple #[A.key,A.val]) (w':=w2) ?_ ?_
    ·simp only[execOp,dT,eQ];have:=run_entry_at (P:=P) w2 r J f u s f A g3 N cj.1 hB.1;simp[gR,this]
    ·have dd:=(R2.toRo hm).dead (r:=r) ω;have ar:∀b k,μ0 b=some k->upd μ0 y.next ⟨r,0,0,0⟩ b=some k:=dd.2.mono (R2.toRo hm)
     have E0:dH (upd μ0 y.next ⟨r,0,0,0⟩) (itE B y E) a2.tmps:=by
      intro t v hv;simp only[itE,geT,cond_eq_ite,beq_eq,decide_eq_true_eq]at hv;split at hv
      ·rename_i ht;subst ht;cases hv;exact⟨_,z5,VR.ptr (o:=0) (k:=⟨r,0,0,0⟩) (fM _ _ _)⟩
      ·exact(z2.mono ar) t v hv
     have E1:dH (upd μ0 y.next ⟨r,0,0,0⟩) ((pr, .tuple #[kk,vv])::itE B y E) (a2.put (some pr) (.tuple #[A.key,A.val])).tmps:=
      dH.put (dst:=some pr) E0 (by simpa[mQ,G7]using jp) (by rw[z1];exact ba) (VR.pg (.cons (lc.mono ar) (.cons (ld.mono ar) .nil)))
     have eh:RdR (upd μ0 y.next ⟨r,0,0,0⟩) rnd rd:=jz.mono ar;have D3:DR (upd μ0 y.next ⟨r,0,0,0⟩) ((roM y m es).push .dead) w2 lo [] (a2.put (some pr) (.tuple #[A.key,A.val])).defers:=by
      rw[put_defers,z3];exact(DR.back (R2.toRo hm) D2).step dd.2 ar
     have cd:lo<=w2.heap.size:=by have:=z.st.le;omega
     have aw:=(fN.all hT.aK n).ops _ _ _ _ _ _ _ _ _ _ q1 (bl _);have fj:=(fN.all hT.aK n).exec _ _ _ _ _ _ _ _ _ _ q2 aw.next
     have ho:=hO _ _ _ _ _ _ _ _ _ _ q1 (bl _) C 1 l1.length nt _ w2 (a2.put (some pr) (.tuple #[A.key,A.val])) rd lo ω (by rw[hl];simpa using c4) (by rw[ef,z1];exact ba) dd.1 E1 D3 eh cd;refine ia (λex a3 w3 Z=> ?_) _ _ _ ho;cases ex with
     |exit i=>obtain⟨_,g,_⟩:=Z;exact g.elim
     |goto l=>obtain⟨_,g,_⟩:=Z;exact g.elim
     |ret=>obtain⟨_,g,_⟩:=Z;exact g.elim
     |panic ch=>obtain⟨_,g,_⟩:=Z;exact g.elim
     |outgrown=>obtain⟨_,g,_⟩:=Z;exact g.elim
     |normal=>
      obtain⟨μ1,_,p2,p3,p4,p5,p6⟩:=Z;have ib:=p3.mono dd.1;have lr:a3.tmps.size=sz:=by rw[p6,ef];exact z1
      have he:=hE _ _ _ _ _ _ _ _ _ _ q2 aw.next V nt μ1 w3 a3 rd lo aE ω p2 (p4.keep k2) p5 (eh.mono ib) (gy cd p3.le)
      refine eW (λex a5 w5 il=> ?_) he;obtain⟨μ2,x1,x2,x3,x4,x5,x6⟩:=il.trans p3 aw.next
      obtain⟨y1,y2,y3,y4⟩:=PC hT (n:=n) hm R2 ω aw fj q3 x2 x3;have lh:¬Wr μ0 (roM y m es) r:=λ⟨b,o,k',W,f2,f3,f4,f5⟩=>L b k' f4 f5;have lf:¬Wr μ0 (roM y m es) J:=λ⟨b,o,k',W,f2,f3,f4,f5⟩=>by
       rw[oD hm]at W;split at W
       ·cases W;cases f3
       ·rename_i hbm';have:=z.rel.mu b m o _ k' km hbm' W hm f2 rfl f4 f8 (f5.trans eq.symm);cases this.2
      have gg:J<w2.heap.size:=getElem?_lt_size N;have u7:w5.heap[r]? =some (.mapIter (some J) f (u.push A.born) f):=(y3 r ω lh).trans g3;have u8:w5.heap[J]? =some (.map s f):=(y3 J gg lf).trans N;have u5:a5.tmps.size=sz:=x6.trans lr;have S5:St μI hI wI μ0 y w5:=S2.trans y2 hn;have D5:DR μ0 y w5 lo [] a5.defers:=DR.back y1 x5;have dE:De E F=true->dH μ0 F a5.tmps:=λho t v hv=>by
       obtain⟨v',W,f2⟩:=x4 t v hv;refine⟨v',W,?_⟩;rcases Df ho t v (CC hv)with hf|hf
       ·rw[(VR.flat hf).2 _ f2];exact(VR.flat hf).1
       ·obtain⟨v0,_,f3⟩:=z.env t v hf;exact f3.inj y4 f2▸f3
      have e9:rJ H (itE B y E) F x->Xn P μ0 y wI μI hI lo sz B r J f E s es (Rnd (λe h=>iC T n (y.next+1) rnd U e [] h) (λe h=>di T n (y.next+1) rnd body e [] h) pr k2 (itE B y E) ((roM y m es).push .dead) (λx F=>rJ H (itE B y E) F x)) (u.push A.born) f a5 w5:=λD=>by
       have cY:=D.2;refine⟨u5,?_,λt v hv=> ?_,D5,y1,S5,u7,u8,bl _,λi d9 p' da dj dv=> ?_⟩
       ·obtain⟨v',W,f2⟩:=x4 B _ (DV cY B _ b7);cases f2 with
        |ptr hk=>
         rename_i k';rw[x3.ext y.next (eA _)]at hk;replace hk:upd μ0 y.next ⟨r,0,0,0⟩ y.next=some k':=hk
         rw[fM]at hk;cases hk;exact W
       ·obtain⟨v',W,f2⟩:=x4 t v (DV cY t v (bz _ (CC hv)));obtain⟨v0,_,f3⟩:=z.env t v hv;exact⟨v',W,f3.inj y4 f2▸f3⟩
       ·rw[contains_push]at dv;by_cases hse:u.contains d9.born=true
        ·exact z.done i d9 p' da dj hse
        ·have ge:d9.born=A.born:=by
          simp only[Bool.not_eq_true]at hse;rw[hse]at dv;simpa using dv
         have i5:i=j:=by
          refine(List.getElem?_inj (l:=s.toList.map (·.born)) ?_ hB.1).1 ?_
          ·rw[j3];exact(List.getElem?_eq_some_iff.1 da).1
          ·rw[wt,wt,da,f7];simp[ge]
         subst i5;rw[Z]at dj;cases dj;exact⟨e1,h1,x,F,h2,q1,q2,q3,D⟩
      have next:rJ H (itE B y E) F x->Code.roundsIn (Fw rd) 0 P (Code.seq cs (Code.seq (Code.cond (.tmp mo) cx (.exit out)) (Code.block H (Code.seq (Code.region ll C false) V)))) Q d a5 w5:=λD=>
       ih _ _ _ _ (by have:=left_shrinks s u A Y;omega) (e9 D)
      rcases q4 with D|⟨hx,ho,hr⟩
      ·have fg:=next D
       rcases D.1 with rfl|rfl
       ·cases ex with
        |normal=>exact fg
        |_=>exact x1.elim
       ·cases ex with
        |exit i=>
         have:H=i:=x1;subst this;simp only[Exit.then,Exit.inBlock,if_true];exact fg
        |_=>exact x1.elim
      ·have E5:=dE ho;rcases hx with rfl|⟨i,rfl,hine⟩
       ·cases ex with
        |ret=>exact fX F hr _ _ ⟨μ0,trivial,y1,S5,E5,D5,u5⟩
        |_=>exact x1.elim
       ·cases ex with
        |exit i'=>
         have:i=i':=x1;subst this;simp only[Exit.then,Exit.inBlock,if_neg hine];exact fY i F hr _ _ ⟨μ0,rfl,y1,S5,E5,D5,u5⟩
        |_=>exact x1.elim
def iR{l:List Nat}(h:t ∉ l):geT (cZ e l) t=none:=by
 cases hq:geT (cZ e l) t with
 |none=>rfl
 |some v=>exact(h (wm hq)).elim
def HR(hT:eZ P T)(hO:wR P T n)(hE:oM P T n):∀base C ops F ox keep H G pr A k2 z e ds h x N u E,di T (n+1) base C (.rangeMap ops F ox keep H G pr A k2 z) e ds h=some (x,N,u,E)->base<=h.next→
 ∀c nt μ w (a:Act) rd M,ir P nt c (.rangeMap ops F ox keep H G pr A k2 z)->nt<=a.tmps.size->R P μ h w->dH μ e a.tmps->DR μ h w M ds a.defers->RdR μ C rd->M<=w.heap.size->c.wpIn (Fw rd) 0 P (Post P μ h w M a.tmps.size x N u E) a w:=by
 intro base C ops F ox keep H G pr A k2 z e ds h x N u E f hb c nt μ w a rd M hc ba hR cj hD be aE;simp only[di]at f;obtain⟨cy,cz,dT,nx,mo,k,zC,rfl,d9,hu,da,dv,dp,dj,y⟩:=hc.inv;obtain⟨id,j,rfl,cY⟩:=d9.inv;refine wpIn_seq (wpIn_region ?_);obtain⟨l0,o,hl,hc0,O⟩:=rQ cY hu;have dC:j.size=l0.length+1:=by
  have:=congrArg List.length hl;simpa using this
 have K:j[l0.length]? =some o:=by
  have:j.toList[l0.length]? =some o:=by rw[hl];simp
  simpa using this
 rw[dC,P2,List.range_eq_range'];refine kX _ _ _ _ ?_;have run:∀x N u E,iC T n base C ops e ds h=some (x,N,u,E)->wpOpsIn (Fw rd) 0 P j (Post P μ h w M a.tmps.size x N u E) (List.range' 0 l0.length) a w:=λx N u E hq=>
  hO _ _ _ _ _ _ _ _ _ _ hq hb j 0 l0.length nt μ w a rd M ω (by rw[hl];simpa using hc0) ba hR cj hD be aE
 split at f
 ·rename_i e0 ds0 h0 hq;have hA:=(fN.all hT.aK n).ops _ _ _ _ _ _ _ _ _ _ hq hb;refine ia (λex V D s=> ?_) _ _ _ (run _ _ _ _ hq);cases ex with
  |exit i=>obtain⟨_,g,_⟩:=s;exact g.elim
  |goto l=>obtain⟨_,g,_⟩:=s;exact g.elim
  |ret=>obtain⟨_,g,_⟩:=s;exact g.elim
  |panic ch=>obtain⟨_,g,_⟩:=s;exact g.elim
  |outgrown=>obtain⟨_,g,_⟩:=s;exact g.elim
  |normal=>
   obtain⟨μ1,_,S,p3,p4,p5,p6⟩:=s;have du:=p3.mono hR;have Z:=O;obtain⟨c1,c2,c3,_,_⟩:=iV Z;obtain⟨ty,kt,et,eo,bj,bo⟩:=(oq c3).1 _ rfl;have dE:F<nt:=by
    have:o.dst=some F:=c2.symm;rw[this]at c1;simpa[mQ,G7]using c1
   have L:F<V.tmps.size:=ω
   obtain⟨cq,rfl,cX⟩:=da.inv;obtain⟨cl,rfl,Y⟩:=cX.inv;have B:F ∉ keep/\nx ∉ keep/\mo ∉ keep:=⟨λq=>(y _ q).1 rfl,λq=>(y _ q).2.1 rfl,λq=>(y _ q).2.2 rfl⟩;split at f
   ·cases f
   ·split at f
    ·
     rename_i hx;cases f;have g:=dF S p4 bo hx;generalize hev:V.eval ox=xv at g;cases g;refine tc K O (λc hh=>by rw[eo]at hh;cases hh) (v:= .pointer (some ⟨D.heap.size,0,none⟩)) (w':=D.alloc (.mapIter none 0 #[] 0)) ?_ ?_
     ·simp only[execOp,eo,hev];simp[gR,run_range_nilMap D ty kt et bj]
     ·obtain⟨j1,j2⟩:=S.Kg (w':=D.alloc (.mapIter none 0 #[] 0)) rfl;have ar:(V.put (some F) (.pointer (some ⟨D.heap.size,0,none⟩))).eval (.tmp F)= .pointer (some ⟨D.heap.size,0,none⟩):=sO L;refine wpIn_block (wpIn_loop_rounds 1 ?_);rw[roundsIn_succ];obtain⟨e9,eg,rfl,W,X⟩:=Y.inv;obtain⟨cc,cb,rfl,cJ,eh⟩:=X.inv;obtain⟨cx,cd,rfl,_,eq,ae⟩:=cJ.inv;have:cd= .exit H:=ae.inv;subst this;refine wpIn_seq ?_;refine HZ W (by rw[ef];omega) ar (b:=false) (l:=[]) (λt=>run_next_nilMap D t 0 0 #[]) λeI eJ=> ?_;refine wpIn_seq (wpIn_cond_false (sO (by rw[ef,ef];omega)) (wpIn_exit ?_));simp only[Exit.then,Exit.inBlock,if_true];refine⟨μ1,trivial,j1,p3.trans j2 hA.next,(((p4.keep keep).Ac (iR B.1)).Ac (iR B.2.1)).Ac (iR B.2.2),?_,?_⟩
      ·rw[put_defers,put_defers,put_defers];exact p5.step j2 (λ_ _ h=>h)
      ·rw[ef,ef,ef];exact p6
    ·
     rename_i m hx;split at f
     ·rename_i es hmg;obtain⟨rfl,rfl⟩:=IM f;have g:=dF S p4 bo hx;generalize hev:V.eval ox=xv at g;cases g with
      |map hkm=>
       rename_i km;obtain⟨J,d,z1,z2,z3⟩:=S.obj m _ hmg km hkm;refine tc K O (λc hh=>by rw[eo]at hh;cases hh) (v:= .pointer (some ⟨D.heap.size,0,none⟩)) (w':=D.alloc (.mapIter (some km.r) d #[] d)) ?_ ?_
       ·simp only[execOp,eo,hev];simp[gR,run_range_map D ty kt et km.r J d bj z1]
       ·obtain⟨j1,j2⟩:=S.Kg (w':=D.alloc (.mapIter (some km.r) d #[] d)) rfl;have Q:∀b k,μ1 b=some k->k.r≠D.heap.size:=λb k hb=>by have:=(S.dom b k hb).2;omega
        have aw:=(S.dom m km hkm).2;generalize hres:uf (λe h=>iC T n (E.next+1) C A e [] h) (λe h=>di T n (E.next+1) C z e [] h) G pr k2 (itE F E (cZ e0 keep)) (cZ e0 keep) ((roM E m es).push .dead) es=R1 at f;cases R1 with
        |none=>cases f
        |some res=>
         refine wpIn_block (wpIn_loop_rounds ((leftOf J #[]).size+1) ?_);refine R9 hT hO hE (wI:=w) (μI:=μ) (hI:=h) (lo:=M) (sz:=a.tmps.size) hres hmg hkm rfl z2 z3 Q p3.le hA.next Y ba dv dp dj ⟨iR B.2.1,iR B.2.2⟩ (be.mono du) aE ?_ ?_ ?_ _ #[] d _ _ (eA _) ?_
         ·intro hr a' U s;subst hr;cases f;simp only[Exit.then,Exit.inBlock,if_true];exact s
         ·intro i e2 hr a' U s;subst hr;simp only[MO,cond_eq_ite,beq_eq,decide_eq_true_eq]at f;split at f
          ·rename_i hio;cases f;simp only[Exit.then,Exit.inBlock,if_pos hio];obtain⟨μ',q1,q2⟩:=s;exact⟨μ',trivial,q2⟩
          ·rename_i hio;cases f;simp only[Exit.then,Exit.inBlock,if_neg hio];exact s
         ·intro e2 hr a' U s;subst hr;cases f;simp only[Exit.then,Exit.inBlock];exact s
         ·refine⟨by rw[ef];exact p6,?_,(p4.keep keep).Ac (iR B.1),?_,j1,p3.trans j2 hA.next,?_,?_,bl _,λi en p _ _ hs=> ?_⟩
          ·rw[iz];simp[L]
          ·rw[put_defers];exact p5.step j2 (λ_ _ h=>h)
          ·exact heap_alloc_new _ _
          ·exact(heap_alloc_old _ _ aw).trans z1
          ·simp at hs
     ·cases f
    ·cases f
 ·rename_i hne;refine ia (λex V D s=> ?_) _ _ _ (run _ _ _ _ f);cases ex with
  |normal=>have:=s.normal;subst this;exact(hne _ _ _ f).elim
  |_=>exact s
structure uJ (P:Program) (T:Nat->Option aq) (n:Nat):Prop where
 exec:oM P T n
 loop:vS P T n
 ops:wR P T n
 draw:qd P T n
 kF:tf P T n
 call:vR P T n
 unw:A8 P T n
 defer:uK P T n
 je:tg P T n
 oT:vT P T n
def uJ.zero:uJ P T 0 where
 exec:=λ_ _ _ _ _ _ _ _ _ _ h=>by simp[di]at h
 loop:=λ_ _ _ _ _ _ _ _ _ _ h=>by simp[di]at h
 ops:=λ_ _ _ _ _ _ _ _ _ _ h=>by simp[iC]at h
 draw:=λ_ _ _ _ _ _ _ _ _ _ h=>by simp[fG]at h
 kF:=λ_ _ _ _ _ h=>by simp[iw]at h
 call:=λ_ _ _ _ _ h=>by simp[jM]at h
 unw:=λ_ _ _ _ _ _ _ _ h=>by simp[rL]at h
 defer:=λ_ _ _ _ _ _ h=>by simp[mK]at h
 je:=λ_ _ _ _ _ _ _ _ _ h=>by simp[jE]at h
 oT:=λ_ _ _ _ _ _ _ _ _ h=>by simp[lu]at h
def uJ.succ(b:eZ P T){n:Nat}(a:uJ P T n):uJ P T (n+1):=
 have c:=vS.succ b a.exec a.loop
 {exec:=oM.Zw b a.exec a.ops (a.draw.ok b) c (HR b a.ops a.exec) (Tf b a.call)
  loop:=c
  ops:=wR.succ b a.ops a.kF
  draw:=qd.succ b a.draw a.kF
  kF:=tf.succ b a.exec a.call
  call:=vR.succ b a.exec a.unw
  unw:=A8.succ b a.unw a.defer
  defer:=uK.succ b a.je
  je:=tg.succ b a.je a.oT
  oT:=vT.succ b a.oT}
def uJ.all(a:eZ P T):∀n,uJ P T n
 |0=> .zero
 |n+1=> .succ a (uJ.all a n)
def GC(c:eZ P T){f:Nat}{args:List Value}{a:Res}(h1:jM T n f args h=some (a,h'))(e:h.log=[]){args':List Value}(b:R P μ h w)(d:LR μ args args'):
 rC P (iF P μ h w a h') ((callFunc f args'.toArray).run P w):=(uJ.all c n).call _ _ _ _ _ h1 e _ _ _ b d
def og(b:eZ P T){f:Nat}{args:List Value}{a:Res}(h1:jM T n f args h=some (a,h'))(g:h.log=[])(e:iu (T f)=false){args':List Value}(c:R P μ h w)(d:LR μ args args'):
 Calls P f args'.toArray w (iF P μ h w a h'):=by
 have:=GC b h1 g c d;rw[kT b e]at this;exact callsIn_wide.1 this
end Go.A
end
