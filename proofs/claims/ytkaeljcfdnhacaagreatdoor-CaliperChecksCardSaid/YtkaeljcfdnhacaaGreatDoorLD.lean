/- How a run is reckoned. -/
import Derived.Test.YtkaeljcfdnhacaaGreatDoorLC
import Derived.Test.YtkaeljcfdnhacaaGreatDoorLA
import Derived.Lib.Bytealg
import Derived.Below
import Derived.Test.YtkaeljcfdnhacaaGreatDoorLE
set_option linter.all false
set_option maxRecDepth 100000
section
namespace Go.A
variable {P:Program}
def Tr.all(Q:Nat->an->Prop):Tr->Prop
 | .nil=>True
 | .node l k v r=>l.all Q/\Q k v/\r.all Q
theorem Tr.all_nil{Q:Nat->an->Prop}:Tr.all Q .nil:=trivial
variable{k:Nat}
theorem Tr.aa{Q:Nat->an->Prop}{l r:Tr}{v:an}(h1:l.all Q)(a:Q k v)(b:r.all Q):Tr.all Q (.node l k v r):=⟨h1,a,b⟩
theorem Tr.wT{Q:Nat->an->Prop}:∀{t:Tr} {n:Nat} {v:an},t.all Q->t.get n=some v->Q n v
 | .nil,_,_,_,h=>by cases h
 | .node l k v r,n,u,ha,h=>by
   simp only[Tr.get,cond_eq_ite,beq_eq,decide_eq_true_eq]at h;split at h
   ·rename_i e;subst e;cases h;exact ha.2.1
   ·split at h
    ·exact Tr.wT ha.1 h
    ·exact Tr.wT ha.2.2 h
def By(P:Program)(f:Nat)(p:List Value->Heap->Option (Value×Heap)):Prop:=∀args h v h',p args h=some (v,h')->h.log=[]->AS h.next h h'∧∀μ w args',R P μ h w->LR μ args args'→pS P (iy P μ h w (.ret v) h') ((callFunc f args'.toArray).run P w)
inductive Entry (P:Program) (k:Nat):an->Prop
 |code {c rs fn ks}:P.funcs[k]? =some fn->aJ P fn ks=some (.code c rs)->Entry P k (.code c rs)
 |mb {p}:By P k p->Entry P k (.mb p)
theorem Entry.of{fn:Func}{a:an}{ks:List (List Nat)}(h1:P.funcs[k]? =some fn)(c:aJ P fn ks=some a):Entry P k a:=by
 have b:=c;unfold aJ at b;split at b
 ·split at b
  ·cases b
  ·split at b
   ·cases b;exact .code h1 c
   ·cases b
 ·cases b
theorem sq{t:Tr}(i:P.follows .mixedOrders=true)(h:t.all (Entry P)):eV P t.get where
 mixed:=i
 code:=λf c rs b=>by
  have:=Tr.wT h b;cases this with
  |code h1 h2=>exact⟨_,_,h1,h2⟩
 mb:=λf p a e v d b j g=>by
  have:=Tr.wT h b;cases this with
  |mb h1=>exact h1 a e v d j g
variable{μ:Mu}{h:Heap}{w:World}
theorem R.grow{w':World}(d:R P μ h w)(l:w.heap.size<=w'.heap.size)(f:∀r,r<w.heap.size->w'.heap[r]? =w.heap[r]?)(j:Same w w'):R P μ h w'∧St μ h w μ h w':=
 ⟨⟨d.big,fun g o m n=>let⟨k,a,b,c,x⟩:=d.lZ g o m n;⟨k,a,b,c,x.get (f _ (d.dom _ _ a).2)⟩,fun b o e=>OR.mono (fun _ _ h=>h) rfl (fun k i=>f _ (d.dom _ _ i).2) (d.obj b o e),d.lt,fun b k e=>⟨(d.dom b k e).1,kz (d.dom b k e).2 l⟩,d.lJ⟩,
   ⟨λ_ _=>rfl,l,λr p _=>f r p,λ_ _ h=>h,λr L h=>⟨L,(f r (Array.getElem?_eq_some_iff.1 h).1).trans h, .refl L⟩,j⟩⟩
variable{f:Nat}
theorem J3{fn:Func}(a:P.funcs[f]? =some fn)(c:fn.name≠ "runtime.NumGoroutine")(hb:fn.body.isSome=true)(args:Array Value)(w:World):(callFunc f args).run P w= .ok (.enter f args) w:=by
 cases hb':fn.body with
 |none=>rw[hb']at hb;cases hb
 |some b=>simp[callFunc,program,Sem.run,a,hb',c]
theorem lE{fn:Func}(c:P.funcs[f]? =some fn)(d:fn.name≠ "runtime.NumGoroutine")(hb:fn.body.isSome=true){args:Array Value}{Q:Ending→World→Prop}(b:Calls P f args w Q)
 {a:Res}{h':Heap}(g:∀e w',Q e w'→iy P μ h w a h' e w'):pS P (iy P μ h w a h') ((callFunc f args).run P w):=by
 rw[J3 c d hb];exact callsIn_wide.2 (b.mono g)
theorem LR.two{x y:Value}{l:List Value}(h:LR μ [x,y] l):∃x' y',l=[x',y']/\VR μ x x'∧VR μ y y':=by
 cases h with
 |cons h1 h2=>cases h2 with
  |cons h2 h3=>cases h3;exact⟨_,_,rfl,h1,h2⟩
end Go.A
end
section
namespace Go.A
variable {T:Nat->Option an}
def Ev(T:Nat->Option an)(base:Nat)(rnd:Option Nat)(c:aT)(e:Env)(ds:Dfs)(h:Heap)(r:bE×Env×Dfs×Heap):Prop:=∃m,∀n,m<=n->cE T n base rnd c e ds h=some r
def EvO(T:Nat->Option an)(base:Nat)(rnd:Option Nat)(ops:List aZ)(e:Env)(ds:Dfs)(h:Heap)(r:bE×Env×Dfs×Heap):Prop:=∃m,∀n,m<=n->gz T n base rnd ops e ds h=some r
def EvD(T:Nat->Option an)(base:Nat)(ops:List aZ)(is bf:List Nat)(rs:List Rec)(e:Env)(h:Heap)(r:bE×Env×Heap):Prop:=∃m,∀n,m<=n->ef T n base ops is bf rs e h=some r
def EvF(T:Nat->Option an)(fn:Fn)(args:List Value)(h:Heap)(r:Res×Heap):Prop:=∃m,∀n,m<=n->gU T n fn args h=some r
def EvC(T:Nat->Option an)(f:Nat)(args:List Value)(h:Heap)(r:Res×Heap):Prop:=∃m,∀n,m<=n->iS T n f args h=some r
def XW(T:Nat->Option an)(base:Nat)(rnd:Option Nat)(c:aT)(e:Env)(ds:Dfs)(h:Heap)(Q:bE->Env->Dfs->Heap->Prop):Prop:=∃x e' ds' h',Ev T base rnd c e ds h (x,e',ds',h')/\Q x e' ds' h'
def FW(T:Nat->Option an)(fn:Fn)(args:List Value)(h:Heap)(Q:Res->Heap->Prop):Prop:=∃r h',EvF T fn args h (r,h')/\Q r h'
def CW(T:Nat->Option an)(f:Nat)(args:List Value)(h:Heap)(Q:Res->Heap->Prop):Prop:=∃r h',EvC T f args h (r,h')/\Q r h'
variable{base:Nat}{rnd:Option Nat}{c:aT}{e:Env}{h:Heap}{Q:bE->Env->Dfs->Heap->Prop}
theorem XW.mono{a:Dfs}{b:bE->Env->Dfs->Heap->Prop}(H:XW T base rnd c e a h Q)(d:∀x e a h,Q x e a h->b x e a h):XW T base rnd c e a h b:=
 let⟨x,e',ds',h',h1,h2⟩:=H;⟨x,e',ds',h',h1,d _ _ _ _ h2⟩
variable{f:Nat}{args:List Value}
theorem CW.mono{Q a:Res->Heap->Prop}(H:CW T f args h Q)(b:∀r h,Q r h->a r h):CW T f args h a:=
 let⟨r,h',h1,h2⟩:=H;⟨r,h',h1,b _ _ h2⟩
abbrev XQ:=bE->Env->Dfs->Heap->Prop
def kR(keep:List Nat)(Q:XQ):XQ:=λx e ds h=>match x with
 | .normal=>Q .normal (bU e keep) ds h
 |x=>Q x e ds h
def kB(id:Nat)(Q:XQ):XQ:=λx e ds h=>match x with
 | .exit i=>(i=id->Q .normal e ds h)/\(i≠id->Q (.exit i) e ds h)
 |x=>Q x e ds h
def kS(K:Env->Dfs->Heap->Prop)(Q:XQ):XQ:=λx e ds h=>match x with
 | .normal=>K e ds h
 |x=>Q x e ds h
def kO(K:Env->Dfs->Heap->Prop)(Q:XQ)(base:Nat)(dst:Option Nat)(e:Env)(ds:Dfs)(log:List Nat):Res->Heap->Prop:=λr h2=>match r with
 | .ret v=>K (cC e dst v) ds {h2 with log:=aH base log h2.log}
 | .panic v=>Q (.panic v) e ds {h2 with log:=aH base log h2.log}
def kD(K:List Rec->Env->Heap->Prop)(base:Nat)(mask:Nat)(rs:List Rec)(dst:Option Nat)(e:Env)(log:List Nat):Res->Heap->Prop:=λr h2=>match r with
 | .ret v=>match bQ {h2 with log:=aH base log h2.log} base h2.log mask rs with
   |some rs'=>K rs' (cC e dst v) {h2 with log:=aH base log h2.log}
   |none=>False
 | .panic _=>False
def wpA(T:Nat->Option an)(base:Nat)(rnd:Option Nat)(wpO:Env->Dfs->Heap->Prop)(Q:XQ)(dst:Option Nat)(e:Env)(ds:Dfs)(h:Heap):Option cZ->Prop
 |some (.val v h')=>wpO (cC e dst v) ds h'
 |some (.call fn args h')=>FW T fn args {h' with log:=[]} (kO wpO Q base dst e ds h'.log)
 |some (.kF f args)=>rnd=none/\wpO (cC e dst (.tuple #[])) ((f,args)::ds) h
 |some (.panic v h')=>Q (.panic v) e ds h'
 |_=>False
def wpG(A:Prop)(B:Prop):Option Bool->Prop
 |some c=>(c=false->B)/\(c=true->A)
 |none=>False
def wpO(T:Nat->Option an)(base:Nat)(rnd:Option Nat)(Q:XQ):List aZ->Env->Dfs->Heap->Prop
 |[],e,ds,h=>Q .normal e ds h
 |o::os,e,ds,h=>wpG (wpA T base rnd (wpO T base rnd Q os) Q o.dst e ds h (aop h base e o.op)) (wpO T base rnd Q os (cC e o.dst (.tuple #[])) ds h) (bL e o.guard)
def YK(T:Nat->Option an)(base:Nat)(wpD:List Rec->Env->Heap->Prop)(i:Nat)(o:aZ)(mask:Nat)(rs:List Rec)(er e:Env)(h:Heap):Prop:=
 match jM o.op with
 |true=>
  match aop h base er o.op with
  |some (.val v h')=>
   match dK o.op with
   |true=>oH h' base rs=true/\wpD (⟨i,o,er,v, .made h.next⟩::rs) (cC e o.dst v) h'
   |false=>h'.next=h.next/\wpD (⟨i,o,er,v, .quiet⟩::rs) (cC e o.dst v) h
  |_=>False
 |false=>
  match aop {h with log:=[]} h.next er o.op with
  |some (.val v h2)=>match bQ {h2 with log:=aH base h.log h2.log} base h2.log mask rs with
   |some rs'=>wpD rs' (cC e o.dst v) {h2 with log:=aH base h.log h2.log}
   |none=>False
  |some (.call fn args _)=>FW T fn args {h with log:=[]} (kD wpD base mask rs o.dst e h.log)
  |_=>False
def wpD(T:Nat->Option an)(base:Nat)(ops:List aZ)(bf:List Nat)(Q:Env->Heap->Prop):List Nat->List Rec->Env->Heap->Prop
 |[],_,e,h=>Q e h
 |i::is,rs,e,h=>
  match bN ops i,bN bf i with
  |some o,some mask=>wpG (YK T base (wpD T base ops bf Q is) i o mask rs (bU e (dh o)) e h) (wpD T base ops bf Q is (⟨i,o,bU e (dh o), .tuple #[], .skip⟩::rs) (cC e o.dst (.tuple #[])) h) (bL (bU e (dh o)) o.guard)
  |_,_=>False
def wpC(A B:Prop):Option Value->Prop
 |some (.bool t)=>(t=true->A)/\(t=false->B)
 |_=>False
def wpE(T:Nat->Option an)(base:Nat)(rnd:Option Nat):aT->XQ->Env->Dfs->Heap->Prop
 | .skip,Q,e,ds,h=>Q .normal e ds h
 | .region ops keep,Q,e,ds,h=>wpO T base rnd (kR keep Q) ops e ds h
 | .draw ops order bf keep,Q,e,ds,h=>wpD T base ops bf (λe' h'=>Q .normal (bU e' keep) ds h') order [] e h
 | .seq a b,Q,e,ds,h=>wpE T base rnd a (kS (wpE T base rnd b Q) Q) e ds h
 | .cond c a b,Q,e,ds,h=>wpC (wpE T base rnd a Q e ds h) (wpE T base rnd b Q e ds h) (ev h e c)
 | .block id b,Q,e,ds,h=>wpE T base rnd b (kB id Q) e ds h
 | .loop b,Q,e,ds,h=>XW T base rnd (.loop b) e ds h Q
 | .rangeFunc f ps a b,Q,e,ds,h=>XW T base rnd (.rangeFunc f ps a b) e ds h Q
 | .scope b,Q,e,ds,h=>wpE T base rnd b Q e ds h
 | .rangeMap o i x k ou nx pr o2 k2 b,Q,e,ds,h=>XW T base rnd (.rangeMap o i x k ou nx pr o2 k2 b) e ds h Q
 | .exit id,Q,e,ds,h=>Q (.exit id) e ds h
 | .ret,Q,e,ds,h=>Q .ret e ds h
theorem vM{base:Nat}{rnd:Option Nat}{Q:XQ}:∀{ops:List aZ} {e:Env} {l:Dfs} {h:Heap},wpO T base rnd Q ops e l h->∃x b a d,EvO T base rnd ops e l h (x,b,a,d)/\Q x b a d
 |[],e,l,h,H=>⟨.normal,e,l,h,⟨1,λn j=>by obtain⟨k,rfl⟩:∃k,n=k+1:=⟨n-1,by omega⟩;simp only[gz]⟩,H⟩
 |o::os,e,l,h,H=>by
  simp only[wpO]at H;unfold wpG at H;split at H
  ·rename_i c hc;cases c with
   |false=>
    obtain⟨x,b,a,d,⟨m,g⟩,i⟩:=vM (H.1 rfl);exact⟨x,b,a,d,⟨m+1,λn j=>by
     obtain⟨k,rfl⟩:∃k,n=k+1:=⟨n-1,by omega⟩;simp only[gz,hc];exact g k (by omega)⟩,i⟩
   |true=>
    have H:=H.2 rfl;unfold wpA at H;split at H
    ·rename_i v h3 ho;obtain⟨x,b,a,d,⟨m,g⟩,i⟩:=vM H;exact⟨x,b,a,d,⟨m+1,λn j=>by
      obtain⟨k,rfl⟩:∃k,n=k+1:=⟨n-1,by omega⟩;simp only[gz,hc,ho];exact g k (by omega)⟩,i⟩
    ·rename_i fn args h3 ho;obtain⟨r,t,⟨q,p⟩,H⟩:=H;cases r with
     |ret v=>
      obtain⟨x,b,a,d,⟨m,g⟩,i⟩:=vM H;exact⟨x,b,a,d,⟨m+q+1,λn j=>by
       obtain⟨k,rfl⟩:∃k,n=k+1:=⟨n-1,by omega⟩;simp only[gz,hc,ho,p k (by omega)];exact g k (by omega)⟩,i⟩
     |panic v=>
      exact⟨_,_,_,_,⟨q+1,λn j=>by
       obtain⟨k,rfl⟩:∃k,n=k+1:=⟨n-1,by omega⟩;simp only[gz,hc,ho,p k (by omega)]⟩,H⟩
    ·rename_i f args ho;obtain⟨s,H⟩:=H;subst s;obtain⟨x,b,a,d,⟨m,g⟩,i⟩:=vM H;exact⟨x,b,a,d,⟨m+1,λn j=>by
      obtain⟨k,rfl⟩:∃k,n=k+1:=⟨n-1,by omega⟩;simp only[gz,hc,ho];exact g k (by omega)⟩,i⟩
    ·rename_i v h3 ho;exact⟨_,_,_,_,⟨1,λn j=>by
      obtain⟨k,rfl⟩:∃k,n=k+1:=⟨n-1,by omega⟩;simp only[gz,hc,ho]⟩,H⟩
    ·exact H.elim
  ·exact H.elim
theorem Hg{base:Nat}{ops:List aZ}{bf:List Nat}{Q:Env->Heap->Prop}:∀{is:List Nat} {rs:List Rec} {e:Env} {h:Heap},wpD T base ops bf Q is rs e h->∃d f,EvD T base ops is bf rs e h (.normal,d,f)/\Q d f
 |[],rs,e,h,H=>⟨e,h,⟨1,λn g=>by obtain⟨k,rfl⟩:∃k,n=k+1:=⟨n-1,by omega⟩;simp only[ef]⟩,H⟩
 |i::is,rs,e,h,H=>by
  simp only[wpD]at H;split at H
  ·rename_i o mask ho hm;unfold wpG at H;split at H
   ·rename_i c hc;have fin:∀{b:List Rec} {e1:Env} {h1:Heap},wpD T base ops bf Q is b e1 h1->(∃m,∀n,m<=n->∀r,ef T n base ops is bf b e1 h1=some r->ef T (n+1) base ops (i::is) bf rs e h=some r)->∃d f,EvD T base ops (i::is) bf rs e h (.normal,d,f)/\Q d f:=λs ⟨t,q⟩=>by
     obtain⟨d,f,⟨m,h1⟩,j⟩:=Hg s;exact⟨d,f,⟨m+t+1,λn g=>by
      obtain⟨k,rfl⟩:∃k,n=k+1:=⟨n-1,by omega⟩;exact q k (by omega) _ (h1 k (by omega))⟩,j⟩
    cases c with
    |false=>
     exact fin (H.1 rfl) ⟨0,λn _ r a=>by simp only[ef,ho,hm,hc];exact a⟩
    |true=>
     have H:=H.2 rfl;unfold YK at H;split at H
     ·rename_i he;split at H
      ·rename_i v h3 hop;split at H
       ·rename_i hnw;exact fin H.2 ⟨0,λn _ r a=>by simp only[ef,ho,hm,hc,he,hop,hnw,H.1,cond_true];exact a⟩
       ·rename_i hnw;exact fin H.2 ⟨0,λn _ r a=>by
         have l:Nat.beq h3.next h.next=true:=by rw[beq_eq];simpa using H.1
         simp only[ef,ho,hm,hc,he,hop,hnw,l,cond_true,cond_false];exact a⟩
      ·exact H.elim
     ·rename_i he;split at H
      ·rename_i v h3 hop;split at H
       ·rename_i b hrs;exact fin H ⟨0,λn _ r a=>by simp only[ef,ho,hm,hc,he,hop,hrs,cond_false];exact a⟩
       ·exact H.elim
      ·rename_i fn args h3 hop;obtain⟨r,w,⟨u,p⟩,H⟩:=H;unfold kD at H;split at H
       ·rename_i v;split at H
        ·rename_i b hrs;exact fin H ⟨u,λn g r a=>by simp only[ef,ho,hm,hc,he,hop,p n g,hrs,cond_false];exact a⟩
        ·exact H.elim
       ·exact H.elim
      ·exact H.elim
   ·exact H.elim
  ·exact H.elim
theorem tN{base:Nat}{rnd:Option Nat}:∀{c:aT} {Q:XQ} {e:Env} {j:Dfs} {h:Heap},wpE T base rnd c Q e j h->XW T base rnd c e j h Q
 | .skip,Q,e,j,h,H=>⟨_,_,_,_,⟨1,λn l=>by obtain⟨k,rfl⟩:∃k,n=k+1:=⟨n-1,by omega⟩;simp only[cE]⟩,H⟩
 | .exit i,Q,e,j,h,H=>⟨_,_,_,_,⟨1,λn l=>by obtain⟨k,rfl⟩:∃k,n=k+1:=⟨n-1,by omega⟩;simp only[cE]⟩,H⟩
 | .ret,Q,e,j,h,H=>⟨_,_,_,_,⟨1,λn l=>by obtain⟨k,rfl⟩:∃k,n=k+1:=⟨n-1,by omega⟩;simp only[cE]⟩,H⟩
 | .loop b,Q,e,j,h,H=>H
 | .rangeFunc f ps a b,Q,e,j,h,H=>H
 | .rangeMap o i x k ou nx pr o2 k2 b,Q,e,j,h,H=>H
 | .scope b,Q,e,j,h,H=>by
   obtain⟨x,q,p,r,⟨m,d⟩,g⟩:=tN (c:=b) H;exact⟨_,_,_,_,⟨m+1,λn l=>by
    obtain⟨k,rfl⟩:∃k,n=k+1:=⟨n-1,by omega⟩;simp only[cE,d k (by omega)]⟩,g⟩
 | .region ops keep,Q,e,j,h,H=>by
   obtain⟨x,q,p,r,⟨m,d⟩,g⟩:=vM H;cases x with
   |normal=>exact⟨_,_,_,_,⟨m+1,λn l=>by
    obtain⟨k,rfl⟩:∃k,n=k+1:=⟨n-1,by omega⟩;simp only[cE,d k (by omega)]⟩,g⟩
   |_=>exact⟨_,_,_,_,⟨m+1,fun n l=>by
     obtain⟨k,rfl⟩:∃k,n=k+1:=⟨n-1,by omega⟩;simp only[cE,d k (by omega)]⟩,g⟩
 | .draw ops order bf keep,Q,e,j,h,H=>by
   obtain⟨q,r,⟨m,d⟩,g⟩:=Hg H;exact⟨_,_,_,_,⟨m+1,λn l=>by
    obtain⟨k,rfl⟩:∃k,n=k+1:=⟨n-1,by omega⟩;simp only[cE,d k (by omega)]⟩,g⟩
 | .seq a b,Q,e,j,h,H=>by
   obtain⟨x,q,p,r,⟨m,d⟩,g⟩:=tN (c:=a) H;cases x with
   |normal=>
    obtain⟨A,e2,u,z,⟨y,v⟩,w⟩:=tN (c:=b) g;exact⟨_,_,_,_,⟨m+y+1,λn l=>by
     obtain⟨k,rfl⟩:∃k,n=k+1:=⟨n-1,by omega⟩;simp only[cE,d k (by omega)];exact v k (by omega)⟩,w⟩
   |_=>exact⟨_,_,_,_,⟨m+1,fun n l=>by
     obtain⟨k,rfl⟩:∃k,n=k+1:=⟨n-1,by omega⟩;simp only[cE,d k (by omega)]⟩,g⟩
 | .cond c a b,Q,e,j,h,H=>by
   simp only[wpE]at H;unfold wpC at H;split at H
   ·rename_i t ht;cases t with
    |true=>
     obtain⟨x,q,p,r,⟨m,d⟩,g⟩:=tN (c:=a) (H.1 rfl);exact⟨_,_,_,_,⟨m+1,λn l=>by
      obtain⟨k,rfl⟩:∃k,n=k+1:=⟨n-1,by omega⟩;simp only[cE,ht];exact d k (by omega)⟩,g⟩
    |false=>
     obtain⟨x,q,p,r,⟨m,d⟩,g⟩:=tN (c:=b) (H.2 rfl);exact⟨_,_,_,_,⟨m+1,λn l=>by
      obtain⟨k,rfl⟩:∃k,n=k+1:=⟨n-1,by omega⟩;simp only[cE,ht];exact d k (by omega)⟩,g⟩
   ·exact H.elim
 | .block id b,Q,e,j,h,H=>by
   obtain⟨x,q,p,r,⟨m,d⟩,g⟩:=tN (c:=b) H;cases x with
   |exit i=>
    by_cases hi:i=id
    ·exact⟨_,_,_,_,⟨m+1,λn l=>by
      obtain⟨k,rfl⟩:∃k,n=k+1:=⟨n-1,by omega⟩;have s:Nat.beq i id=true:=by rw[beq_eq];simpa using hi
      simp only[cE,d k (by omega),s,cond_true]⟩,g.1 hi⟩
    ·exact⟨_,_,_,_,⟨m+1,λn l=>by
      obtain⟨k,rfl⟩:∃k,n=k+1:=⟨n-1,by omega⟩;have s:Nat.beq i id=false:=by rw[beq_eq];simpa using hi
      simp only[cE,d k (by omega),s,cond_false]⟩,g.2 hi⟩
   |_=>exact⟨_,_,_,_,⟨m+1,fun n l=>by
     obtain⟨k,rfl⟩:∃k,n=k+1:=⟨n-1,by omega⟩;simp only[cE,d k (by omega)]⟩,g⟩
variable{b:aT}
theorem XW.loop(I:Nat->Env->Dfs->Heap->Prop)
 (hr:∀k e a h,I k e a h->XW T base rnd b e a h λx f c g=>match x with| .normal=>∃d,d<k/\I d f c g|x=>Q x f c g):
 ∀{k:Nat} {e:Env} {a:Dfs} {h:Heap},I k e a h->XW T base rnd (.loop b) e a h Q:=by
 intro k;induction k using Nat.strongRecOn with
 |ind k ih=>
  intro e a h r;obtain⟨x,f,c,g,⟨m,j⟩,l⟩:=hr k e a h r;cases x with
  |normal=>
   obtain⟨d,s,i⟩:=l;obtain⟨w,e2,o,v,⟨u,p⟩,q⟩:=ih d s i;exact⟨_,_,_,_,⟨m+u+1,λn t=>by
    obtain⟨k,rfl⟩:∃k,n=k+1:=⟨n-1,by omega⟩;simp only[cE,j k (by omega)];exact p k (by omega)⟩,q⟩
  |_=>exact⟨_,_,_,_,⟨m+1,fun n t=>by
    obtain⟨k,rfl⟩:∃k,n=k+1:=⟨n-1,by omega⟩;simp only[cE,j k (by omega)]⟩,l⟩
theorem XW.aar{a:aT}{g:Dfs}
 (H:XW T base rnd a e g h λx d c f=>match x with| .normal=>XW T base rnd b d c f Q|x=>Q x d c f):XW T base rnd (.seq a b) e g h Q:=by
 obtain⟨x,d,c,f,⟨m,i⟩,j⟩:=H;cases x with
 |normal=>
  obtain⟨t,e2,l,s,⟨r,o⟩,p⟩:=j;exact⟨_,_,_,_,⟨m+r+1,λn q=>by
   obtain⟨k,rfl⟩:∃k,n=k+1:=⟨n-1,by omega⟩;simp only[cE,i k (by omega)];exact o k (by omega)⟩,p⟩
 |_=>exact⟨_,_,_,_,⟨m+1,fun n q=>by
   obtain⟨k,rfl⟩:∃k,n=k+1:=⟨n-1,by omega⟩;simp only[cE,i k (by omega)]⟩,j⟩
theorem FW.func{Q:Res->Heap->Prop}(H:CW T f args h Q):FW T (.func f) args h Q:=by
 obtain⟨r,a,⟨m,b⟩,c⟩:=H;exact⟨r,a,⟨m+1,λn d=>by
  obtain⟨k,rfl⟩:∃k,n=k+1:=⟨n-1,by omega⟩;simp only[gU];exact b k (by omega)⟩,c⟩
def xX(rs:List (Nat×Option (Option Nat)))(h:Heap)(Q:Res->Heap->Prop):bE->Env->Dfs->Heap->Prop:=λx e ds h1=>
 match x with
 | .exit _=>False
 | .panic v=>match ds with
   |[]=>Q (.panic v) h1
   |_=>False
 |_=>match ds with
  |[]=>match bZ h1 e rs with
   |some vs=>Q (.ret (eT vs)) (gcA h h1 (eT vs))
   |none=>False
  |_=>False
theorem CW.code{Q:Res->Heap->Prop}{rs:List (Nat×Option (Option Nat))}(b:T f=some (.code c rs))
 (H:XW T h.next none c (ej 0 args) [] h (xX rs h Q)):CW T f args h Q:=by
 obtain⟨x,e,ds,g,⟨m,a⟩,H⟩:=H;unfold xX at H;cases x with
 |exit _=>exact H.elim
 |panic v=>
  dsimp only at H;split at H
  ·refine⟨_,_,⟨m+2,λn d=> ?_⟩,H⟩;obtain⟨k,rfl⟩:∃k,n=k+2:=⟨n-2,by omega⟩;have:=a (k+1) (by omega);simp only[iS,this,nV,b]
  ·exact H.elim
 |normal=>
  dsimp only at H;split at H
  ·split at H
   ·rename_i vs hvs;refine⟨_,_,⟨m+2,λn d=> ?_⟩,H⟩;obtain⟨k,rfl⟩:∃k,n=k+2:=⟨n-2,by omega⟩;have:=a (k+1) (by omega);simp only[iS,this,nV,b,hvs]
   ·exact H.elim
  ·exact H.elim
 |ret=>
  dsimp only at H;split at H
  ·split at H
   ·rename_i vs hvs;refine⟨_,_,⟨m+2,λn d=> ?_⟩,H⟩;obtain⟨k,rfl⟩:∃k,n=k+2:=⟨n-2,by omega⟩;have:=a (k+1) (by omega);simp only[iS,this,nV,b,hvs]
   ·exact H.elim
  ·exact H.elim
end Go.A
end
section
namespace Go.A
variable {T:Nat->Option an} {base:Nat} {rnd:Option Nat} {Q:XQ} {e:Env} {ds:Dfs} {h:Heap} {c:aT}
structure WE (T:Nat->Option an) (base:Nat) (rnd:Option Nat) (c:aT) (Q:XQ) (e:Env) (ds:Dfs) (h:Heap):Prop where
 ok:XW T base rnd c e ds h Q
structure WO (T:Nat->Option an) (base:Nat) (rnd:Option Nat) (Q:XQ) (ops:List aZ) (e:Env) (ds:Dfs) (h:Heap):Prop where
 ok:∃x e' ds' h',EvO T base rnd ops e ds h (x,e',ds',h')/\Q x e' ds' h'
structure WD (T:Nat->Option an) (base:Nat) (ops:List aZ) (bf:List Nat) (Q:Env->Heap->Prop) (is:List Nat) (rs:List Rec) (e:Env) (h:Heap):Prop where
 ok:∃e' h',EvD T base ops is bf rs e h (.normal,e',h')/\Q e' h'
structure KR (keep:List Nat) (Q:XQ) (x:bE) (e:Env) (ds:Dfs) (h:Heap):Prop where
 ok:kR keep Q x e ds h
structure KS (K:Env->Dfs->Heap->Prop) (Q:XQ) (x:bE) (e:Env) (ds:Dfs) (h:Heap):Prop where
 ok:kS K Q x e ds h
structure KB (i:Nat) (Q:XQ) (x:bE) (e:Env) (ds:Dfs) (h:Heap):Prop where
 ok:kB i Q x e ds h
structure KO (K:Env->Dfs->Heap->Prop) (Q:XQ) (base:Nat) (dst:Option Nat) (e:Env) (ds:Dfs) (log:List Nat) (r:Res) (h:Heap):Prop where
 ok:kO K Q base dst e ds log r h
structure KD (K:List Rec->Env->Heap->Prop) (base:Nat) (mask:Nat) (rs:List Rec) (dst:Option Nat) (e:Env) (log:List Nat) (r:Res) (h:Heap):Prop where
 ok:kD K base mask rs dst e log r h
theorem WE.of(H:wpE T base rnd c Q e ds h):WE T base rnd c Q e ds h:=⟨tN H⟩
theorem SC(H:Q .normal e ds h):WE T base rnd .skip Q e ds h:= .of H
variable{i:Nat}
theorem Df(H:Q (.exit i) e ds h):WE T base rnd (.exit i) Q e ds h:= .of H
theorem nT(H:Q .ret e ds h):WE T base rnd .ret Q e ds h:= .of H
variable{b:aT}
theorem rM{a:aT}(H:WE T base rnd a (KS (WE T base rnd b Q) Q) e ds h):WE T base rnd (.seq a b) Q e ds h:=by
 refine⟨XW.aar (H.ok.mono λx e ds h c=> ?_)⟩;cases x<;>first|exact c.ok.ok|exact c.ok
variable{ops:List aZ}
theorem sw{keep:List Nat}(H:WO T base rnd (KR keep Q) ops e ds h):WE T base rnd (.region ops keep) Q e ds h:=by
 obtain⟨x,f,c,g,⟨m,a⟩,⟨b⟩⟩:=H.ok;cases x with
 |normal=>exact⟨_,_,_,_,⟨m+1,λn d=>by
  obtain⟨k,rfl⟩:∃k,n=k+1:=⟨n-1,by omega⟩;simp only[cE,a k (by omega)]⟩,b⟩
 |_=>exact⟨_,_,_,_,⟨m+1,fun n d=>by
   obtain⟨k,rfl⟩:∃k,n=k+1:=⟨n-1,by omega⟩;simp only[cE,a k (by omega)]⟩,b⟩
theorem mW(H:WE T base rnd b (KB i Q) e ds h):WE T base rnd (.block i b) Q e ds h:=by
 obtain⟨x,l,g,o,⟨m,a⟩,⟨c⟩⟩:=H.ok;cases x with
 |exit j=>
  by_cases hi:j=i
  ·exact⟨_,_,_,_,⟨m+1,λn f=>by
    obtain⟨k,rfl⟩:∃k,n=k+1:=⟨n-1,by omega⟩;have d:Nat.beq j i=true:=by rw[beq_eq];simpa using hi
    simp only[cE,a k (by omega),d,cond_true]⟩,c.1 hi⟩
  ·exact⟨_,_,_,_,⟨m+1,λn f=>by
    obtain⟨k,rfl⟩:∃k,n=k+1:=⟨n-1,by omega⟩;have d:Nat.beq j i=false:=by rw[beq_eq];simpa using hi
    simp only[cE,a k (by omega),d,cond_false]⟩,c.2 hi⟩
 |_=>exact⟨_,_,_,_,⟨m+1,fun n f=>by
   obtain⟨k,rfl⟩:∃k,n=k+1:=⟨n-1,by omega⟩;simp only[cE,a k (by omega)]⟩,c⟩
theorem IN{c:Operand}{a:aT}{t:Bool}(i:ev h e c=some (.bool t))(h1:t=true->WE T base rnd a Q e ds h)(o:t=false->WE T base rnd b Q e ds h):WE T base rnd (.cond c a b) Q e ds h:=by
 cases t with
 |true=>
  obtain⟨x,j,d,l,⟨m,f⟩,g⟩:=(h1 rfl).ok;exact⟨_,_,_,_,⟨m+1,λn p=>by
   obtain⟨k,rfl⟩:∃k,n=k+1:=⟨n-1,by omega⟩;simp only[cE,i];exact f k (by omega)⟩,g⟩
 |false=>
  obtain⟨x,j,d,l,⟨m,f⟩,g⟩:=(o rfl).ok;exact⟨_,_,_,_,⟨m+1,λn p=>by
   obtain⟨k,rfl⟩:∃k,n=k+1:=⟨n-1,by omega⟩;simp only[cE,i];exact f k (by omega)⟩,g⟩
theorem SD{c:Operand}{a:aT}(d:ev h e c=some (.bool true))(h1:WE T base rnd a Q e ds h):WE T base rnd (.cond c a b) Q e ds h:=IN d (λ_=>h1) (λh=>by cases h)
theorem Pt{c:Operand}{a:aT}(d:ev h e c=some (.bool false))(h1:WE T base rnd b Q e ds h):WE T base rnd (.cond c a b) Q e ds h:=IN d (λh=>by cases h) (λ_=>h1)
variable{bf is:List Nat}
theorem IP{keep:List Nat}(H:WD T base ops bf (λa b=>KR keep Q .normal a ds b) is [] e h):WE T base rnd (.draw ops is bf keep) Q e ds h:=by
 obtain⟨a,b,⟨m,c⟩,⟨d⟩⟩:=H.ok;exact⟨_,_,_,_,⟨m+1,λn f=>by
  obtain⟨k,rfl⟩:∃k,n=k+1:=⟨n-1,by omega⟩;simp only[cE,c k (by omega)]⟩,d⟩
theorem bg(I:Nat->Env->Dfs->Heap->Prop){k:Nat}(hI:I k e ds h)
 (hr:∀k e ds h,I k e ds h->WE T base rnd b (KS (λe' ds' h'=>∃k',k'<k/\I k' e' ds' h') Q) e ds h):WE T base rnd (.loop b) Q e ds h:=
 ⟨XW.loop I (λk e ds h hI=>((hr k e ds h hI).ok.mono λx e ds h a=>by cases x<;>exact a.ok)) hI⟩
theorem WE.mono{c:aT}{a:XQ}(H:WE T base rnd c a e ds h)(b:∀x e ds h,a x e ds h->Q x e ds h):WE T base rnd c Q e ds h:=⟨H.ok.mono b⟩
variable{a:Env}
theorem XP{keep:List Nat}(b:bU e keep=a)(H:Q .normal a ds h):KR keep Q .normal e ds h:=by subst b;exact⟨H⟩
variable{v:Value}
theorem ta{keep:List Nat}(H:Q (.panic v) e ds h):KR keep Q (.panic v) e ds h:=⟨H⟩
variable{K:Env->Dfs->Heap->Prop}
theorem uA(H:K e ds h):KS K Q .normal e ds h:=⟨H⟩
theorem XS(H:Q .ret e ds h):KS K Q .ret e ds h:=⟨H⟩
theorem Gd(H:Q (.exit i) e ds h):KS K Q (.exit i) e ds h:=⟨H⟩
theorem tc(H:Q (.panic v) e ds h):KS K Q (.panic v) e ds h:=⟨H⟩
theorem MD(H:Q .normal e ds h):KB i Q .normal e ds h:=⟨H⟩
theorem aaf(H:Q .ret e ds h):KB i Q .ret e ds h:=⟨H⟩
theorem Jo(H:Q (.panic v) e ds h):KB i Q (.panic v) e ds h:=⟨H⟩
theorem MC(H:Q .normal e ds h):KB i Q (.exit i) e ds h:=⟨⟨λ_=>H,λh=>(h rfl).elim⟩⟩
theorem XN{j:Nat}(a:Nat.beq j i=false)(H:Q (.exit j) e ds h):KB i Q (.exit j) e ds h:=by
 rw[beq_eq]at a;simp only[decide_eq_false_iff_not]at a;exact⟨⟨λh=>(a h).elim,λ_=>H⟩⟩
theorem bH(H:Q .normal e ds h):WO T base rnd Q [] e ds h:=⟨vM (T:=T) (base:=base) (rnd:=rnd) (ops:=[]) H⟩
variable{dst:Option Nat}{op:AOp}{os:List aZ}{h':Heap}
theorem aF(ho:aop h base e op=some (.val v h'))(H:WO T base rnd Q os (cC e dst v) ds h'):WO T base rnd Q (⟨dst,op,none⟩::os) e ds h:=by
 obtain⟨x,b,a,h',⟨m,c⟩,d⟩:=H.ok;exact⟨x,b,a,h',⟨m+1,λn f=>by
  obtain⟨k,rfl⟩:∃k,n=k+1:=⟨n-1,by omega⟩;simp only[gz,bL,ho];exact c k (by omega)⟩,d⟩
variable{fn:Fn}{args:List Value}
theorem pQ(ho:aop h base e op=some (.call fn args h'))(H:FW T fn args {h' with log:=[]} (KO (WO T base rnd Q os) Q base dst e ds h'.log)):WO T base rnd Q (⟨dst,op,none⟩::os) e ds h:=by
 obtain⟨r,j,⟨c,b⟩,⟨H⟩⟩:=H;cases r with
 |ret v=>
  obtain⟨x,d,a,h',⟨m,f⟩,g⟩:=WO.ok H;exact⟨x,d,a,h',⟨m+c+1,λn i=>by
   obtain⟨k,rfl⟩:∃k,n=k+1:=⟨n-1,by omega⟩;simp only[gz,bL,ho,b k (by omega)];exact f k (by omega)⟩,g⟩
 |panic v=>
  exact⟨_,_,_,_,⟨c+1,λn i=>by
   obtain⟨k,rfl⟩:∃k,n=k+1:=⟨n-1,by omega⟩;simp only[gz,bL,ho,b k (by omega)]⟩,H⟩
theorem PA(ho:aop h base e op=some (.panic v h'))(H:Q (.panic v) e ds h'):WO T base rnd Q (⟨dst,op,none⟩::os) e ds h:=
 ⟨_,_,_,_,⟨1,λn a=>by
  obtain⟨k,rfl⟩:∃k,n=k+1:=⟨n-1,by omega⟩;simp only[gz,bL,ho]⟩,H⟩
variable{t:Nat}
theorem YC{b:Bool}(j:geT e t=some (.bool b))(H:WO T base rnd Q (⟨dst,op,none⟩::os) e ds h):WO T base rnd Q (⟨dst,op,some (t,b)⟩::os) e ds h:=by
 obtain⟨x,c,a,d,⟨m,f⟩,g⟩:=H.ok;exact⟨x,c,a,d,⟨m+1,λn l=>by
  obtain⟨k,rfl⟩:∃k,n=k+1:=⟨n-1,by omega⟩;have:=f (k+1) (by omega);have i:(b==b)=true:=by simp
  simp only[gz,bL]at this;simp only[gz,bL,j,i];exact this⟩,g⟩
theorem VI{b x:Bool}(j:geT e t=some (.bool x))(l:x= !b)(H:WO T base rnd Q os (cC e dst (.tuple #[])) ds h):WO T base rnd Q (⟨dst,op,some (t,b)⟩::os) e ds h:=by
 obtain⟨o,c,a,d,⟨m,f⟩,g⟩:=H.ok;exact⟨o,c,a,d,⟨m+1,λn p=>by
  obtain⟨k,rfl⟩:∃k,n=k+1:=⟨n-1,by omega⟩;have i:(x==b)=false:=by subst l;cases b<;>rfl
  simp only[gz,bL,j,i];exact f k (by omega)⟩,g⟩
variable{rs:List Rec}
theorem lW{Q:Env->Heap->Prop}(H:Q e h):WD T base ops bf Q [] rs e h:=⟨Hg (T:=T) (base:=base) (ops:=ops) (bf:=bf) (is:=[]) (rs:=rs) H⟩
variable{e1:Env}{h1:Heap}
theorem uY{a:List Rec}{Q:Env->Heap->Prop}(b:∃m,∀n,m<=n->∀r,ef T n base ops is bf a e1 h1=some r->ef T (n+1) base ops (i::is) bf rs e h=some r)
 (H:WD T base ops bf Q is a e1 h1):WD T base ops bf Q (i::is) rs e h:=by
 obtain⟨c,d,⟨m,g⟩,j⟩:=H.ok;obtain⟨f,b⟩:=b;exact⟨c,d,⟨m+f+1,λn l=>by
  obtain⟨k,rfl⟩:∃k,n=k+1:=⟨n-1,by omega⟩;exact b k (by omega) _ (g k (by omega))⟩,j⟩
variable{mask:Nat}{g:Option (Nat×Bool)}
theorem VF{Q:Env->Heap->Prop}(ho:bN ops i=some ⟨dst,op,g⟩)(c:bN bf i=some mask)(b:bU e (dh ⟨dst,op,g⟩)=a)(f:bL a g=some false)
 (H:WD T base ops bf Q is (⟨i,⟨dst,op,g⟩,a, .tuple #[], .skip⟩::rs) (cC e dst (.tuple #[])) h):WD T base ops bf Q (i::is) rs e h:=by
 subst b;exact uY ⟨0,λn _ r d=>by simp only[ef,ho,c,f];exact d⟩ H
theorem bI{Q:Env->Heap->Prop}(ho:bN ops i=some ⟨dst,op,g⟩)(f:bN bf i=some mask)(d:bU e (dh ⟨dst,op,g⟩)=a)(m:bL a g=some true)
 (k:jM op=true)(j:dK op=false)(b:aop h base a op=some (.val v h))(H:WD T base ops bf Q is (⟨i,⟨dst,op,g⟩,a,v, .quiet⟩::rs) (cC e dst v) h):WD T base ops bf Q (i::is) rs e h:=by
 subst d;have c:Nat.beq h.next h.next=true:=by rw[beq_eq];simp
 exact uY ⟨0,λn _ r l=>by simp only[ef,ho,f,m,k,b,j,c,cond_true,cond_false];exact l⟩ H
theorem rL{Q:Env->Heap->Prop}(ho:bN ops i=some ⟨dst,op,g⟩)(f:bN bf i=some mask)(d:bU e (dh ⟨dst,op,g⟩)=a)(m:bL a g=some true)
 (k:jM op=true)(j:dK op=true)(b:aop h base a op=some (.val v h'))(c:oH h' base rs=true)(H:WD T base ops bf Q is (⟨i,⟨dst,op,g⟩,a,v, .made h.next⟩::rs) (cC e dst v) h'):WD T base ops bf Q (i::is) rs e h:=by
 subst d;exact uY ⟨0,λn _ r l=>by simp only[ef,ho,f,m,k,b,j,c,cond_true];exact l⟩ H
theorem VE{b:List Rec}{Q:Env->Heap->Prop}{c:Env}{a:Heap}(ho:bN ops i=some ⟨dst,op,g⟩)(k:bN bf i=some mask)(j:bU e (dh ⟨dst,op,g⟩)=c)(o:bL c g=some true)
 (l:jM op=false)(d:aop {h with log:=[]} h.next c op=some (.val v a))(f:bQ {a with log:=aH base h.log a.log} base a.log mask rs=some b)
 (H:WD T base ops bf Q is b (cC e dst v) {a with log:=aH base h.log a.log}):WD T base ops bf Q (i::is) rs e h:=by
 subst j;exact uY ⟨0,λn _ r m=>by simp only[ef,ho,k,o,l,d,f,cond_false];exact m⟩ H
theorem SA{Q:Env->Heap->Prop}{c:Heap}(ho:bN ops i=some ⟨dst,op,g⟩)(j:bN bf i=some mask)(d:bU e (dh ⟨dst,op,g⟩)=a)(o:bL a g=some true)
 (l:jM op=false)(b:aop {h with log:=[]} h.next a op=some (.call fn args c))(H:FW T fn args {h with log:=[]} (KD (WD T base ops bf Q is) base mask rs dst e h.log)):WD T base ops bf Q (i::is) rs e h:=by
 subst d;obtain⟨r,q,⟨p,f⟩,⟨H⟩⟩:=H;unfold kD at H;split at H
 ·split at H
  ·rename_i rs' hrs;exact uY ⟨p,λn k r m=>by simp only[ef,ho,j,o,l,b,f n k,hrs,cond_false];exact m⟩ H
  ·exact H.elim
 ·exact H.elim
theorem qZ9{Q:Env->Heap->Prop}(ho:bN ops i=some ⟨dst,op,g⟩:=by rfl)(f:bN bf i=some mask:=by rfl)(d:bU e (dh ⟨dst,op,g⟩)=a:=by rfl)(m:bL a g=some true:=by rfl)
 (k:jM op=true:=by rfl)(j:dK op=false:=by rfl)(b:aop h base a op=some (.val v h))(H:WD T base ops bf Q is (⟨i,⟨dst,op,g⟩,a,v, .quiet⟩::rs) (cC e dst v) h):WD T base ops bf Q (i::is) rs e h:=bI ho f d m k j b H
variable{r:bE×Env×Dfs×Heap}
theorem j4{N:Nat}{a:Dfs}(H:∀n,(qm T (n+N)).exec base rnd c e a h=some r):Ev T base rnd c e a h r:=
 ⟨N,λn b=>by
  have:=H (n-N);rw[HT,show n-N+N=n by omega]at this;exact this⟩
theorem kM{b a:Dfs}(g:c= .seq (cL c) (cR c))(d:Ev T base rnd (cL c) e b h (.normal,e1,a,h1))(f:Ev T base rnd (cR c) e1 a h1 r):Ev T base rnd c e b h r:=by
 obtain⟨i,l⟩:=d;obtain⟨j,m⟩:=f;refine⟨i+j+1,λn o=> ?_⟩;obtain⟨k,rfl⟩:∃k,n=k+1:=⟨n-1,by omega⟩;rw[g];simp only[cE,l k (by omega)];exact m k (by omega)
theorem CW.aal{f:Nat}{Q:Res->Heap->Prop}{rs:List (Nat×Option (Option Nat))}{x:bE}{a:Dfs}(b:T f=some (.code c rs))(H:Ev T h.next none c (ej 0 args) [] h (x,e,a,h1))(d:xX rs h Q x e a h1):CW T f args h Q:=
 CW.code b ⟨x,e,a,h1,H,d⟩
theorem R.none{P:Program}{w:World}{n:Nat}(a:P.globals.size<=n):R P (λ_=>none) ⟨[],n,[]⟩ w:=
 {big:=a
  lZ:=λg o _ h=>by cases h
  obj:=λb o h=>by cases h
  lt:=λb o h=>by cases h
  dom:=λb k h=>by cases h
  lJ:=λb c o e k d _ h=>by cases h}
end Go.A
end
section
namespace Go.A
variable {T:Nat->Option an} {base:Nat} {rnd:Option Nat} {Q:XQ} {e:Env} {ds:Dfs} {h:Heap}
theorem Heap.iC(h:Heap)(o:bR):(h.push o).get h.next=some o:=by rw[Heap.dJ,if_pos rfl]
theorem Heap.fC{o:bR}{x:Nat}(a:x<h.next):(h.push o).get x=h.get x:=by rw[Heap.dJ,if_neg (by omega)]
theorem Heap.aP{b:Nat}{o o':bR}(hb:h.get b=some o'):(h.wr base b o).get b=some o:=by rw[Heap.mL,if_pos rfl,hb];rfl
theorem Heap.Ej(h:Heap)(base b:Nat)(o:bR):(h.wr base b o).get b=(h.get b).map λ_=>o:=by rw[Heap.mL,if_pos rfl]
theorem Heap.eZ{b:Nat}{o:bR}{x:Nat}(a:x≠b):(h.wr base b o).get x=h.get x:=by rw[Heap.mL,if_neg a]
theorem Heap.yZ(h:Heap)(o:bR):(h.push o).log=h.log:=rfl
theorem Heap.au{b:Nat}{o:bR}(hb:base<=b):(h.wr base b o).log=h.log:=by
 simp only[Heap.wr,blt_eq];rw[decide_eq_false (by omega)];rfl
variable{x:Operand}{v:Value}
theorem dx(a:ev h e x=some v):aop h base e (.mov x)=some (.val v h):=by simp only[aop,a,cT]
theorem wM{c a b:Operand}(d:ev h e c=some (.bool true))(f:ev h e a=some v):aop h base e (.pick c a b)=some (.val v h):=by simp only[aop,d,f,cT]
theorem BC{c a b:Operand}(d:ev h e c=some (.bool false))(f:ev h e b=some v):aop h base e (.pick c a b)=some (.val v h):=by simp only[aop,d,f,cT]
variable{z:List Value}
theorem sG:aop h base e (.new z)=some (.val (.pointer (some ⟨h.next,0,none⟩)) (h.push (.cells z true 1))):=rfl
variable{vs:List Value}
theorem V8(b:ev h e x=some v)(a:cellsOf v=vs):aop h base e (.box x)=some (.val (.pointer (some ⟨h.next,0,none⟩)) (h.push (.cells vs true 1))):=by simp only[aop,b,cT,a]
theorem oO{cs:List Value}{ps:List (Nat×Nat×Operand)}(a:j6 h e z ps=some cs):aop h base e (.build z ps)=some (.val (.agg cs.toArray) h):=by simp only[aop,a]
variable{m:Nat}
theorem mG{cs:List Value}{n:Nat}{ps:List (Nat×Nat×Operand)}(a:j6 h e (eS n z) ps=some cs)(b:bM z=m):aop h base e (.dz z n ps)=some (.val (.slice (some ⟨h.next,0,none⟩) n n) (h.push (.cells cs true m))):=by simp only[aop,a,b]
variable{sz:Nat}{own:Bool}
theorem dV{b o:Nat}(c:ev h e x=some (.pointer (some ⟨b,o,none⟩)))(hb:h.get b=some (.cells vs own sz))(a:bN vs o=some v):aop h base e (.load none x)=some (.val v h):=by
 simp only[aop,c,cT,qB,hb,a]
theorem bV{n b o:Nat}{l:List Value}(d:ev h e x=some (.pointer (some ⟨b,o,none⟩)))(hb:h.get b=some (.cells vs own sz))(c:bO n (bK o vs)=l)(a:Nat.beq (bM l) n=true):
 aop h base e (.load (some n) x)=some (.val (.agg l.toArray) h):=by
 simp only[aop,d,cT,qB,hb,c,a,cond_true]
variable{y:Operand}
theorem je{n b o:Nat}{ws:List Value}(d:ev h e x=some (.pointer (some ⟨b,o,none⟩)))(f:ev h e y=some v)(hb:h.get b=some (.cells vs true sz))
 (a:(Nat.beq (bM (cellsOf v)) n&&Nat.ble (o+n) (bM vs)&&eG (cellsOf v))=true)(c:dy vs o (cellsOf v)=ws):aop h base e (.store n x y)=some (.val (.tuple #[]) (h.wr base b (.cells ws true sz))):=by
 simp only[aop,d,f,cT,tM,hb,a,c,cond_true]
theorem Av{op:BinOp}{a b:Value}(d:ev h e x=some a)(f:ev h e y=some b)(c:af op a b=some v):aop h base e (.bin (.num op) x y)=some (.val v h):=by simp only[aop,d,f,cT,c]
theorem V7{c:Bool}{a b:Bool}(d:ev h e x=some (.bool a))(f:ev h e y=some (.bool b)):aop h base e (.bin (.beq c) x y)=some (.val (.bool (bif c then !(a==b)else a==b)) h):=by simp only[aop,d,f]
variable{u:Value}
theorem KV{k:NK}{a b:Bool}(d:ev h e x=some v)(f:ev h e y=some u)(c:qT k v u=some b):aop h base e (.bin (.nil k a) x y)=some (.val (.bool (bif a then !b else b)) h):=by simp only[aop,d,f,cT,c]
theorem V6{a b:Bool}{c:List eN}{xs d:Array Value}(g:ev h e x=some (.agg xs))(i:ev h e y=some (.agg d))(f:bJ c xs.toList d.toList=some b):aop h base e (.bin (.agg a c) x y)=some (.val (.bool (bif a then !b else b)) h):=by
 simp only[aop,g,i,cT,f]
theorem KW{b:Bool}(a:ev h e x=some (.bool b)):aop h base e (.un .not x)=some (.val (.bool !b) h):=by simp only[aop,a,cT,uW]
theorem ez{off b o:Nat}(a:ev h e x=some (.pointer (some ⟨b,o,none⟩))):aop h base e (.dg off x)=some (.val (.pointer (some ⟨b,o+off,none⟩)) h):=by simp only[aop,a]
variable{i size:Nat}{k:IntKind}
theorem jA{b o len cap:Nat}(c:ev h e x=some (.slice (some ⟨b,o,none⟩) len cap))(a:ev h e y=some (.int k (i:Nat)))(hi:i<len):aop h base e (.aD size x y)=some (.val (.pointer (some ⟨b,o+i*size,none⟩)) h):=by
 have:(.int k (i:Nat):Value)= .int k (Int.ofNat i):=rfl;rw[this]at a;simp only[aop,c,a,blt_eq,decide_eq_true hi,cond_true]
theorem vj{vs:Array Value}(b:ev h e x=some (.tuple vs))(a:bN vs.toList i=some v):aop h base e (.extract x i)=some (.val v h):=by simp only[aop,b,cT,a]
theorem vk{a:Option Addr}{n c:Nat}(b:ev h e x=some (.slice a n c)):aop h base e (.len 1 x)=some (.val (.int .i64 n) h):=by simp only[aop,b]
variable{fn:Fn}
theorem KU{fs cs:List Operand}{as bs:List Value}(h1:evs h e fs=some as)(a:evs h e cs=some bs):aop h base e (.fh fn fs cs)=some (.val (.func fn as.toArray bs.toArray) h):=by simp only[aop,h1,a]
theorem tZ{b o:Nat}(a:ev h e x=some (.pointer (some ⟨b,o,none⟩))):aop h base e (.cM x)=some (.val (.pointer (some ⟨b,o,none⟩)) h):=by simp only[aop,a,cT]
variable{g:Nat}{first:Array Value}
theorem sS{f:Operand}{args:List Operand}{a:Value}{as:List Value}{cap:Array Value}{all:List Value}(c:ev h e f=some a)(b:evs h e args=some as)(i:a= .func (.func g) first cap)(d:ek first.toList (ek as cap.toList)=all):
 aop h base e (.call f args)=some (.call (.func g) all h):=by subst i;simp only[aop,c,b,qp,d]
theorem aU{n:Int}(h1: -9223372036854775808<=n)(a:n<9223372036854775808):fZ .i64 n=n:=by
 rw[u6,IntKind.wrap_i64];omega
variable{a:Int}
theorem Ty{b:Int}:af .lss (.int k a) (.int k b)=some (.bool (decide (a<b))):=by simp[af,arith,nI]
theorem Tx{b:Int}:af .leq (.int k a) (.int k b)=some (.bool (decide (a<=b))):=by simp[af,arith,nI]
theorem MY{b:Int}:af .gtr (.int k a) (.int k b)=some (.bool (decide (b<a))):=by simp[af,arith,nI]
theorem y6{b:Int}:af .geq (.int k a) (.int k b)=some (.bool (decide (b<=a))):=by simp[af,arith,nI]
theorem MX{b:Int}:af .eql (.int k a) (.int k b)=some (.bool (a==b)):=by simp[af,arith,nI]
theorem Ie{b:Int}:af .neq (.int k a) (.int k b)=some (.bool (a !=b)):=by simp[af,arith,nI]
theorem gI{b c:Int}(d:fZ k (a+b)=c):af .add (.int k a) (.int k b)=some (.int k c):=by simp[af,arith,d]
theorem kg{b c:Int}(d:fZ k (a-b)=c):af .sub (.int k a) (.int k b)=some (.int k c):=by simp[af,arith,d]
theorem XX{n:Nat}(a:n<9223372036854775807):af .add (.int .i64 n) (.int .i64 1)=some (.int .i64 (n+1:Nat)):=gI (by rw[aU]<;>omega)
theorem TL{l m:List (Nat×bR)}(a:l.map (·.1)=m.map (·.1))(c:(m.map (·.1)).Nodup)(h:∀b,b∈m.map (·.1)->fK l b=fK m b):l=m:=by
 induction m generalizing l with
 |nil=>simpa using a
 |cons p m ih=>
  obtain⟨k,o⟩:=p;cases l with
  |nil=>simp at a
  |cons q l=>
   obtain⟨i,s⟩:=q;simp only[wp,List.cons.injEq]at a;obtain⟨j,n⟩:=a;subst j;simp only[wp,Pi]at c;have f:=h i (by simp);simp only[fK,cond_eq_ite,beq_eq,decide_true,if_true]at f;cases f;congr 1;refine ih n c.2 λb g=> ?_;have r:=h b (by simp[g]);have d:i≠b:=λe=>c.1 (e▸g);simpa only[fK,cond_eq_ite,beq_eq,decide_eq_true_eq,if_neg d]using r
structure WF (h:Heap):Prop where
 nodup:(h.cI.map (·.1)).Nodup
 lt:∀b,b∈h.cI.map (·.1)->b<h.next
theorem sV{a n b:Nat}:b∈dB a n↔a<=b/\b<a+n:=by
 induction n with
 |zero=>simp[dB]
 |succ n ih=>simp[dB,ih];omega
theorem BM(a n:Nat):(dB a n).Nodup:=by
 induction n with
 |zero=>simp[dB]
 |succ n ih=>simp only[dB,Pi,sV];exact⟨by omega,ih⟩
variable{h':Heap}
theorem WF.as(e:WF h)(d:AS base h h'):WF h' where
 nodup:=by
  rw[d.keys,WB];refine⟨BM _ _,e.nodup,λa f b c=> ?_⟩;rw[sV]at f;have:=e.lt b c;omega
 lt:=λb c=>by
  rw[d.keys,S4]at c;have:=d.next
  rcases c with c|c
  ·rw[sV]at c;omega
  ·have:=e.lt b c;omega
theorem WF.log(a:WF h)(l:List Nat):WF {h with log:=l}:=⟨a.nodup,a.lt⟩
theorem WF.push{h:Heap}(a:WF h)(o:bR):WF (h.push o):=a.as (AS.push 0 h o)
structure Ext (h h':Heap):Prop where
 next:h.next<=h'.next
 log:h'.log=h.log
 old:∀b,b<h.next->h'.get b=h.get b
 wf:WF h->WF h'
theorem Ext.refl(h:Heap):Ext h h:=⟨bl _,rfl,λ_ _=>rfl,id⟩
theorem Ext.trans{a b c:Heap}(h:Ext a b)(g:Ext b c):Ext a c:=⟨ed h.next g.next,g.log.trans h.log,λx d=>(g.old x (kz d h.next)).trans (h.old x d),λw=>g.wf (h.wf w)⟩
theorem Ext.push{a b:Heap}(h:Ext a b)(o:bR):Ext a (b.push o):=⟨EQ h.next,h.log,λx c=>(Heap.fC (kz c h.next)).trans (h.old x c),λw=>(h.wf w).push o⟩
theorem Ext.wr{a b:Heap}(h:Ext a b){base x:Nat}{o:bR}(d:a.next<=x)(hb:base<=x):Ext a (b.wr base x o):=⟨h.next,(Heap.au hb).trans h.log,λy c=>(Heap.eZ (by omega)).trans (h.old y c),λw=>(h.wf w).as (AS.wr base b x o)⟩
theorem Jd{l:List (Nat×bR)}{b:Nat}(hb:b ∉ l.map (·.1)):fK l b=none:=by
 induction l with
 |nil=>rfl
 |cons p l ih=>
  obtain⟨k,o⟩:=p;simp only[wp,CS,not_or]at hb;simp only[fK,cond_eq_ite,beq_eq,decide_eq_true_eq];rw[if_neg (Ne.symm hb.1)];exact ih hb.2
variable{h1:Heap}
theorem BR(l:WF h)(i:AS h.next h h1)(j:h1.log=h.log)(f:h.log=[])(q:cO v=true):gcA h h1 v=h:=by
 have d:=i.keys;have e:bK (h1.next-h.next) h1.cI=h.cI:=by
  rw[aR];have k:(dB h.next (h1.next-h.next)).length=h1.next-h.next:=by
   generalize h1.next-h.next=n
   induction n with
   |zero=>rfl
   |succ n ih=>simp[dB,ih]
  have o:(h1.cI.drop (h1.next-h.next)).map (·.1)=h.cI.map (·.1):=by
   rw[List.map_drop,d,FX (by omega),wc (by omega),HO]
  refine TL o l.nodup λb m=> ?_;have c:=l.lt b m;have p:=i.same b c c (by rw[j,f];rfl);have a:h1.cI=h1.cI.take (h1.next-h.next)++h1.cI.drop (h1.next-h.next):=(xC _ _).symm;have g:(h1.cI.take (h1.next-h.next)).map (·.1)=dB h.next (h1.next-h.next):=by
   rw[List.map_take,d,hX (by omega),dn (by omega)]
  have:=mA _ h.next _ (h1.cI.drop (h1.next-h.next)) g b c
  rw[←a]at this;exact this.symm.trans p
 simp only[gcA,q,j,f,gj,AC,cond_true,pT,e];cases h;simp at f⊢;exact f
structure Rdy (h:Heap):Prop where
 wf:WF h
 log:h.log=[]
def Pu(T:Nat->Option an)(f:Nat)(args:List Value)(h:Heap)(v:Value):Prop:=CW T f args h λr h'=>r= .ret v/\h'=h
structure T2 (rs:List (Nat×Option (Option Nat))) (v0:Value) (x:bE) (e:Env) (ds:Dfs) (h1:Heap):Prop where
 ok:(x= .normal∨x= .ret)/\ds=[]/\h1.log=[]/\∃vs,bZ h1 e rs=some vs/\eT vs=v0
variable{rs:List (Nat×Option (Option Nat))}
theorem ah{a:Value}(b:h.log=[])(hr:bZ h e rs=some vs)(c:eT vs=a):T2 rs a .ret e [] h:=⟨⟨.inr rfl,rfl,b,vs,hr,c⟩⟩
variable{f:Nat}{args:List Value}
theorem Pu.of(n:aM T){c:aT}{b:Value}(k:T f=some (.code c rs))(hr:Rdy h)(o:cO b=true)(H:WE T h.next none c (T2 rs b) (ej 0 args) [] h):Pu T f args h b:=by
 obtain⟨x,e,ds,i,⟨m,g⟩,⟨p,rfl,l,q,a,rfl⟩⟩:=H.ok;have j:=(fA.all n m).exec _ _ _ _ _ _ _ _ _ _ (g m (bl _)) (bl _);refine CW.code k ⟨x,e,[],i,⟨m,g⟩,?_⟩;unfold xX;have d:=BR hr.wf j (l.trans hr.log.symm) hr.log o;rcases p with rfl|rfl
 ·simp only[a,d];exact⟨trivial,trivial⟩
 ·simp only[a,d];exact⟨trivial,trivial⟩
variable{dst:Option Nat}
theorem FW.pu{K:Env->Dfs->Heap->Prop}(H:Pu T f args {h with log:=[]} v)(a:K (cC e dst v) ds h):FW T (.func f) args {h with log:=[]} (KO K Q base dst e ds h.log):=by
 refine .func (CW.mono H ?_);rintro r b ⟨rfl,rfl⟩;exact⟨a⟩
theorem Rdy.of(a:WF h):Rdy {h with log:=[]}:=⟨a.log [],rfl⟩
variable{mask:Nat}
theorem FW.puD{K:List Rec->Env->Heap->Prop}{rs a:List Rec}(H:Pu T f args {h with log:=[]} v)(b:bQ h base [] mask rs=some a)(c:K a (cC e dst v) h):
 FW T (.func f) args {h with log:=[]} (KD K base mask rs dst e h.log):=by
 refine .func (CW.mono H ?_);rintro r d ⟨rfl,rfl⟩;refine⟨?_⟩;show(match bQ {h with log:=aH base h.log []} base [] mask rs with
  |some a=>K a (cC e dst v) {h with log:=aH base h.log []}
  |none=>False)
 have:({h with log:=aH base h.log []}:Heap)=h:=rfl;rw[this,b];exact c
structure tX (h:Heap) (b o n sz:Nat) (cs:List Value):Prop where
 lt:b<h.next
 obj:∃vs own s,h.get b=some (.cells vs own s)/\bO (n*sz) (bK o vs)=cs
 len:cs.length=n*sz
inductive aK (h:Heap) (sz:Nat):Value->Nat->List Value->Prop
 |nil {c}:aK h sz (.slice none 0 c) 0 []
 |mem {b o n cap cs}:tX h b o n sz cs->n<=cap->aK h sz (.slice (some ⟨b,o,none⟩) n cap) n cs
theorem tX.ext{b o n:Nat}{cs:List Value}(s:tX h b o n sz cs)(x:Ext h h'):tX h' b o n sz cs:=by
 obtain⟨e,a,t,c,d⟩:=s.obj;exact⟨kz s.lt x.next,⟨e,a,t,(x.old _ s.lt).trans c,d⟩,s.len⟩
theorem aK.ext{h h':Heap}{sz n:Nat}{v:Value}{cs:List Value}(s:aK h sz v n cs)(x:Ext h h'):aK h' sz v n cs:=by
 cases s with
 |nil=>exact .nil
 |mem s hc=>exact .mem (s.ext x) hc
theorem aK.form{n:Nat}{cs:List Value}(s:aK h sz v n cs):∃a c,v= .slice a n c:=by
 cases s<;>exact⟨_,_,rfl⟩
theorem aK.log{n:Nat}{cs:List Value}(s:aK h sz v n cs)(l:List Nat):aK {h with log:=l} sz v n cs:=by
 cases s with
 |nil=>exact .nil
 |mem s hc=>exact .mem ⟨s.lt,s.obj,s.len⟩ hc
theorem aK.inv{n:Nat}{cs:List Value}(s:aK h sz v n cs):(∃c,v= .slice none 0 c/\n=0/\cs=[])∨∃b o cap,v= .slice (some ⟨b,o,none⟩) n cap/\tX h b o n sz cs/\n<=cap:=by
 cases s with
 |nil=>exact .inl ⟨_,rfl,rfl,rfl⟩
 |mem s hc=>exact .inr ⟨_,_,_,rfl,s,hc⟩
theorem mO{b:Int}(h:b<=a):af .geq (.int k a) (.int k b)=some (.bool true):=by rw[y6,decide_eq_true h]
theorem pz{b:Int}(h:a<b):af .geq (.int k a) (.int k b)=some (.bool false):=by rw[y6,decide_eq_false (by omega)]
theorem eE{b:Int}(h:a<=b):af .leq (.int k a) (.int k b)=some (.bool true):=by rw[Tx,decide_eq_true h]
theorem ew{b:Int}(h:b<a):af .leq (.int k a) (.int k b)=some (.bool false):=by rw[Tx,decide_eq_false (by omega)]
theorem cH{b:Int}(h:a<b):af .lss (.int k a) (.int k b)=some (.bool true):=by rw[Ty,decide_eq_true h]
theorem cS{b:Int}(h:b<=a):af .lss (.int k a) (.int k b)=some (.bool false):=by rw[Ty,decide_eq_false (by omega)]
theorem dY{b:Int}(h:b<a):af .gtr (.int k a) (.int k b)=some (.bool true):=by rw[MY,decide_eq_true h]
theorem fu{b:Int}(h:a<=b):af .gtr (.int k a) (.int k b)=some (.bool false):=by rw[MY,decide_eq_false (by omega)]
theorem qD{b:Int}(h:a=b):af .eql (.int k a) (.int k b)=some (.bool true):=by rw[MX];simp[h]
theorem j9{b:Int}(h:a≠b):af .eql (.int k a) (.int k b)=some (.bool false):=by rw[MX];simp[h]
theorem jr{b:Int}(h:a≠b):af .neq (.int k a) (.int k b)=some (.bool true):=by rw[Ie];simp[h]
theorem qE{b:Int}(h:a=b):af .neq (.int k a) (.int k b)=some (.bool false):=by rw[Ie];simp[h]
def Al(T:Nat->Option an)(f:Nat)(args:List Value)(h:Heap)(Q:Value->Heap->Prop):Prop:=CW T f args h λr h'=>Ext h h'∧∃v,r= .ret v/\Q v h'
structure Xx (rs:List (Nat×Option (Option Nat))) (Q:Value->Heap->Prop) (x:bE) (e:Env) (ds:Dfs) (h1:Heap):Prop where
 ok:(x= .normal∨x= .ret)/\ds=[]/\h1.log=[]/\∃vs,bZ h1 e rs=some vs/\Q (eT vs) h1
theorem dN{Q:Value->Heap->Prop}(a:h.log=[])(hr:bZ h e rs=some vs)(b:Q (eT vs) h):Xx rs Q .ret e [] h:=⟨⟨.inr rfl,rfl,a,vs,hr,b⟩⟩
theorem Ext.nk(hr:Rdy h)(a:AS h.next h h1)(d:h1.log=[]):Ext h h1:=
 ⟨a.next,d.trans hr.log.symm,λb c=>a.same b c c (by rw[d];rfl),λw=>w.as a⟩
theorem Al.of(p:aM T){c:aT}{Q:Value->Heap->Prop}(o:T f=some (.code c rs))(hr:Rdy h)(n:∀v b,cO v=true->Q v b->Q v h)(H:WE T h.next none c (Xx rs Q) (ej 0 args) [] h):Al T f args h Q:=by
 obtain⟨x,e,ds,b,⟨m,k⟩,⟨q,rfl,j,g,d,l⟩⟩:=H.ok;have i:=(fA.all p m).exec _ _ _ _ _ _ _ _ _ _ (k m (bl _)) (bl _);refine CW.code o ⟨x,e,[],b,⟨m,k⟩,?_⟩;have a:Ext h (gcA h b (eT g))/\Q (eT g) (gcA h b (eT g)):=by
  cases hv:cO (eT g)with
  |true=>
   rw[BR hr.wf i (j.trans hr.log.symm) hr.log hv];exact⟨.refl _,n _ _ hv l⟩
  |false=>
   have:gcA h b (eT g)=b:=by simp[gcA,hv]
   rw[this];exact⟨.nk hr i j,l⟩
 unfold xX;rcases q with rfl|rfl
 ·simp only[d];exact⟨a.1,_,rfl,a.2⟩
 ·simp only[d];exact⟨a.1,_,rfl,a.2⟩
theorem Ext.MT(x:Ext {h with log:=[]} h'):Ext h {h' with log:=aH base h.log h'.log}:=by
 have:h'.log=[]:=x.log;refine⟨x.next,by rw[this];rfl,x.old,λw=>(x.wf (w.log [])).log _⟩
theorem FW.al{b:Value->Heap->Prop}{K:Env->Dfs->Heap->Prop}(H:Al T f args {h with log:=[]} b)(a:∀v (h':Heap) l,b v h'→b v {h' with log:=l})
 (c:∀v h',Ext h h'→b v h'→K (cC e dst v) ds h'):FW T (.func f) args {h with log:=[]} (KO K Q base dst e ds h.log):=by
 refine .func (CW.mono H ?_);rintro r h' ⟨g,v,rfl,d⟩;exact⟨c v _ g.MT (a v h' _ d)⟩
theorem FW.alD{c:Value->Heap->Prop}{K:List Rec->Env->Heap->Prop}{rs:List Rec}(H:Al T f args {h with log:=[]} c)(b:∀v (h':Heap) l,c v h'→c v {h' with log:=l})
 (j:∀v h',Ext h h'→c v h'→∃a,bQ h' base [] mask rs=some a∧K a (cC e dst v) h'):FW T (.func f) args {h with log:=[]} (KD K base mask rs dst e h.log):=by
 refine .func (CW.mono H ?_);rintro r h' ⟨i,v,rfl,m⟩;refine⟨?_⟩;obtain⟨a,d,g⟩:=j v _ (i.MT (base:=base)) (b v h' _ m);show(match bQ {h' with log:=aH base h.log h'.log} base h'.log mask rs with
  |some a=>K a (cC e dst v) {h' with log:=aH base h.log h'.log}
  |none=>False)
 have k:h'.log=[]:=i.log;rw[k]at d g⊢;rw[d];exact g
theorem CH:bZ h e []=some []:=rfl
variable{t:Nat}
theorem rB(a:geT e t=some v)(hr:bZ h e rs=some vs):bZ h e ((t,none)::rs)=some (v::vs):=by simp only[bZ,a,hr]
variable{s:Nat}
theorem bS{n b o:Nat}{ws l:List Value}(d:geT e t=some (.pointer (some ⟨b,o,none⟩)))(hb:h.get b=some (.cells ws own s))(a:bO n (bK o ws)=l)(c:Nat.beq (bM l) n=true)(hr:bZ h e rs=some vs):
 bZ h e ((t,some (some n))::rs)=some (.agg l.toArray::vs):=by simp only[bZ,d,qB,hb,a,c,cond_true,hr]
theorem rA{b o:Nat}{ws:List Value}(c:geT e t=some (.pointer (some ⟨b,o,none⟩)))(hb:h.get b=some (.cells ws own s))(a:bN ws o=some v)(hr:bZ h e rs=some vs):
 bZ h e ((t,some none)::rs)=some (v::vs):=by simp only[bZ,c,qB,hb,a,hr]
theorem aQ{log:List Nat}:bQ h base log mask []=some []:=rfl
variable{r:Rec}
theorem RT{log:List Nat}{rs a:List Rec}(hb:Nat.testBit mask r.i=true)(H:bQ h base log mask rs=some a):bQ h base log mask (r::rs)=some a:=by
 simp only[bQ,hb,cond_true,H]
theorem RU{log:List Nat}{rs a:List Rec}(hb:Nat.testBit mask r.i=false)(c:tD h base r=true)(b:JX log r=true)(H:bQ h base log mask rs=some a):bQ h base log mask (r::rs)=some (r::a):=by
 simp only[bQ,hb,c,b,AC,cond_true,cond_false,H]
theorem xb{b:Nat}(a:r.k= .made b):tD h base r=true:=by simp only[tD,a]
theorem aq(b:r.k= .quiet)(d:aop h base r.e r.o.op=some (.val r.v h))(c:jb r.v r.v=true):tD h base r=true:=by
 have a:Nat.beq h.next h.next=true:=by rw[beq_eq];simp
 simp only[tD,b,d,c,a,SW]
theorem rD:oH h base []=true:=rfl
theorem cm{rs:List Rec}(h1:tD h base r=true)(a:oH h base rs=true):oH h base (r::rs)=true:=by simp only[oH,h1,cond_true,a]
theorem di(a:Option Addr):jb (.pointer a) (.pointer a)=true:=by simp[jb,kH]
theorem dD(k:IntKind)(n:Int):jb (.int k n) (.int k n)=true:=by simp[jb,kH]
theorem IG(b:Bool):jb (.bool b) (.bool b)=true:=by simp[jb,kH]
theorem dG(a:Option Addr)(n c:Nat):jb (.slice a n c) (.slice a n c)=true:=by simp[jb,kH]
theorem jQ{c:Array Value}(h:kI c.toList c.toList=true):jb (.agg c) (.agg c)=true:=h
theorem rI:kI [] []=true:=rfl
theorem cu{l:List Value}(h1:kH v v=true)(a:kI l l=true):kI (v::l) (v::l)=true:=by simp only[kI,h1,cond_true,a]
theorem iq(a:Option Addr):kH (.pointer a) (.pointer a)=true:=by simp[kH]
theorem eW(k:IntKind)(n:Int):kH (.int k n) (.int k n)=true:=by simp[kH]
theorem gw{b o n c:Nat}{cs:List Value}(hb:h.get b=some (.cells vs own s))(a:bO (n*size) (bK o vs)=cs)(d:cs.length=n*size):cN h size (.slice (some ⟨b,o,none⟩) n c)=some (cs,n):=by
 simp only[cN,hb,a,cA,d,beq_eq,decide_true,cond_true]
theorem CV{n:Nat}{cs:List Value}(s:aK h size v n cs):cN h size v=some (cs,n):=by
 cases s with
 |nil=>rfl
 |mem s _=>
  obtain⟨d,c,t,a,b⟩:=s.obj;exact gw a b s.len
theorem vh{a n c:Nat}{cs:List Value}(j:ev h e x=some (.slice none 0 0))(k:ev h e y=some v)(i:cN h size v=some (cs,n))(g:n≠0)(hb:(2*(0+n)+768)*a<=281474976710656)(f:c=UNK):
 aop h base e (.append size a x y)=some (.val (.slice (some ⟨h.next,0,none⟩) n c) (h.push (.cells cs true size))):=by
 have b:Nat.beq n 0=false:=by rw[beq_eq];simpa using g
 have d:Nat.ble ((2*(0+n)+768)*a) 281474976710656=true:=by rw[ble_eq];simpa using hb
 subst f;simp only[aop,j,k,i,jH,b,d,cond_true,cond_false,Nat.beq,SW,fS]
theorem mF{a len n q:Nat}{cs ws:List Value}(r:ev h e x=some (.slice (some ⟨q,0,none⟩) len UNK))(s:ev h e y=some v)(o:cN h size v=some (cs,n))(d:n≠0)(m:h.get q=some (.cells vs true size))(c:vs.length=len*size)
 (b:0<size)(h1:eG cs=true)(hb:(2*(len+n)+768)*a<=281474976710656)(p:ek vs cs=ws):
 aop h base e (.append size a x y)=some (.val (.slice (some ⟨h.next,0,none⟩) (len+n) UNK) ((h.wr base q .dead).push (.cells ws true size))):=by
 have f:Nat.beq n 0=false:=by rw[beq_eq];simpa using d
 have g:Nat.ble ((2*(len+n)+768)*a) 281474976710656=true:=by rw[ble_eq];simpa using hb
 have i:Nat.beq UNK UNK=true:=by rw[beq_eq];simp
 have j:Nat.beq size size=true:=by rw[beq_eq];simp
 have k:Nat.ble (0+(len+n)*size) (bM vs)=false:=by
  rw[ble_eq,cA,c,Do];have:0<n*size:=Nat.mul_pos (A3 d) b;simp;omega
 have l:Nat.beq (len*size) (bM vs)=true:=by rw[beq_eq,cA,c];simp
 simp only[aop,r,s,o,jH,f,g,m,i,j,k,l,h1,AC,A1,cond_true,cond_false,p,fS,Nat.beq]
theorem sP{a len n q o c:Nat}{cs ws:List Value}(r:ev h e x=some (.slice (some ⟨q,o,none⟩) len c))(t:ev h e y=some v)(m:cN h size v=some (cs,n))(k:n≠0)(u:c<len+n)(w:c<UNK)
 (l:h.get q=some (.cells vs own s))(j:o+len*size<=vs.length)(hb:(2*(len+n)+768)*a<=281474976710656)(p:ek (bO (len*size) (bK o vs)) cs=ws):
 aop h base e (.append size a x y)=some (.val (.slice (some ⟨h.next,0,none⟩) (len+n) UNK) (h.push (.cells ws true size))):=by
 have b:Nat.beq n 0=false:=by rw[beq_eq];simpa using k
 have d:Nat.ble ((2*(len+n)+768)*a) 281474976710656=true:=by rw[ble_eq];simpa using hb
 have f:Nat.beq c UNK=false:=by rw[beq_eq];simp;omega
 have g:Nat.ble (len+n) c=false:=by rw[ble_eq];simp;omega
 have i:Nat.ble (o+len*size) (bM vs)=true:=by rw[ble_eq,cA];simpa using j
 simp only[aop,r,t,m,jH,b,d,l,f,g,i,cond_true,cond_false,p,fS]
theorem sQ{b len c:Nat}{a:Option Addr}(i:ev h e x=some (.slice a len c))(j:ev h e y=some v)(g:cN h size v=some ([],0))(f:len<=c):aop h base e (.append size b x y)=some (.val (.slice a len c) h):=by
 have d:Nat.ble len c=true:=by rw[ble_eq];simpa using f
 simp only[aop,i,j,g,jH,d,cond_true,Nat.beq,fS]
variable{ops:List aZ}{bf is:List Nat}{op:AOp}
theorem nD{rs a:List Rec}{Q:Env->Heap->Prop}{g:Option (Nat×Bool)}{c:Env}{b d:Heap}{m:List Nat}(ho:bN ops i=some ⟨dst,op,g⟩)(o:bN bf i=some mask)
 (n:bU e (dh ⟨dst,op,g⟩)=c)(q:bL c g=some true)(p:jM op=false)(k:aop {h with log:=[]} h.next c op=some (.val v b))(f:({b with log:=aH base h.log b.log}:Heap)=d)(j:b.log=m)
 (l:bQ d base m mask rs=some a)(H:WD T base ops bf Q is a (cC e dst v) d):WD T base ops bf Q (i::is) rs e h:=by
 subst f;subst j;exact VE ho o n q p k l H
theorem QU(o:bR):(({h with log:=[]}:Heap).push o).log=[]:=rfl
theorem uD{b:Nat}(hb:b<h.next)(o:bR):(({h with log:=[]}:Heap).wr h.next b o).log=[b]:=by
 simp[Heap.wr,blt_eq,hb,fP]
theorem Qr(o:bR):({({h with log:=[]}:Heap).push o with log:=aH base h.log (({h with log:=[]}:Heap).push o).log}:Heap)=h.push o:=rfl
theorem HS{b:Nat}(hb:b<h.next)(c:base<=b)(o:bR):({({h with log:=[]}:Heap).wr h.next b o with log:=aH base h.log (({h with log:=[]}:Heap).wr h.next b o).log}:Heap)=h.wr base b o:=by
 rw[uD hb];have a:Nat.blt b base=false:=by rw[blt_eq];simp;omega
 simp only[Heap.wr,aH,a,cond_false]
theorem jG{rs c:List Rec}{Q:Env->Heap->Prop}{n b o:Nat}{ws:List Value}{g:Option (Nat×Bool)}{d:Env}(ho:bN ops i=some ⟨dst, .store n x y,g⟩)(p:bN bf i=some mask)
 (m:bU e (dh ⟨dst, .store n x y,g⟩)=d)(q:bL d g=some true)(r:ev {h with log:=[]} d x=some (.pointer (some ⟨b,o,none⟩)))(s:ev {h with log:=[]} d y=some v)(hb:h.get b=some (.cells vs true sz))
 (l:(Nat.beq (bM (cellsOf v)) n&&Nat.ble (o+n) (bM vs)&&eG (cellsOf v))=true)(k:dy vs o (cellsOf v)=ws)(a:b<h.next)(f:base<=b)(j:bQ (h.wr base b (.cells ws true sz)) base [b] mask rs=some c)
 (H:WD T base ops bf Q is c (cC e dst (.tuple #[])) (h.wr base b (.cells ws true sz))):WD T base ops bf Q (i::is) rs e h:=
 nD ho p m q rfl (je (h:={h with log:=[]}) r s hb l k) (HS a f _) (uD a _) j H
theorem Ad{rs b:List Rec}{Q:Env->Heap->Prop}{g:Option (Nat×Bool)}{c:Env}{a n:Nat}{cs:List Value}
 (ho:bN ops i=some ⟨dst, .append size a x y,g⟩)(k:bN bf i=some mask)(j:bU e (dh ⟨dst, .append size a x y,g⟩)=c)(f:bL c g=some true)
 (o:ev {h with log:=[]} c x=some (.slice none 0 0))(p:ev {h with log:=[]} c y=some v)(m:cN {h with log:=[]} size v=some (cs,n))(l:n≠0)(hb:(2*(0+n)+768)*a<=281474976710656)
 (d:bQ (h.push (.cells cs true size)) base [] mask rs=some b)(H:WD T base ops bf Q is b (cC e dst (.slice (some ⟨h.next,0,none⟩) n UNK)) (h.push (.cells cs true size))):WD T base ops bf Q (i::is) rs e h:=
 nD ho k j f rfl (vh (h:={h with log:=[]}) o p m l hb rfl) (Qr _) (QU _) d H
theorem Heap.Ei{o:bR}{x:Nat}(h1:x<=h.next)(a:h.next<=x):(h.push o).get x=some o:=by rw[Heap.dJ,if_pos (Nat.le_antisymm h1 a)]
theorem Heap.Je{b:Nat}{o:bR}{x:Nat}(h1:x<=b)(a:b<=x):(h.wr base b o).get x=(h.get x).map λ_=>o:=by rw[Heap.mL,if_pos (Nat.le_antisymm h1 a),Nat.le_antisymm h1 a]
theorem aC{log:List Nat}{o:aZ}{k:Rk}{rs a:List Rec}(hb:Nat.testBit mask i=true)(H:bQ h base log mask rs=some a):bQ h base log mask (⟨i,o,e,v,k⟩::rs)=some a:=RT hb H
theorem aG{log:List Nat}{o:aZ}{k:Rk}{rs a:List Rec}(hb:Nat.testBit mask i=false)(c:tD h base ⟨i,o,e,v,k⟩=true)(b:JX log ⟨i,o,e,v,k⟩=true)(H:bQ h base log mask rs=some a):
 bQ h base log mask (⟨i,o,e,v,k⟩::rs)=some (⟨i,o,e,v,k⟩::a):=RU hb c b H
theorem xe{n:Nat}{cs:List Value}{l:List Nat}(a:cN h size v=some (cs,n)):cN {h with log:=l} size v=some (cs,n):=by
 have:cN {h with log:=l} size v=cN h size v:=by unfold cN;rfl
 rw[this];exact a
variable{d:Nat}
theorem qf{n:Nat}(a:ev h e x=some (.int k (n:Nat))):bnd h e d (some x)=some n:=by
 have:(.int k (n:Nat):Value)= .int k (Int.ofNat n):=rfl;rw[this]at a;simp only[bnd,a,pY]
theorem qe:bnd h e d none=some d:=rfl
theorem rX(n:Nat):Nat.beq n n=true:=by rw[beq_eq];simp
theorem gh{a b:Nat}(h:a<=b):Nat.ble a b=true:=by rw[ble_eq];simpa using h
theorem gJ{a b:Nat}(h:a<b):Nat.blt a b=true:=by rw[blt_eq];simpa using h
theorem qR{a b:Nat}(h:¬a<b):Nat.blt a b=false:=by rw[blt_eq];simpa using h
theorem uH{a b:Nat}(h:a≠b):Nat.beq a b=false:=by rw[beq_eq];simpa using h
theorem sU{b o n:Nat}(c:ev h e x=some (.slice (some ⟨b,o,none⟩) n UNK))(d:ev h e y=some (.int k (i:Nat)))(hb:h.get b=some (.cells vs own size))(hi:i<=n)(a:0<n):
 aop h base e (.slice (.sl size) x none (some y) none)=some (.val (.slice (some ⟨b,o,none⟩) i UNK) h):=by
 simp only[aop,c,ia,qf d,qe,hb,rX,gh (gK _),gh hi,gJ a,So,AC,cond_true,fS,J0,Sx,Nat.sub_zero]
theorem oQ{b o n:Nat}(a:ev h e x=some (.slice (some ⟨b,o,none⟩) n UNK))(c:ev h e y=some (.int k (i:Nat)))(hb:h.get b=some (.cells vs own size))(hi:i<n):
 aop h base e (.slice (.sl size) x (some y) none none)=some (.val (.slice (some ⟨b,o+i*size,none⟩) (n-i) UNK) h):=by
 simp only[aop,a,ia,qf c,qe,hb,rX,gh (Nat.le_of_lt hi),gh (bl n),gJ hi,So,AC,cond_true,fS]
theorem DA{b o n:Nat}(c:ev h e x=some (.slice (some ⟨b,o,none⟩) n UNK))(d:ev h e y=some (.int k (n:Nat)))(hb:h.get b=some (.cells vs own size))(a:n≠0):
 aop h base e (.slice (.sl size) x (some y) none none)=some (.val (.slice (some ⟨h.next,0,none⟩) 0 UNK) (h.push (.cells [] false size))):=by
 simp only[aop,c,ia,qf d,qe,hb,rX,gh (bl n),qR (ui n),uH a,Bool.or_self,So,AC,cond_true,cond_false,fS]
theorem Hx{ws:List Value}{b o n c:Nat}(i:ev h e x=some (.slice (some ⟨b,o,none⟩) n c))(f:n≠0)(hb:h.get b=some (.cells vs true sz))(d:o+(eS n z).length<=vs.length)(h1:eG (eS n z)=true)(g:dy vs o (eS n z)=ws):
 aop h base e (.clear z x)=some (.val (.tuple #[]) (h.wr base b (.cells ws true sz))):=by
 have a:Nat.ble (o+bM (eS n z)) (bM vs)=true:=by rw[cA,cA];exact gh d
 simp only[aop,i,uH f,hb,a,h1,AC,cond_true,cond_false,g]
theorem LY{b:Nat}(hb:b<h.next)(o:bR):({({h with log:=[]}:Heap).wr h.next b o with log:=aH base h.log (({h with log:=[]}:Heap).wr h.next b o).log}:Heap)=h.wr base b o:=by
 rw[uD hb];rfl
variable{α:Type}
theorem fQ{l m:List α}{o:Nat}(ho:o+m.length<=l.length):dy l o m=l.take o++m++l.drop (o+m.length):=by
 apply xa;intro i;rw[oy m l o i ho];by_cases h1:o<=i/\i<o+m.length
 ·rw[if_pos h1,hG (by simp;omega),gR (by simp;omega)];congr 1;simp;omega
 ·rw[if_neg h1];by_cases h2:i<o
  ·rw[hG (by simp;omega),hG (by simp;omega),gS h2]
  ·rw[gR (by simp;omega),kK];congr 1;simp;omega
structure Upd (h h':Heap) (b:Nat) (o:bR):Prop where
 next:h.next<=h'.next
 log:h'.log=[b]
 old:∀x,x<h.next->x≠b->h'.get x=h.get x
 obj:h'.get b=some o
 wf:WF h->WF h'
theorem z1(h:Heap)(o:bR):(h.push o).next=h.next+1:=rfl
theorem z2(h:Heap)(base b:Nat)(o:bR):(h.wr base b o).next=h.next:=rfl
theorem z3(h:Heap)(o:bR):(h.push o).get h.next=some o:=Heap.iC h o
theorem z4{o:bR}{x:Nat}(a:x<h.next):(h.push o).get x=h.get x:=Heap.fC a
theorem z5{b:Nat}{o:bR}{x:Nat}(a:x≠b):(h.wr base b o).get x=h.get x:=Heap.eZ a
theorem z6(h:Heap)(base b:Nat)(o:bR):(h.wr base b o).get b=(h.get b).map λ_=>o:=Heap.Ej h base b o
theorem z7{β:Type}(f:α->β)(a:α):Option.map f (some a)=some (f a):=rfl
theorem z8{o:bR}{x:Nat}(h1:x<=h.next)(a:h.next<=x):(h.push o).get x=some o:=Heap.Ei h1 a
theorem z9{b:Nat}{o:bR}{x:Nat}(h1:x<=b)(a:b<=x):(h.wr base b o).get x=(h.get x).map λ_=>o:=Heap.Je h1 a
def fF(lo:Nat)(l:List Nat):Prop:=∀x∈l,lo<=x
theorem fF.nil(lo:Nat):fF lo []:=λx a=>by cases a
theorem fF.merge{lo base:Nat}:∀{m l:List Nat},fF lo l->fF lo m->fF lo (aH base l m)
 |[],l,h1,_=>h1
 |b::m,l,h1,h2=>by
  simp only[aH];refine fF.merge ?_ λx a=>h2 x (bu _ a);have hb:=h2 b (bx ..);simp only[cond_eq_ite];split
  ·split
   ·exact h1
   ·intro x a;rcases List.mem_cons.1 a with rfl|a
    ·exact hb
    ·exact h1 x a
  ·exact h1
structure Lk (lo:Nat) (h h':Heap):Prop where
 next:h.next<=h'.next
 log:fF lo h.log->fF lo h'.log
 old:∀x,x<lo->h'.get x=h.get x
 wf:WF h->WF h'
theorem Lk.refl(lo:Nat)(h:Heap):Lk lo h h:=⟨bl _,id,λ_ _=>rfl,id⟩
theorem Lk.trans{lo:Nat}{a b c:Heap}(x:Lk lo a b)(y:Lk lo b c):Lk lo a c:=⟨ed x.next y.next,λh=>y.log (x.log h),λz d=>(y.old z d).trans (x.old z d),λw=>y.wf (x.wf w)⟩
theorem Lk.push{lo:Nat}{a b:Heap}(x:Lk lo a b)(c:lo<=b.next)(o:bR):Lk lo a (b.push o):=x.trans ⟨Hc _,id,λz d=>Heap.fC (by omega),λw=>w.push o⟩
theorem Lk.wr{lo:Nat}{a b:Heap}(x:Lk lo a b){base y:Nat}{o:bR}(e:lo<=y):Lk lo a (b.wr base y o):=
 x.trans ⟨bl _,λd=>by
  simp only[Heap.wr,cond_eq_ite];split
  ·split
   ·exact d
   ·intro z c;rcases List.mem_cons.1 c with rfl|c
    ·exact e
    ·exact d z c
  ·exact d,λz c=>Heap.eZ (by omega),λw=>w.as (AS.wr _ _ _ _)⟩
variable{lo:Nat}
theorem Ext.lk{a b:Heap}(x:Ext a b)(c:lo<=a.next):Lk lo a b:=⟨x.next,λh=>by rw[x.log];exact h,λz d=>x.old z (by omega),x.wf⟩
theorem tg{l:List Nat}{x:Nat}(h:x ∉ l):fP l x=false:=by
 cases e:fP l x with
 |false=>rfl
 |true=>exact(h (jC.1 e)).elim
theorem Lk.nk(a:AS h.next h h')(c:lo<=h.next)(b:fF lo h'.log):Lk lo h h':=
 ⟨a.next,λ_=>b,λx e=>a.same x (by omega) (by omega) (tg λd=>by have:=b x d;omega),λw=>w.as a⟩
theorem Lk.call{a:Heap}(x:Lk lo {h with log:=[]} a):Lk lo h {a with log:=aH base h.log a.log}:=
 ⟨x.next,λb=>b.merge (x.log (fF.nil _)),x.old,λw=>(x.wf (w.log [])).log _⟩
def Gr(T:Nat->Option an)(f:Nat)(args:List Value)(h:Heap)(lo:Nat)(Q:Value->Heap->Prop):Prop:=CW T f args h λr h'=>Lk lo h h'∧∃v,r= .ret v/\Q v h'
structure T1 (rs:List (Nat×Option (Option Nat))) (lo:Nat) (Q:Value->Heap->Prop) (x:bE) (e:Env) (ds:Dfs) (h1:Heap):Prop where
 ok:(x= .normal∨x= .ret)/\ds=[]/\fF lo h1.log/\∃vs,bZ h1 e rs=some vs/\Q (eT vs) h1
theorem D9{Q:Value->Heap->Prop}(a:fF lo h.log)(hr:bZ h e rs=some vs)(b:Q (eT vs) h):T1 rs lo Q .ret e [] h:=⟨⟨.inr rfl,rfl,a,vs,hr,b⟩⟩
theorem LM{Q:Value->Heap->Prop}(a:fF lo h.log)(hr:bZ h e rs=some vs)(b:Q (eT vs) h):T1 rs lo Q .normal e [] h:=⟨⟨.inl rfl,rfl,a,vs,hr,b⟩⟩
theorem nZ(c:AS h.next h h1):(∀x,x<h.next->(gcA h h1 v).get x=h1.get x)/\h.next<=(gcA h h1 v).next/\(gcA h h1 v).log=h1.log/\(cO v=false->gcA h h1 v=h1):=by
 unfold gcA;cases hc:(cO v&&gj h1 h.next h1.log)with
 |false=>exact⟨λ_ _=>rfl,c.next,rfl,λ_=>rfl⟩
 |true=>
  refine⟨λx f=> ?_,bl _,rfl,λe=>by rw[e]at hc;cases hc⟩;have a:=c.keys;have d:(dB h.next (h1.next-h.next)).length=h1.next-h.next:=by
   generalize h1.next-h.next=n
   induction n with
   |zero=>rfl
   |succ n ih=>simp[dB,ih]
  have b:(h1.cI.take (h1.next-h.next)).map (·.1)=dB h.next (h1.next-h.next):=by
   rw[List.map_take,a,hX (by omega),dn (by omega)]
  have:=mA _ h.next _ (h1.cI.drop (h1.next-h.next)) b x f
  rw[xC]at this;show fK (bK (h1.next-h.next) h1.cI) x=fK h1.cI x;rw[aR];exact this.symm
theorem wr0(l:Nat)(o:bR):({h with cI:=jt h.cI l o}:Heap)=h.wr 0 l o:=rfl
def busy:bR->Bool
 | .loop _ _ _ _ 1 _=>true
 |_=>false
variable{ps:List Nat}{asg body:aT}
theorem Ae{f:Operand}{cap:Array Value}(hr:rC h rnd=true)(p:ev h e f=some (.func (.func g) first cap))(c:iD (T g)=false)
 (H:CW T g (ek first.toList (ek [.func (.yield h.next) #[] #[]] cap.toList)) {h.push (.loop e ps asg body 0 .normal)with log:=[]} fun r b=>∃v,r= .ret v∧∃o a j l i jh,b.get h.next=some (.loop o a j l i jh)∧Nat.beq i 1=false∧
   Q jh e ds (({b with log:=aH base h.log b.log}:Heap).wr base h.next .dead)):WE T base rnd (.rangeFunc f ps asg body) Q e ds h:=by
 obtain⟨r,b,⟨m,s⟩,v,rfl,o,a,j,l,i,jh,q,d,t⟩:=H;refine⟨⟨jh,e,ds,_,⟨m+1,λn u=> ?_⟩,t⟩⟩;obtain⟨k,rfl⟩:∃k,n=k+1:=⟨n-1,by omega⟩;simp only[cE,hr,p,c,cond_true,cond_false,s k (by omega),q,d]
theorem FW.He(d:aM T){Q:Res->Heap->Prop}(H:FW T fn args h Q)(c:h.log=[]):FW T fn args h λr a=>AS h.next h a∧Q r a:=by
 obtain⟨r,a,⟨m,b⟩,e⟩:=H;exact⟨r,a,⟨m,b⟩,(fA.all d m).jZ _ _ _ _ _ (b m (bl _)) c,e⟩
theorem FW.mono'{Q a:Res->Heap->Prop}(H:FW T fn args h Q)(b:∀r h',Q r h'→a r h'):FW T fn args h a:=
 let⟨r,h',h1,h2⟩:=H;⟨r,h',h1,b _ _ h2⟩
theorem AS.zero(a:AS base h h'):AS 0 h h':=⟨a.next,a.keys,λb c=>by omega,λb c=>by omega⟩
theorem AQ(c:AS 0 h h1):(∀x,x<h.next->(gcA h h1 v).get x=h1.get x)/\h.next<=(gcA h h1 v).next/\(gcA h h1 v).log=h1.log:=by
 unfold gcA;cases hc:(cO v&&gj h1 h.next h1.log)with
 |false=>exact⟨λ_ _=>rfl,c.next,rfl⟩
 |true=>
  refine⟨λx e=> ?_,bl _,rfl⟩;have a:=c.keys;have d:(dB h.next (h1.next-h.next)).length=h1.next-h.next:=by
   generalize h1.next-h.next=n
   induction n with
   |zero=>rfl
   |succ n ih=>simp[dB,ih]
  have b:(h1.cI.take (h1.next-h.next)).map (·.1)=dB h.next (h1.next-h.next):=by
   rw[List.map_take,a,hX (by omega),dn (by omega)]
  have:=mA _ h.next _ (h1.cI.drop (h1.next-h.next)) b x e
  rw[xC]at this;show fK (bK (h1.next-h.next) h1.cI) x=fK h1.cI x;rw[aR];exact this.symm
structure PW (l wb:Nat) (H0:Heap) (L:bR) (O:List (Nat×Nat)->bR) (done:List (Nat×Nat)) (H:Heap):Prop where
 old:∀x,x<l->x≠wb->H.get x=H0.get x
 obj:H.get wb=some (O done)
 loop:H.get l=some L
 nx:l<H.next
inductive Own (lo:Nat) (h:Heap) (sz:Nat):Value->Nat->List Value->Prop
 |nil:Own lo h sz (.slice none 0 0) 0 []
 |full {q n cs}:lo<=q->q<h.next->h.get q=some (.cells cs true sz)->cs.length=n*sz->n≠0->Own lo h sz (.slice (some ⟨q,0,none⟩) n UNK) n cs
theorem Own.slice{n:Nat}{cs:List Value}(s:Own lo h sz v n cs)(a:n<4000000):aK h sz v n cs:=by
 cases s with
 |nil=>exact .nil
 |full h1 h2 h3 h4 h5=>
  refine .mem ⟨h2,⟨_,_,_,h3,?_⟩,h4⟩ (by unfold UNK;omega);rw[bk,aR,tb,dn (by omega)]
theorem Own.keep{n:Nat}{cs:List Value}(s:Own lo h sz v n cs)(b:h.next<=h'.next)(a:∀z,lo<=z->z<h.next->h'.get z=h.get z):Own lo h' sz v n cs:=by
 cases s with
 |nil=>exact .nil
 |full h1 h2 h3 h4 h5=>exact .full h1 (by omega) ((a _ h1 h2).trans h3) h4 h5
theorem Own.ext{n:Nat}{cs:List Value}(s:Own lo h sz v n cs)(x:Ext h h'):Own lo h' sz v n cs:=s.keep x.next λz _ a=>x.old z a
theorem Own.log{n:Nat}{cs:List Value}(s:Own lo h sz v n cs)(m:List Nat):Own lo {h with log:=m} sz v n cs:=s.keep (h':={h with log:=m}) (bl _) λ_ _ _=>rfl
theorem Own.low{a n:Nat}{cs:List Value}(s:Own lo h sz v n cs)(b:a≤lo):Own a h sz v n cs:=by
 cases s with
 |nil=>exact .nil
 |full h1 h2 h3 h4 h5=>exact .full (by omega) h2 h3 h4 h5
structure Lx (lo:Nat) (h h':Heap):Prop where
 next:h.next<=h'.next
 log:h'.log=h.log
 old:∀z,z<lo->h'.get z=h.get z
 wf:WF h->WF h'
theorem Lx.refl(lo:Nat)(h:Heap):Lx lo h h:=⟨bl _,rfl,λ_ _=>rfl,id⟩
theorem Lx.trans{lo:Nat}{a b c:Heap}(x:Lx lo a b)(y:Lx lo b c):Lx lo a c:=⟨ed x.next y.next,y.log.trans x.log,λz d=>(y.old z d).trans (x.old z d),λw=>y.wf (x.wf w)⟩
theorem Lx.push{lo:Nat}{a b:Heap}(x:Lx lo a b)(c:lo<=b.next)(o:bR):Lx lo a (b.push o):=x.trans ⟨Hc _,rfl,λz d=>Heap.fC (by omega),λw=>w.push o⟩
theorem Lx.wr{lo:Nat}{a b:Heap}(x:Lx lo a b){base y:Nat}{o:bR}(c:lo<=y)(hb:base<=y):Lx lo a (b.wr base y o):=x.trans ⟨bl _,Heap.au hb,λz d=>Heap.eZ (by omega),λw=>w.as (AS.wr _ _ _ _)⟩
theorem Ext.lx{a b:Heap}(x:Ext a b)(c:lo<=a.next):Lx lo a b:=⟨x.next,x.log,λz d=>x.old z (by omega),x.wf⟩
theorem Lx.ext{a b:Heap}(x:Lx a.next a b):Ext a b:=⟨x.next,x.log,x.old,x.wf⟩
variable{os:List aZ}
theorem uZ{a n:Nat}{cs c1:List Value}(s:Own lo h sz v n cs)(m:n<1000000)(g:0<sz)(hb:a<=100000)(b:lo<=h.next)(d:base<=lo)
 (k:ev h e x=some v)(l:ev h e y=some u)(j:cN h sz u=some (c1,1))(f:c1.length=sz)(h1:eG c1=true)
 (i:∀v' h',Own lo h' sz v' (n+1) (cs++c1)->Lx lo h h'→WO T base rnd Q os (cC e dst v') ds h'):WO T base rnd Q (⟨dst, .append sz a x y,none⟩::os) e ds h:=by
 have c:(2*(n+1)+768)*a<=281474976710656:=by
  have:(2*(n+1)+768)*a<=2000768*100000:=R0 (by omega) hb;omega
 cases s with
 |nil=>
  refine aF (vh (n:=1) k l j (by omega) (by simpa using c) rfl) ?_;refine i _ _ ?_ ((Lx.refl lo h).push b _);have:=Own.full (lo:=lo) (h:=h.push (.cells c1 true sz)) (sz:=sz) (q:=h.next) (n:=1) (cs:=c1) b (ec _) (Heap.iC _ _) (by omega) (by omega);exact this
 | @full q _ _ q1 q2 q3 q4 q5=>
   refine aF (mF (n:=1) (vs:=cs) (ws:=cs++c1) k l j (by omega) q3 q4 g h1 c (dI _ _)) ?_;refine i _ _ ?_ (((Lx.refl lo h).wr q1 (by omega)).push b _);refine .full b (ec _) ?_ (by rw[eA,q4,f,Do,Nat.one_mul]) (by omega);exact Heap.iC _ _
theorem SK{c:Dfs}{b:Bool}{vs:Array Value}(j:geT e t=some (.tuple vs))(H:WO T base rnd Q os (cC e dst (.tuple #[])) c h):WO T base rnd Q (⟨dst,op,some (t,b)⟩::os) e c h:=by
 obtain⟨l,d,a,f,⟨m,g⟩,i⟩:=H.ok;exact⟨l,d,a,f,⟨m+1,λn o=>by
  obtain⟨k,rfl⟩:∃k,n=k+1:=⟨n-1,by omega⟩;simp only[gz,bL,j];exact g k (by omega)⟩,i⟩
structure Ws (S:Nat->Prop) (h h':Heap):Prop where
 next:h.next<=h'.next
 log:∀z∈h'.log,z∈h.log∨S z
 old:∀z,z<h.next->¬S z->h'.get z=h.get z
 wf:WF h->WF h'
variable{S:Nat->Prop}
theorem Ws.nk(b:AS h.next h h')(c:∀z∈h'.log,S z):Ws S h h':=
 ⟨b.next,λz a=> .inr (c z a),λz a e=>b.same z a a (tg λd=>e (c z d)),λw=>w.as b⟩
theorem rW{base z:Nat}:∀{m l:List Nat},z∈aH base l m->z∈l∨z∈m
 |[],l,h=> .inl h
 |b::m,l,h=>by
  simp only[aH]at h;rcases rW (m:=m) h with h|h
  ·revert h;rw[cond_eq_ite,cond_eq_ite];split
   ·split
    ·exact .inl
    ·intro h;rcases List.mem_cons.1 h with rfl|h
     ·exact .inr (bx ..)
     ·exact .inl h
   ·exact .inl
  ·exact .inr (bu _ h)
theorem Ws.call{a:Heap}(x:Ws S {h with log:=[]} a):Ws S h {a with log:=aH base h.log a.log}:=
 ⟨x.next,λz b=>(rW b).imp id λq=>(x.log z q).elim (λq=>by cases q) id,x.old,λw=>(x.wf (w.log [])).log _⟩
def Gs(T:Nat->Option an)(f:Nat)(args:List Value)(h:Heap)(S:Nat->Prop)(Q:Value->Heap->Prop):Prop:=CW T f args h λr h'=>Ws S h h'∧∃v,r= .ret v/\Q v h'
structure Xy (rs:List (Nat×Option (Option Nat))) (S:Nat->Prop) (Q:Value->Heap->Prop) (x:bE) (e:Env) (ds:Dfs) (h1:Heap):Prop where
 ok:(x= .normal∨x= .ret)/\ds=[]/\(∀z∈h1.log,S z)/\∃vs,bZ h1 e rs=some vs/\Q (eT vs) h1
theorem nX{Q:Value->Heap->Prop}(a:∀z∈h.log,S z)(hr:bZ h e rs=some vs)(b:Q (eT vs) h):Xy rs S Q .ret e [] h:=⟨⟨.inr rfl,rfl,a,vs,hr,b⟩⟩
theorem Gs.of(t:aM T){c:aT}{Q:Value->Heap->Prop}(r:T f=some (.code c rs))
 (q:∀v a h2,cO v=true->h.next<=h2.next->(∀x,x<h.next->h2.get x=a.get x)->Q v a->Q v h2)(H:WE T h.next none c (Xy rs S Q) (ej 0 args) [] h):Gs T f args h S Q:=by
 obtain⟨x,e,ds,a,⟨m,j⟩,⟨u,rfl,s,b,d,k⟩⟩:=H.ok;have i:=(fA.all t m).exec _ _ _ _ _ _ _ _ _ _ (j m (bl _)) (bl _);obtain⟨l,n,o,p⟩:=nZ (v:=eT b) i;have g:Ws S h (gcA h a (eT b))/\∃v,Res.ret (eT b)= .ret v/\Q v (gcA h a (eT b)):=by
  refine⟨Ws.nk (i.gc' _) (by rw[o];exact s),_,rfl,?_⟩;cases hv:cO (eT b)with
  |true=>exact q _ _ _ hv n l k
  |false=>rw[p hv];exact k
 refine CW.code r ⟨x,e,[],a,⟨m,j⟩,?_⟩;unfold xX;rcases u with rfl|rfl<;>(simp only[d];exact g)
theorem FW.gs{b:Value->Heap->Prop}{K:Env->Dfs->Heap->Prop}(H:Gs T f args {h with log:=[]} S b)(a:∀v (h':Heap) l,b v h'→b v {h' with log:=l})(d:∀v h',Ws S h h'→b v h'→K (cC e dst v) ds h'):
 FW T (.func f) args {h with log:=[]} (KO K Q base dst e ds h.log):=by
 refine .func (CW.mono H ?_);rintro r c ⟨i,v,rfl,g⟩;exact⟨d v _ i.call (a v c _ g)⟩
theorem FW.gsD{d:Value->Heap->Prop}{K:List Rec->Env->Heap->Prop}{rs:List Rec}(H:Gs T f args {h with log:=[]} S d)(c:∀v (h':Heap) l,d v h'→d v {h' with log:=l})
 (i:∀v h' lg,Ws S h h'→(∀z∈lg,S z)->d v h'→∃a,bQ h' base lg mask rs=some a∧K a (cC e dst v) h'):FW T (.func f) args {h with log:=[]} (KD K base mask rs dst e h.log):=by
 refine .func (CW.mono H ?_);rintro r b ⟨g,v,rfl,j⟩;obtain⟨a,m,n⟩:=i v {b with log:=aH base h.log b.log} b.log g.call (λz k=>(g.log z k).elim (λq=>by cases q) id) (c v b _ j);refine⟨?_⟩;show kD K base mask rs dst e h.log (.ret v) b;unfold kD;simp only[m];exact n
theorem vN{b:Nat}{o:bR}(c:∀z∈h.log,S z)(hb:S b):∀z∈(h.wr base b o).log,S z:=by
 intro z a;simp only[Heap.wr,cond_eq_ite]at a;split at a
 ·split at a
  ·exact c z a
  ·rcases List.mem_cons.1 a with rfl|a
   ·exact hb
   ·exact c z a
 ·exact c z a
theorem Ws.trans{S:Nat->Prop}{a b c:Heap}(x:Ws S a b)(y:Ws S b c):Ws S a c:=
 ⟨ed x.next y.next,λz d=>(y.log z d).elim (x.log z) .inr,λz d e=>(y.old z (kz d x.next) e).trans (x.old z d e),λw=>y.wf (x.wf w)⟩
theorem Ext.ws{a b:Heap}(x:Ext a b):Ws S a b:=⟨x.next,λz c=> .inl (x.log▸c),λz c _=>x.old z c,x.wf⟩
theorem xy{k':IntKind}{n m:Int}(b:ev h e x=some (.int k' n))(a:fZ k n=m):aop h base e (.conv (.int k) x)=some (.val (.int k m) h):=by
 subst a;simp only[aop,b,cT,xR,fS]
theorem Jw(k:IntKind)(n:Nat):pY (.int k (n:Int))=some n:=rfl
variable{l:Nat}
theorem rQ{a c:Nat}{i j:IntKind}(f:ev h e x=some (.int i (l:Nat)))(g:ev h e y=some (.int j (c:Nat)))(h1:l<=c)(b:a*c<=281474976710656)(k:c<1000000)(d:bM z=m):
 aop h base e (.mkSlice z a x y)=some (.val (.slice (some ⟨h.next,0,none⟩) l c) (h.push (.cells (eS c z) true m))):=by
 subst d;simp only[aop,f,g,Jw,gh h1,gh b,gJ (show c<UNK by unfold UNK;omega),SW,cond_true]
theorem TN{b o n c s k:Nat}{l ws:List Value}(j:ev h e x=some (.slice (some ⟨b,o,none⟩) n c))(p:ev h e y=some u)(g:cN h size u=some (l,m))(hb:h.get b=some (.cells vs true sz))(f:Nat.min m n=k)(a:o+k*size<=vs.length)
 (h1:eG (bO (k*size) l)=true)(i:dy vs o (bO (k*size) l)=ws):aop h base e (.copy size x y)=some (.val (.int .i64 k) (h.wr base b (.cells ws true sz))):=by
 subst f;have d:Nat.ble (o+Nat.min m n*size) (bM vs)=true:=by rw[cA];exact gh a
 simp only[aop,j,p,g,hb,d,h1,SW,cond_true,i]
theorem IM{rs d:List Rec}{Q:Env->Heap->Prop}{g:Option (Nat×Bool)}{f:Env}{b o n c k:Nat}{l ws:List Value}
 (ho:bN ops i=some ⟨dst, .copy size x y,g⟩)(w:bN bf i=some mask)(t:bU e (dh ⟨dst, .copy size x y,g⟩)=f)(r:bL f g=some true)
 (B:ev {h with log:=[]} f x=some (.slice (some ⟨b,o,none⟩) n c))(C:ev {h with log:=[]} f y=some u)(z:cN {h with log:=[]} size u=some (l,m))(hb:h.get b=some (.cells vs true sz))(v:Nat.min m n=k)(p:o+k*size<=vs.length)
 (h1:eG (bO (k*size) l)=true)(A:dy vs o (bO (k*size) l)=ws)(a:b<h.next)(j:base<=b)(q:bQ (h.wr base b (.cells ws true sz)) base [b] mask rs=some d)
 (H:WD T base ops bf Q is d (cC e dst (.int .i64 k)) (h.wr base b (.cells ws true sz))):WD T base ops bf Q (i::is) rs e h:=
 nD ho w t r rfl (TN (h:={h with log:=[]}) (s:=0) B C z hb v p h1 A) (HS a j _) (uD a _) q H
theorem FP{len:Nat}{cs:Array Value}(c:ev h e x=some (.agg cs))(a:ev h e y=some (.int k (i:Nat)))(hi:i<len)(b:bN cs.toList (i*size)=some v):aop h base e (.uz len size none x y)=some (.val v h):=by
 have:(.int k (i:Nat):Value)= .int k (Int.ofNat i):=rfl;rw[this]at a;simp only[aop,c,a,gJ hi,cond_true,b,cT]
def mi(a b:Int):Int:=if b<a then b else a
theorem BB{b:Int}(c:ev h e x=some (.int .i64 a))(d:ev h e y=some (.int .i64 b)):aop h base e (.eF false [x,y])=some (.val (.int .i64 (mi a b)) h):=by
 simp only[aop,evs,c,d,mmA,if_true,cT,mi];rfl
theorem oJ{n:Nat}(b:n<18446744073709551616):fZ .u64 (n:Int)=n:=by
 have a:((n:Nat):Int)=Int.ofNat n:=rfl;rw[a];simp only[fZ,gJ b,cond_true]
theorem QY{a b:Nat}(d:a<18446744073709551616)(hb:b<18446744073709551616):af .or (.int .u64 a) (.int .u64 b)=some (.int .u64 ((Nat.lor a b:Nat):Int)):=by
 have c:((a:Nat):Int)=Int.ofNat a:=rfl;have e2:((b:Nat):Int)=Int.ofNat b:=rfl;rw[c,e2];simp only[af,arith,oS,gJ d,gJ hb,SW,cond_true,if_true];rfl
theorem uE{a b:Nat}(d:a<18446744073709551616)(hb:b<18446744073709551616):af .and (.int .u64 a) (.int .u64 b)=some (.int .u64 ((Nat.land a b:Nat):Int)):=by
 have c:((a:Nat):Int)=Int.ofNat a:=rfl;have e2:((b:Nat):Int)=Int.ofNat b:=rfl;rw[c,e2];simp only[af,arith,oS,gJ d,gJ hb,SW,cond_true,if_true];rfl
theorem wm{a n:Nat}(c:n<=64):af .shr (.int .u64 a) (.int k n)=some (.int .u64 ((Nat.shiftRight a n:Nat):Int)):=by
 have b:((a:Nat):Int)=Int.ofNat a:=rfl;have e2:((n:Nat):Int)=Int.ofNat n:=rfl;rw[b,e2];simp only[af,pM,xr c];rfl
theorem vw{a b:Nat}(h:a+b<18446744073709551616):af .add (.int .u64 a) (.int .u64 b)=some (.int .u64 ((a+b:Nat):Int)):=gI (by rw[←Int.natCast_add];exact oJ h)
theorem Uo{a:Nat}:af .rem (.int .i64 a) (.int .i64 8)=some (.int .i64 ((a % 8:Nat):Int)):=by
 have e:(a:Int).tmod 8=((a % 8:Nat):Int):=by rw[Int.tmod_eq_emod_of_nonneg (by omega)];omega
 simp[af,arith,e]
theorem Un{a:Nat}(h1:a<9223372036854775808):af .quo (.int .i64 a) (.int .i64 8)=some (.int .i64 ((a / 8:Nat):Int)):=by
 have e:fZ .i64 ((a:Int).tdiv 8)=((a / 8:Nat):Int):=by
  rw[Int.tdiv_eq_ediv_of_nonneg (by omega),aU (by omega) (by omega)];omega
 have e2:af .quo (.int .i64 a) (.int .i64 8)=some (.int .i64 (fZ .i64 ((a:Int).tdiv 8))):=rfl;rw[e2,e]
theorem y7{z:Nat}:∀{m l:List Nat},z∈l->z∈aH base l m
 |[],l,h=>h
 |b::m,l,h=>by
  simp only[aH];refine y7 (m:=m) ?_;rw[cond_eq_ite,cond_eq_ite];split
  ·split
   ·exact h
   ·exact bu _ h
  ·exact h
theorem mem_merge{z:Nat}(a:z<base):∀{m l:List Nat},z∈m->z∈aH base l m
 |b::m,l,h=>by
  simp only[aH];rcases List.mem_cons.1 h with rfl|h
  ·refine y7 ?_;rw[gJ a,cond_true,cond_eq_ite];split
   ·rename_i hh;exact jC.1 hh
   ·exact bx ..
  ·exact mem_merge a h
theorem xO{l:Nat}{a:Env}{b:List Nat}{c d:aT}{st:Nat}{p:bE}(g:h.get l=some (.loop a b c d st p))(hb:l<base):∀{e:List Nat},l∈e->gj h base e=false
 |x::e,hm=>by
  have ih:l∈e->gj h base e=false:=xO g hb;by_cases hx:x=l
  ·subst hx;simp only[gj,gJ hb,cond_true,g]
  ·have f:l∈e:=by rcases List.mem_cons.1 hm with h1|h1;exact absurd h1.symm hx;exact h1
   simp only[gj,cond_eq_ite,ih f];split
   ·split<;>simp
   ·rfl
theorem HW{a:Env}{b:List Nat}{c d:aT}{st:Nat}{p:bE}(e:h1.get l=some (.loop a b c d st p))(hb:l<h.next)(f:l∈h1.log):gcA h h1 v=h1:=by
 unfold gcA;rw[xO e hb f,IH,cond_false]
theorem Bu{b:Nat}{o:bR}(hb:b<base):(h.wr base b o).log=if fP h.log b=true then h.log else b::h.log:=by
 unfold Heap.wr;rw[gJ hb];simp only[cond_eq_ite,if_true]
theorem fk{b z:Nat}{o:bR}(a:z∈(h.wr base b o).log):z=b∨z∈h.log:=by
 by_cases hb:b<base
 ·rw[Bu hb]at a;by_cases hh:fP h.log b=true
  ·rw[if_pos hh]at a;exact .inr a
  ·rw[if_neg hh]at a;exact List.mem_cons.1 a
 ·rw[Heap.au (by omega)]at a;exact .inr a
theorem tO{b:Nat}{o:bR}(hb:b<base):b∈(h.wr base b o).log:=by
 rw[Bu hb];by_cases hh:fP h.log b=true
 ·rw[if_pos hh];exact jC.1 hh
 ·rw[if_neg hh];exact bx ..
structure YQX (l:Nat) (L LX:bR) (lo N n:Nat) (R S:Heap->Prop) (x:bE) (e:Env) (ds:Dfs) (h3:Heap):Prop where
 busy:∃o,h3.get l=some o/\busy o=true
 log:∀z∈h3.log,lo<=z/\z<N
 rel:(x= .normal/\∀h5:Heap,n<=h5.next->(∀z,z<n->z≠l->h5.get z=h3.get z)->h5.get l=some L->R h5)∨(x= .ret/\∀h5:Heap,h5.next=h3.next->(∀z,z≠l->h5.get z=h3.get z)->h5.get l=some LX->S h5)
structure YAX (T:Nat->Option an) (l:Nat) (e:Env) (ps:List Nat) (asg body:aT) (lo N n:Nat) (R S:Heap->Prop) (x:bE) (e2:Env) (ds2:Dfs) (h2:Heap):Prop where
 x:x= .normal
 loop:h2.get l=some (.loop e ps asg body 0 .normal)
 body:WE T n (some l) body (YQX l (.loop e ps asg body 0 .normal) (.loop e ps asg body 2 .ret) lo N n R S) e2 ds2 (h2.wr 0 l (.loop e ps asg body 1 .normal))
variable{N:Nat}{e1:Env}
theorem FW.PO(P:aM T){R S:Heap->Prop}(O:h.get l=some (.loop e ps asg body 0 .normal))(M:jU e ps args=some e1)(s:l<h.next)(F:lo<=l/\l<N)
 (H:WE T h.next (some l) asg (YAX T l e ps asg body lo N h.next R S) e1 [] h):
 FW T (.yield l) args h λr h'=>(∀z∈h'.log,lo<=z/\z<N)/\(r= .ret (.bool true)/\R h'∨r= .ret (.bool false)/\l∈h'.log/\S h'):=by
 obtain⟨x,e2,W,L,⟨m,G⟩,⟨rfl,E,V⟩⟩:=H.ok;obtain⟨x3,e3,X,y,⟨C,j⟩,⟨⟨o,B,D⟩,g,f⟩⟩:=V.ok;have t:notReady (L.get l)=false:=by rw[E];rfl
 have i:∃a b c d p,o= .loop a b c d 1 p:=by
  unfold A.busy at D;split at D
  ·exact⟨_,_,_,_,_,rfl⟩
  ·cases D
 obtain⟨oa,ob,oc,od,op,rfl⟩:=i;rcases f with⟨rfl,f⟩|⟨rfl,f⟩
 ·have J:=(fA.all P m).exec _ _ _ _ _ _ _ _ _ _ (G m (bl _)) (bl _);have Q:=(fA.all P C).exec _ _ _ _ _ _ _ _ _ _ (j C (bl _)) J.next
  have U:AS 0 h (y.wr 0 l (.loop e ps asg body 0 .normal)):=((J.zero.trans (AS.wr 0 L l _)).trans Q.zero).trans (AS.wr 0 y l _);obtain⟨K,Y,Z⟩:=AQ (v:= .bool true) U;refine⟨.ret (.bool true),gcA h (y.wr 0 l (.loop e ps asg body 0 .normal)) (.bool true),⟨m+C+1,λn hn=> ?_⟩,?_, .inl ⟨rfl,?_⟩⟩
  ·obtain⟨k,rfl⟩:∃k,n=k+1:=⟨n-1,by omega⟩;have I:=G k (by omega);have w:=j k (by omega);rw[←wr0]at w;simp only[gU,O,M,I,t,cond_false,w,B];rfl
  ·rw[Z];exact g
  ·refine f _ Y (λz u q=>(K z u).trans (Heap.eZ q)) ((K l s).trans ?_);exact Heap.aP B
 ·refine⟨.ret (.bool false),y.wr h.next l (.loop e ps asg body 2 .ret),⟨m+C+1,λn hn=> ?_⟩,?_, .inr ⟨rfl,tO s,?_⟩⟩
  ·obtain⟨k,rfl⟩:∃k,n=k+1:=⟨n-1,by omega⟩;have I:=G k (by omega);have w:=j k (by omega);rw[←wr0]at w;simp only[gU,O,M,I,t,cond_false,w,B]
  ·intro z u;rcases fk u with rfl|u
   ·exact F
   ·exact g z u
  ·exact f _ rfl (λz q=>Heap.eZ q) (Heap.aP B)
structure KT {α:Type} (T:Nat->Option an) (lo N l:Nat) (V:α->Value) (all:List α) (P:List α->Heap->Prop) (S:Heap->Prop):Prop where
 tQ:∀done x H,x∈all->Rdy H->N<=H.next->P done H->FW T (.yield l) [V x] H λr H'=>(∀z∈H'.log,lo<=z/\z<N)/\(r= .ret (.bool true)/\P (done++[x]) H'∨r= .ret (.bool false)/\l∈H'.log/\S H')
 gu:∀done H H',P done H->N<=H'.next->(∀x,x<N->H'.get x=H.get x)->P done H'
 Sa:∀H m,S H->S {H with log:=m}
 IA:∀H,S H->∃a b c d,H.get l=some (.loop a b c d 2 .ret)
theorem KT.call(q:aM T){α:Type}{lo N l:Nat}{V:α->Value}{all:List α}{P:List α->Heap->Prop}{S:Heap->Prop}(Y:KT T lo N l V all P S){K:Env->Dfs->Heap->Prop}{dst:Option Nat}{done:List α}{x:α}(t:x∈all)(s:WF h)(f:lo<=h.next)(c:N<=h.next)(d:l<base)(o:P done h)
 (n:∀h',Lk lo h h'→(∀z,N<=z->z<h.next->h'.get z=h.get z)->P (done++[x]) h'→K (cC e dst (.bool true)) ds h')
 (p:∀h',Lk lo h h'→l∈h'.log->S h'→K (cC e dst (.bool false)) ds h'):FW T (.yield l) [V x] {h with log:=[]} (KO K Q base dst e ds h.log):=by
 refine FW.mono' (FW.He q (Y.tQ done x _ t (.of s) c (Y.gu _ _ _ o c λ_ _=>rfl)) rfl) ?_;rintro r m ⟨b,k,a⟩;have j:Lk lo {h with log:=[]} m:=Lk.nk b f λz u=>(k z u).1;rcases a with⟨rfl,a⟩|⟨rfl,g,a⟩
 ·refine⟨n _ j.call (λz v i=> ?_) (Y.gu _ _ _ a (ed c b.next) λ_ _=>rfl)⟩;exact b.same z i i (tg λg=>by have:=(k z g).2;omega)
 ·exact⟨p _ j.call (mem_merge d g) (Y.Sa _ _ a)⟩
def GrX(T:Nat->Option an)(f:Nat)(args:List Value)(h:Heap)(lo:Nat)(P S:Heap->Prop):Prop:=CW T f args h λr h'=>Lk lo h h'∧∃v,r= .ret v/\(P h'∨S h')
structure LS (rs:List (Nat×Option (Option Nat))) (lo l:Nat) (P S:Heap->Prop) (x:bE) (e:Env) (ds:Dfs) (h1:Heap):Prop where
 ok:(x= .normal∨x= .ret)/\ds=[]/\fF lo h1.log/\(∃vs,bZ h1 e rs=some vs)/\(P h1∨l∈h1.log/\S h1)
variable{P:Heap->Prop}
theorem LV{S:Heap->Prop}(a:fF lo h.log)(hr:bZ h e rs=some vs)(b:l∈h.log)(c:S h):LS rs lo l P S .ret e [] h:=⟨⟨.inr rfl,rfl,a,⟨vs,hr⟩, .inr ⟨b,c⟩⟩⟩
theorem LU{S:Heap->Prop}(a:fF lo h.log)(hr:bZ h e rs=some vs)(b:P h):LS rs lo l P S .normal e [] h:=⟨⟨.inl rfl,rfl,a,⟨vs,hr⟩, .inl b⟩⟩
theorem GrX.of(C:aM T){c:aT}{S:Heap->Prop}(A:T f=some (.code c rs))(n:lo<=h.next)(k:l<h.next)
 (y:∀g h2:Heap,h.next<=h2.next->(∀x,x<h.next->h2.get x=g.get x)->P g->P h2)(z:∀H,S H->∃a b c d,H.get l=some (.loop a b c d 2 .ret))(H:WE T h.next none c (LS rs lo l P S) (ej 0 args) [] h):GrX T f args h lo P S:=by
 obtain⟨x,e,ds,g,⟨m,s⟩,⟨D,rfl,B,⟨j,p⟩,i⟩⟩:=H.ok;have r:=(fA.all C m).exec _ _ _ _ _ _ _ _ _ _ (s m (bl _)) (bl _);obtain⟨t,u,w,E⟩:=nZ (v:=eT j) r;have q:Lk lo h (gcA h g (eT j))/\∃v,Res.ret (eT j)= .ret v/\(P (gcA h g (eT j))∨S (gcA h g (eT j))):=by
  refine⟨Lk.nk (r.gc' _) n (by rw[w];exact B),_,rfl,?_⟩;rcases i with i|⟨hml,i⟩
  ·exact .inl (y _ _ u t i)
  ·obtain⟨a,b,c,d,o⟩:=z _ i;rw[HW o k hml];exact .inr i
 refine CW.code A ⟨x,e,[],g,⟨m,s⟩,?_⟩;unfold xX;rcases D with rfl|rfl<;>(simp only[p];exact q)
theorem y8{base:Nat}:∀{m l:List Nat},fF base m->aH base l m=l
 |[],_,_=>rfl
 |b::m,l,h=>by
  have hb:=h b (bx ..);simp only[aH,qR (show¬b<base by omega),cond_false];exact y8 λx a=>h x (bu _ a)
theorem Bt{f:Operand}{cap:Array Value}{S:Heap->Prop}(hr:rC h1 rnd=true)(D:ev h1 e f=some (.func (.func g) first cap))(o:iD (T g)=false)
 (n:base<=lo)(q:lo<=h1.next)(j:h1.log=[])(F:WF h1)
 (x:GrX T g (ek first.toList (ek [.func (.yield h1.next) #[] #[]] cap.toList)) {h1.push (.loop e ps asg body 0 .normal)with log:=[]} lo P S)
 (B:∀H,P H->∃a b c d,H.get h1.next=some (.loop a b c d 0 .normal))(C:∀H,S H->∃a b c d,H.get h1.next=some (.loop a b c d 2 .ret))
 (y:∀h h3:Heap,h3.log=[]->WF h3->h1.next<h3.next->h3.next=h.next->(∀z,z≠h1.next->h3.get z=h.get z)->P h->Q .normal e ds h3)
 (A:∀h h3:Heap,h3.log=[]->WF h3->h1.next<h3.next->h3.next=h.next->(∀z,z≠h1.next->h3.get z=h.get z)->S h->Q .ret e ds h3):WE T base rnd (.rangeFunc f ps asg body) Q e ds h1:=by
 refine Ae hr D o (CW.mono x ?_);rintro r h ⟨k,v,rfl,i⟩;have m:fF base h.log:=λz E=>ed n (k.log (fF.nil _) z E);have s:(({h with log:=aH base h1.log h.log}:Heap).wr base h1.next .dead).log=[]:=by
  rw[Heap.au (by omega)];show aH base h1.log h.log=[];rw[y8 m,j]
 have t:WF (({h with log:=aH base h1.log h.log}:Heap).wr base h1.next .dead):=((k.wf ((F.push _).log _)).log _).as (AS.wr _ _ _ _);have u:h1.next<h.next:=k.next
 have w:∀z,z≠h1.next->(({h with log:=aH base h1.log h.log}:Heap).wr base h1.next .dead).get z=h.get z:=λz p=>Heap.eZ p
 rcases i with i|i
 ·obtain⟨a,b,c,d,l⟩:=B _ i;exact⟨_,rfl,_,_,_,_,_,_,l,rfl,y h _ s t u rfl w i⟩
 ·obtain⟨a,b,c,d,l⟩:=C _ i;exact⟨_,rfl,_,_,_,_,_,_,l,rfl,A h _ s t u rfl w i⟩
structure aaF {α:Type} (px:bE) (T:Nat->Option an) (lo N l:Nat) (V:α->List Value) (all:List α) (P:List α->Heap->Prop) (S:Heap->Prop):Prop where
 tQ:∀done x H,x∈all->Rdy H->N<=H.next->P done H->FW T (.yield l) (V x) H λr H'=>(∀z∈H'.log,lo<=z/\z<N)/\(r= .ret (.bool true)/\P (done++[x]) H'∨r= .ret (.bool false)/\l∈H'.log/\S H')
 gu:∀done H H',P done H->N<=H'.next->(∀x,x<N->H'.get x=H.get x)->P done H'
 Sa:∀H m,S H->S {H with log:=m}
 IA:∀H,S H->∃a b c d,H.get l=some (.loop a b c d 2 px)
theorem Pv{b:aT}(H:WE T base rnd b Q e ds h):WE T base rnd (.scope b) Q e ds h:=by
 obtain⟨x,f,a,g,⟨m,c⟩,d⟩:=H.ok;exact⟨_,_,_,_,⟨m+1,λn i=>by
  obtain⟨k,rfl⟩:∃k,n=k+1:=⟨n-1,by omega⟩;simp only[cE,c k (by omega)]⟩,d⟩
def mE(h:Heap)(q:Nat):Prop:=∃vs own t,h.get q=some (.cells vs own t)/\dF vs=false
theorem vT{q n:Nat}(a:q<n)(c:mE h q):∀{l:List Nat},q∈l->gj h n l=false
 |b::l,hm=>by
  obtain⟨vs,own,t,g,hs⟩:=c;rcases List.mem_cons.1 hm with rfl|hm
  ·simp only[gj,gJ a,cond_true,g,hs,cond_false]
  ·have d:=vT a ⟨vs,own,t,g,hs⟩ hm;simp only[gj];split<;>simp[d,cond_eq_ite]
theorem BQ{q:Nat}(c:q<h.next)(b:q∈h1.log)(a:mE h1 q):gcA h h1 v=h1:=by
 unfold gcA;rw[vT c a b,IH];rfl
structure YQK (l q:Nat) (L:bR) (lo n:Nat) (R:Heap->Prop) (x:bE) (e:Env) (ds:Dfs) (h3:Heap):Prop where
 x:x= .normal
 busy:∃o,h3.get l=some o/\busy o=true
 log:∀z∈h3.log,lo<=z
 kept:q∈h3.log
 aaB:mE h3 q
 rel:R (h3.wr 0 l L)
structure YAK (T:Nat->Option an) (l q:Nat) (e:Env) (ps:List Nat) (asg body:aT) (lo n:Nat) (R:Heap->Prop) (x:bE) (e2:Env) (ds2:Dfs) (h2:Heap):Prop where
 x:x= .normal
 loop:h2.get l=some (.loop e ps asg body 0 .normal)
 body:WE T n (some l) body (YQK l q (.loop e ps asg body 0 .normal) lo n R) e2 ds2 (h2.wr 0 l (.loop e ps asg body 1 .normal))
theorem FW.VX(Z:aM T){q:Nat}{R:Heap->Prop}(M:h.get l=some (.loop e ps asg body 0 .normal))(L:jU e ps args=some e1)(N:l<h.next)(Q:q<h.next)(B:q≠l)
 (H:WE T h.next (some l) asg (YAK T l q e ps asg body lo h.next R) e1 [] h):FW T (.yield l) args h λr h'=>r= .ret (.bool true)/\(∀z∈h'.log,lo<=z)/\q∈h'.log/\R h':=by
 obtain⟨x,e2,G,K,⟨m,O⟩,⟨rfl,v,F⟩⟩:=H.ok;obtain⟨x3,X,I,s,⟨U,w⟩,⟨rfl,⟨o,P,u⟩,i,D,⟨W,C,t,J,S⟩,j⟩⟩:=F.ok;have y:notReady (K.get l)=false:=by rw[v];rfl
 have g:∃a b c d p,o= .loop a b c d 1 p:=by
  unfold A.busy at u;split at u
  ·exact⟨_,_,_,_,_,rfl⟩
  ·cases u
 obtain⟨oa,ob,oc,od,op,rfl⟩:=g;have f:gcA h (s.wr 0 l (.loop e ps asg body 0 .normal)) (.bool true)=s.wr 0 l (.loop e ps asg body 0 .normal):=BQ (q:=q) Q (by rw[Heap.au (by omega)];exact D) ⟨W,C,t,(Heap.eZ B).trans J,S⟩;refine⟨.ret (.bool true),gcA h (s.wr 0 l (.loop e ps asg body 0 .normal)) (.bool true),⟨m+U+1,λn Y=> ?_⟩,rfl,?_,?_,?_⟩
 ·obtain⟨k,rfl⟩:∃k,n=k+1:=⟨n-1,by omega⟩;have V:=O k (by omega);have E:=w k (by omega);rw[←wr0]at E;simp only[gU,M,L,V,y,cond_false,E,P];rfl
 ·rw[f,Heap.au (by omega)];exact i
 ·rw[f,Heap.au (by omega)];exact D
 ·rw[f];exact j
structure aaE {α:Type} (T:Nat->Option an) (lo N l q:Nat) (V:α->Value) (all:List α) (P:List α->Heap->Prop):Prop where
 hq:q<N
 tQ:∀done x rest H,all=done++x::rest->Rdy H->N<=H.next->P done H->FW T (.yield l) [V x] H λr H'=>r= .ret (.bool true)/\(∀z∈H'.log,lo<=z)/\q∈H'.log/\mE H' q/\P (done++[x]) H'
 gu:∀done H H',P done H->H.next<=H'.next->(∀x,x<H.next->H'.get x=H.get x)->P done H'
theorem Gr.ofK(r:aM T){c:aT}{Q d:Value->Heap->Prop}(p:T f=some (.code c rs))(i:lo<=h.next)
 (o:∀v a,AS h.next h a->Q v a->d v (gcA h a v))(H:WE T h.next none c (T1 rs lo Q) (ej 0 args) [] h):Gr T f args h lo d:=by
 obtain⟨x,e,ds,a,⟨m,l⟩,⟨t,rfl,q,b,j,s⟩⟩:=H.ok;have g:=(fA.all r m).exec _ _ _ _ _ _ _ _ _ _ (l m (bl _)) (bl _);obtain⟨u,w,n,y⟩:=nZ (v:=eT b) g;have k:Lk lo h (gcA h a (eT b))/\∃v,Res.ret (eT b)= .ret v/\d v (gcA h a (eT b)):=
  ⟨Lk.nk (g.gc' _) i (by rw[n];exact q),_,rfl,o _ _ g s⟩
 refine CW.code p ⟨x,e,[],a,⟨m,l⟩,?_⟩;unfold xX;rcases t with rfl|rfl<;>(simp only[j];exact k)
theorem Kr{f:Operand}{cap:Array Value}(hr:rC h1 rnd=true)(w:ev h1 e f=some (.func (.func g) first cap))(m:iD (T g)=false)
 (l:base<=lo)(p:lo<=h1.next)(i:h1.log=[])(C:WF h1)
 (t:Gr T g (ek first.toList (ek [.func (.yield h1.next) #[] #[]] cap.toList)) {h1.push (.loop e ps asg body 0 .normal)with log:=[]} lo λv h'=>v= .tuple #[]/\P h')
 (u:∀H,P H->∃a b c d,H.get h1.next=some (.loop a b c d 0 .normal))
 (K:∀h h3:Heap,h3.log=[]->WF h3->h1.next<h3.next->h3.next=h.next->(∀z,z≠h1.next->h3.get z=h.get z)->(∀z,z<lo->h3.get z=h1.get z)->P h->Q .normal e ds h3):WE T base rnd (.rangeFunc f ps asg body) Q e ds h1:=by
 refine Ae hr w m (CW.mono t ?_);rintro r h ⟨j,v,rfl,rfl,q⟩;have k:fF base h.log:=λz o=>ed l (j.log (fF.nil _) z o);have y:(({h with log:=aH base h1.log h.log}:Heap).wr base h1.next .dead).log=[]:=by
  rw[Heap.au (by omega)];show aH base h1.log h.log=[];rw[y8 k,i]
 have A:WF (({h with log:=aH base h1.log h.log}:Heap).wr base h1.next .dead):=((j.wf ((C.push _).log _)).log _).as (AS.wr _ _ _ _);have B:h1.next<h.next:=j.next
 have s:∀z,z≠h1.next->(({h with log:=aH base h1.log h.log}:Heap).wr base h1.next .dead).get z=h.get z:=λz n=>Heap.eZ n
 obtain⟨a,b,c,d,x⟩:=u _ q;refine⟨_,rfl,_,_,_,_,_,_,x,rfl,K h _ y A B rfl s (λz o=>(s z (by omega)).trans ((j.old z o).trans ?_)) q⟩;exact Heap.fC (by omega)
structure IW {α:Type} (T:Nat->Option an) (lo N l q:Nat) (V:α->List Value) (all:List α) (P:List α->Heap->Prop) (W:Heap->Nat->Prop):Prop where
 hq:q<N
 tQ:∀done x H,x∈all->done.length<100000->Rdy H->N<=H.next->P done H->FW T (.yield l) (V x) H λr H'=>r= .ret (.bool true)/\(∀z∈H'.log,lo<=z)/\q∈H'.log/\mE H' q/\P (done++[x]) H'∧(∀z,z<H.next->¬W H z->H'.get z=H.get z)/\(∀z,W H' z->W H z∨H.next<=z)
 gu:∀done H H',P done H->H.next<=H'.next->(∀x,x<H.next->H'.get x=H.get x)->P done H'
 wst:∀done H H',P done H->H.next<=H'.next->(∀x,x<H.next->H'.get x=H.get x)->∀z,W H' z->W H z
 wlt:∀done H z,P done H->W H z->z<H.next
theorem IW.call(A:aM T){α:Type}{lo N l q:Nat}{V:α->List Value}{all:List α}{P:List α->Heap->Prop}{W:Heap->Nat->Prop}(Y:IW T lo N l q V all P W){K:Env->Dfs->Heap->Prop}{dst:Option Nat}{done:List α}{x:α}(C:x∈all)(a:done.length<100000)(B:WF h)(j:lo<=h.next)(s:N<=h.next)(k:q<base)(d:P done h)
 (p:∀h',Lk lo h h'→q∈h'.log/\mE h' q->P (done++[x]) h'→(∀z,z<h.next->¬W h z->h'.get z=h.get z)->(∀z,W h' z->W h z∨h.next<=z)->K (cC e dst (.bool true)) ds h'):FW T (.yield l) (V x) {h with log:=[]} (KO K Q base dst e ds h.log):=by
 have f:P done {h with log:=[]}:=Y.gu _ _ _ d (bl _) λ_ _=>rfl;refine FW.mono' (FW.He A (Y.tQ done x _ C a (.of B) s f) rfl) ?_;rintro r c ⟨o,rfl,v,w,t,m,g,i⟩;have u:Lk lo {h with log:=[]} c:=Lk.nk o j λz b=>v z b;refine⟨p _ u.call ⟨mem_merge k w,t⟩ (Y.gu _ _ _ m (bl _) λ_ _=>rfl) (λz b y=>g z b λq=>y (Y.wst _ h {h with log:=[]} d (bl _) (λ_ _=>rfl) z q)) λz b=> ?_⟩;have n:=Y.wst _ c {c with log:=aH base h.log c.log} m (bl _) (λ_ _=>rfl) z b;exact(i z n).imp (λq=>Y.wst _ h {h with log:=[]} d (bl _) (λ_ _=>rfl) z q) id
theorem ME{q:Nat}{V:α->List Value}{all done:List α}{P:List α->Heap->Prop}{W:Heap->Nat->Prop}(Y:IW T lo N l q V all P W)(g:q<h.next)(e:AS h.next h h1)(p:v= .tuple #[]/\P done h1/\(((∀x,x<h.next->h1.get x=h.get x)/\P done h)∨q∈h1.log/\mE h1 q)):v= .tuple #[]/\P done (gcA h h1 v):=by
 obtain⟨i,f,a⟩:=p;refine⟨i,?_⟩;rcases a with⟨he,h0⟩|⟨a,hd⟩
 ·obtain⟨c,d,_⟩:=nZ (v:=v) e;exact Y.gu _ _ _ h0 d λx b=>(c x b).trans (he x b)
 ·rw[BQ g a hd];exact f
def Gp(T:Nat->Option an)(f:Nat)(args:List Value)(h:Heap)(S:Nat->Prop)(Q Qp:Value->Heap->Prop):Prop:=CW T f args h λr h'=>Ws S h h'∧((∃v,r= .ret v/\Q v h')∨∃v,r= .panic v/\Qp v h')
structure I9 (rs:List (Nat×Option (Option Nat))) (S:Nat->Prop) (Q Qp:Value->Heap->Prop) (x:bE) (e:Env) (ds:Dfs) (h1:Heap):Prop where
 ok:ds=[]/\(∀z∈h1.log,S z)/\(((x= .normal∨x= .ret)/\∃vs,bZ h1 e rs=some vs/\Q (eT vs) h1)∨∃v,x= .panic v/\Qp v h1)
variable{Qp:Value->Heap->Prop}
theorem LO{Q:Value->Heap->Prop}(a:∀z∈h.log,S z)(hr:bZ h e rs=some vs)(b:Q (eT vs) h):I9 rs S Q Qp .ret e [] h:=⟨⟨rfl,a, .inl ⟨.inr rfl,vs,hr,b⟩⟩⟩
theorem xY{Q:Value->Heap->Prop}(a:∀z∈h.log,S z)(hr:bZ h e rs=some vs)(b:Q (eT vs) h):I9 rs S Q Qp .normal e [] h:=⟨⟨rfl,a, .inl ⟨.inl rfl,vs,hr,b⟩⟩⟩
theorem fT{Q:Value->Heap->Prop}(a:∀z∈h.log,S z)(b:Qp v h):I9 rs S Q Qp (.panic v) e [] h:=⟨⟨rfl,a, .inr ⟨v,rfl,b⟩⟩⟩
theorem Gp.of(r:aM T){c:aT}{Q:Value->Heap->Prop}(q:T f=some (.code c rs))
 (p:∀v a h2,cO v=true->h.next<=h2.next->(∀x,x<h.next->h2.get x=a.get x)->Q v a->Q v h2)(H:WE T h.next none c (I9 rs S Q Qp) (ej 0 args) [] h):Gp T f args h S Q Qp:=by
 obtain⟨x,e,ds,a,⟨m,j⟩,⟨rfl,i,d⟩⟩:=H.ok;have b:=(fA.all r m).exec _ _ _ _ _ _ _ _ _ _ (j m (bl _)) (bl _);refine CW.code q ⟨x,e,[],a,⟨m,j⟩,?_⟩;unfold xX;rcases d with⟨d,vs,hvs,hq⟩|⟨v,rfl,hq⟩
 ·obtain⟨k,l,n,o⟩:=nZ (v:=eT vs) b;have g:Ws S h (gcA h a (eT vs))/\((∃v,Res.ret (eT vs)= .ret v/\Q v (gcA h a (eT vs)))∨∃v,Res.ret (eT vs)= .panic v/\Qp v (gcA h a (eT vs))):=by
   refine⟨Ws.nk (b.gc' _) (by rw[n];exact i), .inl ⟨_,rfl,?_⟩⟩;cases hv:cO (eT vs)with
   |true=>exact p _ _ _ hv l k hq
   |false=>rw[o hv];exact hq
  rcases d with rfl|rfl<;>(simp only[hvs];exact g)
 ·exact⟨Ws.nk b i, .inr ⟨v,rfl,hq⟩⟩
theorem DZ{ops:List aZ}{bf:List Nat}{i mask m0:Nat}{e1:Env}{h1:Heap}{fin:bE×Env×Heap}(d:bN bf i=some mask)(hi:∀k rs',m0<=k->ef T k base ops [i] bf rs' e1 h1=some fin):
 ∀(init:List Nat) (k:Nat) (rs:List Rec) (e:Env) (h:Heap),(∀j∈init,Nat.testBit mask j=true)->m0+init.length<=k->ef T k base ops init bf rs e h=some (.normal,e1,h1)->ef T k base ops (init++[i]) bf rs e h=some fin
 |[],k,rs,e,h,_,hk,H=>by
  obtain⟨k,rfl⟩|rfl:(∃k',k=k'+1)∨k=0:=by cases k with|zero=>exact .inr rfl|succ k=>exact .inl ⟨k,rfl⟩
  ·simp only[ef]at H;cases H;exact hi _ _ (by simpa using hk)
  ·simp[ef]at H
 |j::is,k,rs,e,h,hb,hk,H=>by
  obtain⟨k,rfl⟩|rfl:(∃k',k=k'+1)∨k=0:=by cases k with|zero=>exact .inr rfl|succ k=>exact .inl ⟨k,rfl⟩
  ·have a:∀rs e h,ef T k base ops is bf rs e h=some (.normal,e1,h1)->ef T k base ops (is++[i]) bf rs e h=some fin:=λrs e h=>DZ d hi is k rs e h (λj f=>hb j (bu _ f)) (by simp only[me]at hk;omega);have b:∀{c:List Nat},sH bf j c=true->sH bf j (c++[i])=true:=λ{c} q=>by
    induction c with
    |nil=>simp[sH,d,hb j (bx ..)]
    |cons x c ihj=>
     simp only[sH,GT]at q⊢;split at q
     ·rename_i m hx;rw[cond_eq_ite]at q;split at q
      ·rename_i ht;simp only[hx,ht,cond_true];exact ihj q
      ·cases q
     ·cases q
   rw[GT];simp only[ef]at H⊢;split at H
   ·rename_i o mk ho hmk;try simp only[ho,hmk]
    split at H
    ·rename_i hw;(try simp only[hw]);exact a _ _ _ H
    ·rename_i hw;try simp only[hw]
     cases hq:jM o.op with
     |true=>
      simp only[hq,cond_true]at H⊢;split at H
      ·rename_i v h' ho1;try simp only[ho1]
       cases hn:dK o.op with
       |true=>
        simp only[hn,cond_true]at H⊢;cases hr:oH h' base rs with
        |true=>simp only[hr,cond_true]at H⊢;exact a _ _ _ H
        |false=>simp[hr]at H
       |false=>
        simp only[hn,cond_false]at H⊢;cases hx:Nat.beq h'.next h.next with
        |true=>simp only[hx,cond_true]at H⊢;exact a _ _ _ H
        |false=>
         simp only[hx,cond_false]at H⊢;cases ha:sH bf j is with
         |true=>
          simp only[ha,b ha,cond_true]at H⊢;split at H
          ·rename_i v h2 ho2;try simp only[ho2]
           split at H
           ·rename_i rs' hrs;(try simp only[hrs]);exact a _ _ _ H
           ·cases H
          ·cases H
         |false=>simp[ha]at H
      ·cases H
     |false=>
      simp only[hq,cond_false]at H⊢;split at H
      ·rename_i v h2 ho2;try simp only[ho2]
       split at H
       ·rename_i rs' hrs;(try simp only[hrs]);exact a _ _ _ H
       ·cases H
      ·rename_i fn args h3 ho2;try simp only[ho2]
       split at H
       ·rename_i v h2 hc;try simp only[hc]
        split at H
        ·rename_i rs' hrs;(try simp only[hrs]);exact a _ _ _ H
        ·cases H
       ·cases H
       ·cases H
      ·cases H
    ·cases H
   ·cases H
  ·simp[ef]at H
structure YO (T:Nat->Option an) (ops:List aZ) (i:Nat) (Q:XQ) (ds:Dfs) (e:Env) (h:Heap):Prop where
 ok:∃o fn args h3,bN ops i=some o/\bL (bU e (dh o)) o.guard=some true/\jM o.op=false/\aop {h with log:=[]} h.next (bU e (dh o)) o.op=some (.call fn args h3)/\∃v h2,EvF T fn args {h with log:=[]} (.panic v,h2)/\∀base,Q (.panic v) [] ds {h2 with log:=aH base h.log h2.log}
theorem FG{keep init:List Nat}(hi:is=init++[i])(g:bN bf i=some mask)(a:∀j∈init,Nat.testBit mask j=true)(H:WD T base ops bf (YO T ops i Q ds) init [] e h):WE T base rnd (.draw ops is bf keep) Q e ds h:=by
 subst hi;obtain⟨f,b,⟨m,w⟩,⟨⟨o,y,d,z,p,q,r,s,v,c,⟨l,t⟩,u⟩⟩⟩:=H.ok;refine⟨.panic v,[],ds,{c with log:=aH base b.log c.log},⟨m+l+init.length+4,λn B=> ?_⟩,u base⟩;obtain⟨k,rfl⟩:∃k,n=k+1:=⟨n-1,by omega⟩;have:=DZ (T:=T) (base:=base) (ops:=ops) (bf:=bf) (m0:=l+2) (fin:=(.panic v,[],{c with log:=aH base b.log c.log})) g (e1:=f) (h1:=b) (λk x A=>by
  obtain⟨k,rfl⟩:∃k',k=k'+1:=⟨k-1,by omega⟩;simp only[ef,p,g,q,r,s,t k (by omega),cond_false]) init k [] e h a (by omega) (w k (by omega))
 simp only[cE,this]
def N5:bE->Option Value
 | .panic v=>some v
 |_=>none
def DW(T:Nat->Option an)(g:Nat)(args:List Value)(pan:Option Value)(h:Heap)(Q:Option Value->Heap->Prop):Prop:=∃p h',(∃m,∀n,m<=n->jY T n g args pan h=some (p,h'))/\Q p h'
theorem CW.Xv{Q:Res->Heap->Prop}{c:aT}(q:T f=some (.code c rs))
 (H:XW T h.next none c (ej 0 args) [] h λx e ds h1=>(∀i,x≠ .exit i)/\∃g first a as,ds=[(.func (.func g) first a,as)]/\DW T g (ek first.toList (ek as a.toList)) (N5 x) {h1 with log:=[]} λp j=>p=none/\∃l,bZ {j with log:=aH h.next h1.log j.log} e rs=some l/\Q (.ret (eT l)) (gcA h {j with log:=aH h.next h1.log j.log} (eT l))):CW T f args h Q:=by
 obtain⟨x,e,ds,h1,⟨m,s⟩,u,g,first,a,as,rfl,p,j,⟨w,r⟩,rfl,l,b,t⟩:=H;refine⟨_,_,⟨m+w+4,λn y=> ?_⟩,t⟩;obtain⟨k,rfl⟩:∃k,n=k+3:=⟨n-3,by omega⟩;have o:=s (k+2) (by omega);have d:=r (k+1) (by omega);cases x with
 |exit i=>exact(u i rfl).elim
 |panic v=>simp only[N5]at d;simp only[iS,o,nV,q,d,b]
 |normal=>simp only[N5]at d;simp only[iS,o,nV,q,d,b]
 |ret=>simp only[N5]at d;simp only[iS,o,nV,q,d,b]
structure Z7 (T:Nat->Option an) (base:Nat) (rs:List (Nat×Option (Option Nat))) (Q:Value->Heap->Prop) (x:bE) (e:Env) (ds:Dfs) (h1:Heap):Prop where
 ok:(∀i,x≠ .exit i)/\∃g first cap as,ds=[(.func (.func g) first cap,as)]/\DW T g (ek first.toList (ek as cap.toList)) (N5 x) {h1 with log:=[]} λp h2=>p=none/\aH base h1.log h2.log=[]/\∃vs,bZ {h2 with log:=[]} e rs=some vs/\Q (eT vs) {h2 with log:=[]}
theorem Al.ofD(s:aM T){c:aT}{Q:Value->Heap->Prop}(w:T f=some (.code c rs))(hr:Rdy h)(u:∀v i,cO v=true->Q v i->Q v h)
 (H:WE T h.next none c (Z7 T h.next rs Q) (ej 0 args) [] h):Al T f args h Q:=by
 obtain⟨x,e,ds,i,⟨m,r⟩,⟨y,g,first,d,as,rfl,p,b,⟨l,q⟩,rfl,j,n,k,t⟩⟩:=H.ok;have o:=(fA.all s m).exec _ _ _ _ _ _ _ _ _ _ (r m (bl _)) (bl _);have a:=o.trans (AS.call (base:=h.next) ((fA.all s l).defer _ _ _ _ _ _ (q l (bl _)) rfl) o.next);rw[j]at a;refine CW.Xv w ⟨x,e,_,i,⟨m,r⟩,y,g,first,d,as,rfl,none,b,⟨l,q⟩,rfl,n,by rw[j];exact k,?_⟩;rw[j];cases hv:cO (eT n)with
 |true=>
  rw[BR hr.wf a (show({b with log:=[]}:Heap).log=h.log from hr.log.symm) hr.log hv];exact⟨.refl _,_,rfl,u _ _ hv t⟩
 |false=>
  have:gcA h {b with log:=[]} (eT n)={b with log:=[]}:=by simp[gcA,hv]
  rw[this];exact⟨.nk hr a rfl,_,rfl,t⟩
structure SE (T:Nat->Option an) (base:Nat) (c:aT) (K:bE->Env->Option Value->Heap->Prop) (e:Env) (p:Option Value) (h:Heap):Prop where
 ok:∃x e' p' h',(∃m,∀n,m<=n->gV T n base c e p h=some (x,e',p',h'))/\K x e' p' h'
structure SO (T:Nat->Option an) (base:Nat) (K:Env->Option Value->Heap->Prop) (ops:List aZ) (e:Env) (p:Option Value) (h:Heap):Prop where
 ok:∃e' p' h',(∃m,∀n,m<=n->iV T n base ops e p h=some (.normal,e',p',h'))/\K e' p' h'
theorem DW.of{pan:Option Value}{Q:Option Value->Heap->Prop}{c:aT}(b:T g=some (.code c []))(H:SE T h.next c (λx _ p a=>(x= .normal∨x= .ret)/\Q p a) (ej 0 args) pan h):DW T g args pan h Q:=by
 obtain⟨x,j,i,a,⟨m,d⟩,f,e⟩:=H.ok;refine⟨i,a,⟨m+1,λn l=> ?_⟩,e⟩;obtain⟨k,rfl⟩:∃k,n=k+1:=⟨n-1,by omega⟩;rcases f with rfl|rfl<;>simp only[jY,b,d k (by omega)]
variable {p:Option Value} {K:bE->Env->Option Value->Heap->Prop} {KO':Env->Option Value->Heap->Prop}
theorem Iy(H:K .normal e p h):SE T base .skip K e p h:=⟨_,_,_,_,⟨1,λn a=>by obtain⟨k,rfl⟩:∃k,n=k+1:=⟨n-1,by omega⟩;simp only[gV]⟩,H⟩
theorem kU{keep:List Nat}(H:SO T base (λa c b=>K .normal (bU a keep) c b) ops e p h):SE T base (.region ops keep) K e p h:=by
 obtain⟨a,c,b,⟨m,f⟩,d⟩:=H.ok;exact⟨_,_,_,_,⟨m+1,λn g=>by obtain⟨k,rfl⟩:∃k,n=k+1:=⟨n-1,by omega⟩;simp only[gV,f k (by omega)]⟩,d⟩
theorem tI{a b:aT}(H:SE T base a (λx d g f=>x= .normal/\SE T base b K d g f) e p h):SE T base (.seq a b) K e p h:=by
 obtain⟨x,d,g,f,⟨m,j⟩,rfl,⟨s,e2,r,o,⟨l,c⟩,i⟩⟩:=H.ok;exact⟨_,_,_,_,⟨m+l+1,λn q=>by obtain⟨k,rfl⟩:∃k,n=k+1:=⟨n-1,by omega⟩;simp only[gV,j k (by omega),c k (by omega)]⟩,i⟩
theorem R4{c:Operand}{a b:aT}(d:ev h e c=some (.bool true))(H:SE T base a K e p h):SE T base (.cond c a b) K e p h:=by
 obtain⟨x,i,o,j,⟨m,g⟩,f⟩:=H.ok;exact⟨_,_,_,_,⟨m+1,λn l=>by obtain⟨k,rfl⟩:∃k,n=k+1:=⟨n-1,by omega⟩;simp only[gV,d,g k (by omega)]⟩,f⟩
theorem Fm{c:Operand}{a b:aT}(d:ev h e c=some (.bool false))(H:SE T base b K e p h):SE T base (.cond c a b) K e p h:=by
 obtain⟨x,i,o,j,⟨m,g⟩,f⟩:=H.ok;exact⟨_,_,_,_,⟨m+1,λn l=>by obtain⟨k,rfl⟩:∃k,n=k+1:=⟨n-1,by omega⟩;simp only[gV,d,g k (by omega)]⟩,f⟩
theorem tJ(H:KO' e p h):SO T base KO' [] e p h:=⟨_,_,_,⟨1,λn a=>by obtain⟨k,rfl⟩:∃k,n=k+1:=⟨n-1,by omega⟩;simp only[iV]⟩,H⟩
theorem ja(ho:aop h base e op=some (.val v h'))(H:SO T base KO' os (cC e dst v) p h'):SO T base KO' (⟨dst,op,none⟩::os) e p h:=by
 obtain⟨c,g,d,⟨m,b⟩,a⟩:=H.ok;exact⟨_,_,_,⟨m+1,λn f=>by obtain⟨k,rfl⟩:∃k,n=k+1:=⟨n-1,by omega⟩;simp only[iV,bL,ho,b k (by omega)]⟩,a⟩
theorem R5(H:SO T base KO' os (cC e dst .nilIface) none h):SO T base KO' (⟨dst, .recover,none⟩::os) e none h:=by
 obtain⟨c,g,d,⟨m,b⟩,a⟩:=H.ok;exact⟨_,_,_,⟨m+1,λn f=>by obtain⟨k,rfl⟩:∃k,n=k+1:=⟨n-1,by omega⟩;simp only[iV,bL,aop,b k (by omega)]⟩,a⟩
theorem R6(H:SO T base KO' os (cC e dst v) none h):SO T base KO' (⟨dst, .recover,none⟩::os) e (some v) h:=by
 obtain⟨c,g,d,⟨m,b⟩,a⟩:=H.ok;exact⟨_,_,_,⟨m+1,λn f=>by obtain⟨k,rfl⟩:∃k,n=k+1:=⟨n-1,by omega⟩;simp only[iV,bL,aop,b k (by omega)]⟩,a⟩
end Go.A
end
section
namespace Go.A
variable {T:Nat->Option an} {base:Nat} {rnd:Option Nat} {Q Q':XQ} {e e2:Env} {ds:Dfs} {h:Heap} {os:List aZ} {dst:Option Nat} {v u:Value} {x y:Operand} {keep k2:List Nat} {K:Env->Dfs->Heap->Prop}
theorem y1(H:Q .normal e2 ds h)(a:bU e keep=e2:=by simp only[bU,cC,geT,ej,cond_true,cond_false,Nat.beq];exact rfl):KR keep Q .normal e ds h:=XP a H
theorem y3(H:K e2 ds h)(a:bU e keep=e2:=by simp only[bU,cC,geT,ej,cond_true,cond_false,Nat.beq];exact rfl):WO T base rnd (KR keep (KS K Q)) [] e ds h:=bH (XP a (uA H))
theorem y4{b:aT}(H:WO T base rnd (KR keep (KS (WE T base rnd b Q) Q)) os e ds h):WE T base rnd (.seq (.region os keep) b) Q e ds h:=rM (sw H)
theorem yM(H:WO T base rnd Q os (cC e dst v) ds h)(a:ev h e x=some v:=by rfl):WO T base rnd Q (⟨dst, .mov x,none⟩::os) e ds h:=aF (dx a) H
theorem yE{i:Nat}{vs:Array Value}(H:WO T base rnd Q os (cC e dst v) ds h)(b:ev h e x=some (.tuple vs):=by rfl)(a:bN vs.toList i=some v:=by rfl):WO T base rnd Q (⟨dst, .extract x i,none⟩::os) e ds h:=aF (vj b a) H
variable{o sz:Nat}{vs:List Value}{own:Bool}
theorem yL{b:Nat}(H:WO T base rnd Q os (cC e dst v) ds h)(c:ev h e x=some (.pointer (some ⟨b,o,none⟩)):=by rfl)
 (hb:h.get b=some (.cells vs own sz):=by first|assumption|exact z3 _ _|exact Go.A.z8 (by omega) (by omega)|(simp(disch:=first|omega|(simp only[z1,z2];omega))only[z3,z4,z5,z6,z7,z1,z2, *];done)|(simp(disch:=first|omega|(simp only[z1,z2];omega))only[z3,z4,z5,z6,z7,z1,z2, *];exact rfl)|(simp(disch:=first|omega|(simp only[z1,z2];omega)|(simp only[z1,z2];done)|fail)only[z8,z4,z5,z9,z7,z1,z2, *];done)|(simp(disch:=first|omega|(simp only[z1,z2];omega)|(simp only[z1,z2];done)|fail)only[z8,z4,z5,z9,z7,z1,z2, *];exact rfl))
 (a:bN vs o=some v:=by rfl):WO T base rnd Q (⟨dst, .load none x,none⟩::os) e ds h:=aF (dV c hb a) H
variable{n:Nat}
theorem yN{b:Nat}{l:List Value}(H:WO T base rnd Q os (cC e dst (.agg l.toArray)) ds h)(d:ev h e x=some (.pointer (some ⟨b,o,none⟩)):=by rfl)
 (hb:h.get b=some (.cells vs own sz):=by first|assumption|exact z3 _ _|exact Go.A.z8 (by omega) (by omega)|(simp(disch:=first|omega|(simp only[z1,z2];omega))only[z3,z4,z5,z6,z7,z1,z2, *];done)|(simp(disch:=first|omega|(simp only[z1,z2];omega))only[z3,z4,z5,z6,z7,z1,z2, *];exact rfl)|(simp(disch:=first|omega|(simp only[z1,z2];omega)|(simp only[z1,z2];done)|fail)only[z8,z4,z5,z9,z7,z1,z2, *];done)|(simp(disch:=first|omega|(simp only[z1,z2];omega)|(simp only[z1,z2];done)|fail)only[z8,z4,z5,z9,z7,z1,z2, *];exact rfl))
 (c:bO n (bK o vs)=l:=by rfl)(a:Nat.beq (bM l) n=true:=by rfl):WO T base rnd Q (⟨dst, .load (some n) x,none⟩::os) e ds h:=aF (bV d hb c a) H
theorem yS{b:Nat}{ws:List Value}(H:WO T base rnd Q os (cC e dst (.tuple #[])) ds (h.wr base b (.cells ws true sz)))(d:ev h e x=some (.pointer (some ⟨b,o,none⟩)):=by rfl)(f:ev h e y=some v:=by rfl)
 (hb:h.get b=some (.cells vs true sz):=by first|assumption|exact z3 _ _|exact Go.A.z8 (by omega) (by omega)|(simp(disch:=first|omega|(simp only[z1,z2];omega))only[z3,z4,z5,z6,z7,z1,z2, *];done)|(simp(disch:=first|omega|(simp only[z1,z2];omega))only[z3,z4,z5,z6,z7,z1,z2, *];exact rfl)|(simp(disch:=first|omega|(simp only[z1,z2];omega)|(simp only[z1,z2];done)|fail)only[z8,z4,z5,z9,z7,z1,z2, *];done)|(simp(disch:=first|omega|(simp only[z1,z2];omega)|(simp only[z1,z2];done)|fail)only[z8,z4,z5,z9,z7,z1,z2, *];exact rfl))
 (a:(Nat.beq (bM (cellsOf v)) n&&Nat.ble (o+n) (bM vs)&&eG (cellsOf v))=true:=by rfl)(c:dy vs o (cellsOf v)=ws:=by rfl):WO T base rnd Q (⟨dst, .store n x y,none⟩::os) e ds h:=aF (je d f hb a c) H
theorem yF{off b:Nat}(H:WO T base rnd Q os (cC e dst (.pointer (some ⟨b,o+off,none⟩))) ds h)(a:ev h e x=some (.pointer (some ⟨b,o,none⟩)):=by rfl):WO T base rnd Q (⟨dst, .dg off x,none⟩::os) e ds h:=aF (ez a) H
theorem yB(H:WO T base rnd Q os (cC e dst (.pointer (some ⟨h.next,0,none⟩))) ds (h.push (.cells vs true 1)))(b:ev h e x=some v:=by rfl)(a:cellsOf v=vs:=by rfl):WO T base rnd Q (⟨dst, .box x,none⟩::os) e ds h:=aF (V8 b a) H
variable{c:Operand}
theorem yT(H:WO T base rnd Q os (cC e dst v) ds h)(a:ev h e c=some (.bool true):=by rfl)(b:ev h e x=some v:=by rfl):WO T base rnd Q (⟨dst, .pick c x y,none⟩::os) e ds h:=aF (wM a b) H
theorem yU(H:WO T base rnd Q os (cC e dst v) ds h)(a:ev h e c=some (.bool false):=by rfl)(b:ev h e y=some v:=by rfl):WO T base rnd Q (⟨dst, .pick c x y,none⟩::os) e ds h:=aF (BC a b) H
variable{op:AOp}{t:Nat}
theorem yO{b:Bool}(H:WO T base rnd Q (⟨dst,op,none⟩::os) e ds h)(a:geT e t=some (.bool b):=by rfl):WO T base rnd Q (⟨dst,op,some (t,b)⟩::os) e ds h:=YC a H
theorem yP{b c:Bool}(H:WO T base rnd Q os (cC e dst (.tuple #[])) ds h)(a:geT e t=some (.bool c):=by rfl)(d:c= !b:=by rfl):WO T base rnd Q (⟨dst,op,some (t,b)⟩::os) e ds h:=VI a d H
theorem yC{f:Operand}{args:List Operand}{a:Value}{as:List Value}{g:Nat}{first cap:Array Value}{all:List Value}(H:FW T (.func g) all {h with log:=[]} (KO (WO T base rnd Q os) Q base dst e ds h.log))(c:ev h e f=some a:=by rfl)(b:evs h e args=some as:=by rfl)(i:a= .func (.func g) first cap:=by rfl)(d:ek first.toList (ek as cap.toList)=all:=by rfl):
 WO T base rnd Q (⟨dst, .call f args,none⟩::os) e ds h:=pQ (sS c b i d) H
theorem yX{a b:aT}(H:WE T base rnd b Q e ds h)(d:ev h e c=some (.bool false):=by rfl):WE T base rnd (.cond c a b) Q e ds h:=Pt d H
theorem yY{a b:aT}(H:WE T base rnd a Q e ds h)(d:ev h e c=some (.bool true):=by rfl):WE T base rnd (.cond c a b) Q e ds h:=SD d H
theorem yA{b:Bool}(H:WO T base rnd Q os (cC e dst (.bool !b)) ds h)(a:ev h e x=some (.bool b):=by rfl):WO T base rnd Q (⟨dst, .un .not x,none⟩::os) e ds h:=aF (KW a) H
theorem yD{a:Option Addr}{c:Nat}(H:WO T base rnd Q os (cC e dst (.int .i64 n)) ds h)(b:ev h e x=some (.slice a n c):=by rfl):WO T base rnd Q (⟨dst, .len 1 x,none⟩::os) e ds h:=aF (vk b) H
section
variable {k:IntKind} {a b:Int}
variable{op:BinOp}
theorem yt{u:Value}(H:WO T base rnd Q os (cC e dst (.bool true)) ds h)(b:ev h e x=some v:=by rfl)(c:ev h e y=some u:=by rfl)(a:af op v u=some (.bool true):=by first|exact mO (by omega)|exact eE (by omega)|exact cH (by omega)|exact dY (by omega)|exact qD (by omega)|exact jr (by omega)):
 WO T base rnd Q (⟨dst, .bin (.num op) x y,none⟩::os) e ds h:=aF (Av b c a) H
theorem yf{u:Value}(H:WO T base rnd Q os (cC e dst (.bool false)) ds h)(b:ev h e x=some v:=by rfl)(c:ev h e y=some u:=by rfl)(a:af op v u=some (.bool false):=by first|exact pz (by omega)|exact ew (by omega)|exact cS (by omega)|exact fu (by omega)|exact j9 (by omega)|exact qE (by omega)):
 WO T base rnd Q (⟨dst, .bin (.num op) x y,none⟩::os) e ds h:=aF (Av b c a) H
theorem aaA{n:Nat}(H:WO T base rnd Q os (cC e dst (.int .i64 (n+1:Nat))) ds h)(b:ev h e x=some (.int .i64 n):=by rfl)(c:ev h e y=some (.int .i64 1):=by rfl)(a:n<9223372036854775807:=by omega):WO T base rnd Q (⟨dst, .bin (.num .add) x y,none⟩::os) e ds h:=aF (Av b c (XX a)) H
end
section
variable {ops:List aZ} {bf:List Nat} {rs:List Rec} {R:Env->Heap->Prop} {i mask:Nat} {is:List Nat} {g:Option (Nat×Bool)} {er:Env}
theorem qM(H:WD T base ops bf R is (⟨i,⟨dst, .mov x,g⟩,er,v, .quiet⟩::rs) (cC e dst v) h)(ho:bN ops i=some ⟨dst, .mov x,g⟩:=by rfl)(b:bN bf i=some mask:=by rfl)(a:bU e (dh ⟨dst, .mov x,g⟩)=er:=by rfl)(c:bL er g=some true:=by rfl)(d:ev h er x=some v:=by rfl):WD T base ops bf R (i::is) rs e h:=bI ho b a c rfl rfl (dx d) H
variable{o:Nat}
theorem qF{off b:Nat}(H:WD T base ops bf R is (⟨i,⟨dst, .dg off x,g⟩,er, .pointer (some ⟨b,o+off,none⟩), .quiet⟩::rs) (cC e dst (.pointer (some ⟨b,o+off,none⟩))) h)(ho:bN ops i=some ⟨dst, .dg off x,g⟩:=by rfl)(c:bN bf i=some mask:=by rfl)(a:bU e (dh ⟨dst, .dg off x,g⟩)=er:=by rfl)(d:bL er g=some true:=by rfl)(f:ev h er x=some (.pointer (some ⟨b,o,none⟩)):=by rfl):
 WD T base ops bf R (i::is) rs e h:=bI ho c a d rfl rfl (ez f) H
variable{sz:Nat}{vs:List Value}{own:Bool}
theorem qL{b:Nat}(H:WD T base ops bf R is (⟨i,⟨dst, .load none x,g⟩,er,v, .quiet⟩::rs) (cC e dst v) h)(ho:bN ops i=some ⟨dst, .load none x,g⟩:=by rfl)(c:bN bf i=some mask:=by rfl)(a:bU e (dh ⟨dst, .load none x,g⟩)=er:=by rfl)(f:bL er g=some true:=by rfl)(j:ev h er x=some (.pointer (some ⟨b,o,none⟩)):=by rfl)
 (hb:h.get b=some (.cells vs own sz):=by first|assumption|exact z3 _ _|exact Go.A.z8 (by omega) (by omega)|(simp(disch:=first|omega|(simp only[z1,z2];omega))only[z3,z4,z5,z6,z7,z1,z2, *];done)|(simp(disch:=first|omega|(simp only[z1,z2];omega))only[z3,z4,z5,z6,z7,z1,z2, *];exact rfl)|(simp(disch:=first|omega|(simp only[z1,z2];omega)|(simp only[z1,z2];done)|fail)only[z8,z4,z5,z9,z7,z1,z2, *];done)|(simp(disch:=first|omega|(simp only[z1,z2];omega)|(simp only[z1,z2];done)|fail)only[z8,z4,z5,z9,z7,z1,z2, *];exact rfl))
 (d:bN vs o=some v:=by rfl):WD T base ops bf R (i::is) rs e h:=bI ho c a f rfl rfl (dV j hb d) H
theorem qN{n b:Nat}{l:List Value}(H:WD T base ops bf R is (⟨i,⟨dst, .load (some n) x,g⟩,er, .agg l.toArray, .quiet⟩::rs) (cC e dst (.agg l.toArray)) h)(ho:bN ops i=some ⟨dst, .load (some n) x,g⟩:=by rfl)(d:bN bf i=some mask:=by rfl)(a:bU e (dh ⟨dst, .load (some n) x,g⟩)=er:=by rfl)(j:bL er g=some true:=by rfl)(k:ev h er x=some (.pointer (some ⟨b,o,none⟩)):=by rfl)
 (hb:h.get b=some (.cells vs own sz):=by first|assumption|exact z3 _ _|exact Go.A.z8 (by omega) (by omega)|(simp(disch:=first|omega|(simp only[z1,z2];omega))only[z3,z4,z5,z6,z7,z1,z2, *];done)|(simp(disch:=first|omega|(simp only[z1,z2];omega))only[z3,z4,z5,z6,z7,z1,z2, *];exact rfl)|(simp(disch:=first|omega|(simp only[z1,z2];omega)|(simp only[z1,z2];done)|fail)only[z8,z4,z5,z9,z7,z1,z2, *];done)|(simp(disch:=first|omega|(simp only[z1,z2];omega)|(simp only[z1,z2];done)|fail)only[z8,z4,z5,z9,z7,z1,z2, *];exact rfl))
 (f:bO n (bK o vs)=l:=by rfl)(c:Nat.beq (bM l) n=true:=by rfl):WD T base ops bf R (i::is) rs e h:=bI ho d a j rfl rfl (bV k hb f c) H
theorem qC{f:Operand}{args:List Operand}{a:Value}{as:List Value}{k:Nat}{first cap:Array Value}{all:List Value}(H:FW T (.func k) all {h with log:=[]} (KD (WD T base ops bf R is) base mask rs dst e h.log))(ho:bN ops i=some ⟨dst, .call f args,g⟩:=by rfl)(l:bN bf i=some mask:=by rfl)(c:bU e (dh ⟨dst, .call f args,g⟩)=er:=by rfl)(n:bL er g=some true:=by rfl)
 (d:ev {h with log:=[]} er f=some a:=by rfl)(b:evs {h with log:=[]} er args=some as:=by rfl)(m:a= .func (.func k) first cap:=by rfl)(j:ek first.toList (ek as cap.toList)=all:=by rfl):WD T base ops bf R (i::is) rs e h:=SA ho l c n rfl (sS d b m j) H
end
def mx(a b:Int):Int:=if b>a then b else a
variable{o size:Nat}
theorem tY{base:Nat}{h:Heap}{e:Env}{len b i:Nat}{k:IntKind}{x y:Operand}(d:ev h e x=some (.pointer (some ⟨b,o,none⟩)))(a:ev h e y=some (.int k (i:Nat)))(hi:i<len):aop h base e (.cQ len size x y)=some (.val (.pointer (some ⟨b,o+i*size,none⟩)) h):=by
 have c:(.int k (i:Nat):Value)= .int k (Int.ofNat i):=rfl;rw[c]at a;simp only[aop,d,a,gJ hi,cond_true]
theorem Hz{base:Nat}{h:Heap}{e:Env}{x y:Operand}{a b:Int}(c:ev h e x=some (.int .i64 a))(d:ev h e y=some (.int .i64 b)):aop h base e (.eF true [x,y])=some (.val (.int .i64 (mx a b)) h):=by
 simp only[aop,evs,c,d,mmA,if_true,cT,mx]
theorem TM{base:Nat}{h:Heap}{e:Env}{x y:Operand}{a:Bool}(b:ev h e x=some (.bool a))(c:ev h e y=some (.bool a)):aop h base e (.bin (.beq false) x y)=some (.val (.bool true) h):=by
 rw[V7 b c];cases a<;>rfl
variable{n sz:Nat}{cs vs:List Value}
theorem bB{x y:Operand}{b:Nat}(f:ev h e x=some (.pointer (some ⟨b,0,none⟩)))(g:ev h e y=some (.agg cs.toArray))(hb:h.get b=some (.cells vs true sz))(c:cs.length=n)(d:vs.length=n)(h1:eG cs=true):
 aop h base e (.store n x y)=some (.val (.tuple #[]) (h.wr base b (.cells cs true sz))):=by
 have a:cellsOf (.agg cs.toArray)=cs:=by show cs.toArray.toList=cs;simp
 refine je f g hb ?_ ?_
 ·rw[a,cA,cA,c,d,h1,rX,j3,gh (bl n)];rfl
 ·rw[a,fQ (by omega)];simp only[Ok,HO,j3];rw[wc (by omega),md]
theorem nU{x y:Operand}{b:Nat}{v:Value}(c:ev h e x=some (.pointer (some ⟨b,o,none⟩)))(d:ev h e y=some v)(hb:h.get b=some (.cells vs true sz))(a:cellsOf v=[v])(h1:eG [v]=true)(ho:o<vs.length):
 aop h base e (.store 1 x y)=some (.val (.tuple #[]) (h.wr base b (.cells (vs.set o v) true sz))):=by
 refine je c d hb ?_ ?_
 ·rw[a,h1,cA,cA,gh (by omega)];rfl
 ·rw[a];show th vs o v=vs.set o v;clear c d hb;induction vs generalizing o with
  |nil=>simp at ho
  |cons w vs ih=>
   cases o with
   |zero=>rfl
   |succ o=>simp only[th,List.set_cons_succ];rw[ih (by simpa using ho)]
theorem KX{op:UnOp}{x:Operand}{a v:Value}(c:ev h e x=some a)(b:uW op a=some v):aop h base e (.un op x)=some (.val v h):=by simp only[aop,c,cT,b]
theorem wK{base:Nat}{h:Heap}{e:Env}:aop h base e .mkMap=some (.val (.map (some h.next)) (h.push (.map []))):=rfl
theorem Vo(a:Option Nat):jb (.map a) (.map a)=true:=by simp[jb,kH]
theorem AV{a b:Int}(h1: -9223372036854775808<=a*b)(c:a*b<9223372036854775808):af .mul (.int .i64 a) (.int .i64 b)=some (.int .i64 (a*b)):=by
 simp[af,arith,aU h1 c]
theorem wo{base:Nat}:∀{m l:List Nat},fF base m->aH base l m=l
 |[],_,_=>rfl
 |b::m,l,h=>by
  have hb:=h b (bx ..);simp only[aH,qR (show¬b<base by omega),cond_false];exact wo λx a=>h x (bu _ a)
variable{f:Nat}{args:List Value}{S:Nat->Prop}
theorem FW.gs0{base:Nat}{Q:XQ}{e:Env}{d:Dfs}{h:Heap}{b:Value->Heap->Prop}{K:Env->Dfs->Heap->Prop}{dst:Option Nat}(H:Gs T f args {h with log:=[]} S b)(a:∀v (h':Heap) l,b v h'→b v {h' with log:=l})(j:∀z,S z->base<=z)(i:∀v h',h.next<=h'.next->h'.log=h.log->(∀z,z<h.next->¬S z->h'.get z=h.get z)->(WF h->WF h')->b v h'→K (cC e dst v) d h'):
 FW T (.func f) args {h with log:=[]} (KO K Q base dst e d h.log):=by
 refine .func (CW.mono H ?_);rintro r g ⟨c,v,rfl,k⟩;exact⟨i v _ c.next (wo λz m=>j z ((c.log z m).elim (λq=>by cases q) id)) c.old (λw=>(c.wf (w.log [])).log _) (a v g _ k)⟩
variable{hi:Option Operand}
theorem kJ{base:Nat}{h:Heap}{e:Env}{b i j:Nat}{x:Operand}{lo:Option Operand}(f:ev h e x=some (.pointer (some ⟨b,o,none⟩)))(d:bnd h e 0 lo=some i)(c:bnd h e n hi=some j)(h1:i<=j)(a:j<=n)(g:i<n)(k:n<1000000):
 aop h base e (.slice (.arr n size) x lo hi none)=some (.val (.slice (some ⟨b,o+i*size,none⟩) (j-i) (n-i)) h):=by
 simp only[aop,f,ia,d,c,uH (show n≠UNK by unfold UNK;omega),gh h1,gh a,uH (show n≠i by omega),SW,cond_true,cond_false,fS]
variable{c:List Rec}{d:Env}
theorem kW{base:Nat}{h:Heap}{e:Env}{ops:List aZ}{bf:List Nat}{rs:List Rec}{Q:Env->Heap->Prop}{i mask:Nat}{is:List Nat}{dst:Option Nat}{g:Option (Nat×Bool)}{x y:Operand}{b:Nat}{v:Value}
 (ho:bN ops i=some ⟨dst, .store 1 x y,g⟩)(p:bN bf i=some mask)(n:bU e (dh ⟨dst, .store 1 x y,g⟩)=d)(l:bL d g=some true)(q:ev {h with log:=[]} d x=some (.pointer (some ⟨b,o,none⟩)))(r:ev {h with log:=[]} d y=some v)(hb:h.get b=some (.cells vs true sz))
 (m:cellsOf v=[v])(h1:eG [v]=true)(j:o<vs.length)(a:b<h.next)(f:base<=b)(k:bQ (h.wr base b (.cells (vs.set o v) true sz)) base [b] mask rs=some c)
 (H:WD T base ops bf Q is c (cC e dst (.tuple #[])) (h.wr base b (.cells (vs.set o v) true sz))):WD T base ops bf Q (i::is) rs e h:=
 nD ho p n l rfl (nU (h:={h with log:=[]}) q r hb m h1 j) (HS a f _) (uD a _) k H
theorem jV{base:Nat}{h:Heap}{e:Env}{ops:List aZ}{bf:List Nat}{rs:List Rec}{Q:Env->Heap->Prop}{i mask:Nat}{is:List Nat}{dst:Option Nat}{g:Option (Nat×Bool)}{x y:Operand}{b:Nat}
 (ho:bN ops i=some ⟨dst, .store n x y,g⟩)(m:bN bf i=some mask)(l:bU e (dh ⟨dst, .store n x y,g⟩)=d)(k:bL d g=some true)(q:ev {h with log:=[]} d x=some (.pointer (some ⟨b,0,none⟩)))(r:ev {h with log:=[]} d y=some (.agg cs.toArray))(hb:h.get b=some (.cells vs true sz))
 (o:cs.length=n)(p:vs.length=n)(h1:eG cs=true)(a:b<h.next)(f:base<=b)(j:bQ (h.wr base b (.cells cs true sz)) base [b] mask rs=some c)
 (H:WD T base ops bf Q is c (cC e dst (.tuple #[])) (h.wr base b (.cells cs true sz))):WD T base ops bf Q (i::is) rs e h:=
 nD ho m l k rfl (bB (h:={h with log:=[]}) q r hb o p h1) (HS a f _) (uD a _) j H
theorem iO{base:Nat}{e:Env}{h:Heap}{ops:List aZ}{bf:List Nat}{rs:List Rec}{Q:Env->Heap->Prop}{i mask:Nat}{is:List Nat}{dst:Option Nat}{x y:Operand}{b:Nat}{ws:List Value}{v:Value}{g:Option (Nat×Bool)}(ho:bN ops i=some ⟨dst, .store n x y,g⟩)(m:bN bf i=some mask)
 (l:bU e (dh ⟨dst, .store n x y,g⟩)=d)(p:bL d g=some true)(q:ev {h with log:=[]} d x=some (.pointer (some ⟨b,o,none⟩)))(r:ev {h with log:=[]} d y=some v)(hb:h.get b=some (.cells vs true sz))
 (k:(Nat.beq (bM (cellsOf v)) n&&Nat.ble (o+n) (bM vs)&&eG (cellsOf v))=true)(j:dy vs o (cellsOf v)=ws)(a:b<h.next)(f:bQ (h.wr base b (.cells ws true sz)) base [b] mask rs=some c)
 (H:WD T base ops bf Q is c (cC e dst (.tuple #[])) (h.wr base b (.cells ws true sz))):WD T base ops bf Q (i::is) rs e h:=
 nD ho m l p rfl (je (h:={h with log:=[]}) q r hb k j) (LY a _) (uD a _) f H
variable{P:Heap->Prop}
theorem VG{base:Nat}{rnd:Option Nat}{Q:XQ}{e:Env}{E0:Env->Env}{f:Dfs}{h:Heap}{a b:aT}(i:WE T base rnd a (λx g d c=>x= .normal/\(∃r,g=E0 r)/\d=[]/\P c) e f h)(j:∀r c,P c→WE T base rnd b Q (E0 r) [] c):WE T base rnd (.seq a b) Q e f h:=by
 refine rM (i.mono ?_);rintro x g d c ⟨rfl,⟨r,rfl⟩,rfl,k⟩;exact uA (j r c k)
theorem De{base:Nat}{rnd:Option Nat}{Q:XQ}{e E:Env}{d:Dfs}{h H:Heap}{a b:aT}(i:WE T base rnd a (λx f c g=>x= .normal/\f=E/\c=[]/\g=H) e d h)(j:WE T base rnd b Q E [] H):WE T base rnd (.seq a b) Q e d h:=by
 refine rM (i.mono ?_);rintro x f c g ⟨rfl,rfl,rfl,rfl⟩;exact uA j
theorem dw{base:Nat}{rnd:Option Nat}{Q:XQ}{e:Env}{E0:Env}{f:Dfs}{h:Heap}{a b:aT}(i:WE T base rnd a (λx g d c=>x= .normal/\g=E0/\d=[]/\P c) e f h)(j:∀c,P c→WE T base rnd b Q E0 [] c):WE T base rnd (.seq a b) Q e f h:=by
 refine rM (i.mono ?_);rintro x g d c ⟨rfl,rfl,rfl,k⟩;exact uA (j c k)
theorem SI{dst:Option Nat}{op:AOp}{os:List aZ}{f:Value}(ho:aop h base e op=some (.kF f args))(H:WO T base none Q os (cC e dst (.tuple #[])) ((f,args)::ds) h):WO T base none Q (⟨dst,op,none⟩::os) e ds h:=by
 obtain⟨x,b,a,c,⟨m,d⟩,g⟩:=H.ok;exact⟨x,b,a,c,⟨m+1,λn i=>by
  obtain⟨k,rfl⟩:∃k,n=k+1:=⟨n-1,by omega⟩;simp only[gz,bL,ho];exact d k (by omega)⟩,g⟩
theorem tj{base z:Nat}:∀{m l:List Nat},z∈aH base l m->z∈l∨(z∈m/\z<base)
 |[],l,h=> .inl h
 |b::m,l,h=>by
  simp only[aH]at h;rcases tj (m:=m) h with h|⟨h,hb⟩
  ·revert h;cases hc:Nat.blt b base with
   |true=>
    have hb:b<base:=by rw[blt_eq]at hc;simpa using hc
    simp only[cond_true];cases hl:fP l b with
    |true=>simp only[cond_true];exact .inl
    |false=>
     simp only[cond_false];intro h;rcases List.mem_cons.1 h with rfl|h
     ·exact .inr ⟨bx ..,hb⟩
     ·exact .inl h
   |false=>simp only[cond_false];exact .inl
  ·exact .inr ⟨bu _ h,hb⟩
theorem FW.gpb{g Qp:Value->Heap->Prop}{K:Env->Dfs->Heap->Prop}{dst:Option Nat}(H:Gp T f args {h with log:=[]} S g Qp)(n:∀z,S z->base<=z)(o:h.log=[])(b:∀v (h':Heap) l,g v h'→g v {h' with log:=l})(a:∀v (h':Heap) l,Qp v h'→Qp v {h' with log:=l})
 (k:∀v h',Ws S h h'→h'.log=[]->g v h'→K (cC e dst v) ds h')(m:∀v h',Ws S h h'→h'.log=[]->Qp v h'→Q (.panic v) e ds h'):FW T (.func f) args {h with log:=[]} (KO K Q base dst e ds h.log):=by
 refine .func (CW.mono H ?_);rintro r i ⟨j,d⟩;have c:aH base h.log i.log=[]:=by
  rw[UV];intro z p;rcases tj p with q|⟨q,hb⟩
  ·rw[o]at q;cases q
  ·rcases j.log z q with q|q
   ·cases q
   ·have:=n z q;omega
 rcases d with⟨v,rfl,d⟩|⟨v,rfl,d⟩
 ·exact⟨k v _ j.call c (b v i _ d)⟩
 ·exact⟨m v _ j.call c (a v i _ d)⟩
theorem FW.pan{v:Value}{K:Env->Dfs->Heap->Prop}{dst:Option Nat}(H:CW T f args {h with log:=[]} λr h'=>r= .panic v/\h'={h with log:=[]})(a:Q (.panic v) e ds h):FW T (.func f) args {h with log:=[]} (KO K Q base dst e ds h.log):=by
 refine .func (CW.mono H ?_);rintro r b ⟨rfl,rfl⟩;exact⟨a⟩
theorem vX{base:Nat}{h:Heap}{b:Nat}(hb:b<h.next)(o o':bR):({(({h with log:=[]}:Heap).wr h.next b o).push o' with log:=aH base h.log ((({h with log:=[]}:Heap).wr h.next b o).push o').log}:Heap)=(h.wr base b o).push o':=
 congrArg (λk:Heap=>k.push o') (LY hb o)
variable{lo:Nat}{c1:List Value}
theorem Pq{base:Nat}{e:Env}{h:Heap}{b:Nat}{ops:List aZ}{bf:List Nat}{rs:List Rec}{Q:Env->Heap->Prop}{i mask:Nat}{is:List Nat}{dst:Option Nat}{g:Option (Nat×Bool)}{l:Env}{x y:Operand}{v u:Value}
 (s:Own lo h sz v n cs)(M:n<1000000)(t:0<sz)(hb:b<=100000)
 (ho:bN ops i=some ⟨dst, .append sz b x y,g⟩)(D:bN bf i=some mask)(C:bU e (dh ⟨dst, .append sz b x y,g⟩)=l)(k:bL l g=some true)
 (G:ev {h with log:=[]} l x=some v)(H:ev {h with log:=[]} l y=some u)(E:cN {h with log:=[]} sz u=some (c1,1))(p:c1.length=sz)(h1:eG c1=true)(I:eG cs=true)
 (j:fF lo h.log)(F:WF h)
 (B:∀h' lg,Own h.next h' sz (.slice (some ⟨h.next,0,none⟩) (n+1) UNK) (n+1) (cs++c1)->h.next<h'.next->fF lo h'.log->WF h'→(∀z,z<h.next->(∀q a c,v= .slice (some ⟨q,0,none⟩) a c->z≠q)->h'.get z=h.get z)->∃d,bQ h' base lg mask rs=some d∧WD T base ops bf Q is d (cC e dst (.slice (some ⟨h.next,0,none⟩) (n+1) UNK)) h'):WD T base ops bf Q (i::is) rs e h:=by
 have f:(2*(n+1)+768)*b<=281474976710656:=by
  have:(2*(n+1)+768)*b<=2000768*100000:=R0 (by omega) hb;omega
 cases s with
 |nil=>
  have:=Own.full (lo:=h.next) (h:=h.push (.cells c1 true sz)) (sz:=sz) (q:=h.next) (n:=1) (cs:=c1) (bl _) (ec _) (Heap.iC _ _) (by omega) (by omega);obtain⟨d,A,m⟩:=B _ [] this (ec _) j (F.push _) (λz w _=>Heap.fC w);exact Ad (n:=1) ho D C k G H E (by omega) (by simpa using f) A m
 | @full q _ _ A m q3 q4 q5=>
   have J:Own h.next ((h.wr base q .dead).push (.cells (cs++c1) true sz)) sz (.slice (some ⟨h.next,0,none⟩) (n+1) UNK) (n+1) (cs++c1):= .full (bl _) (ec _) (Heap.iC _ _) (by rw[eA,q4,p,Do,Nat.one_mul]) (by omega)
   obtain⟨d,K,L⟩:=B _ [q] J (ec _) (((Lk.refl lo h).wr (base:=base) (o:= .dead) A).log j) ((F.as (AS.wr base _ q .dead)).push _) (λz w r=>(Heap.fC (by exact w)).trans (Heap.eZ (r q _ _ rfl)));exact nD ho D C k rfl (mF (h:={h with log:=[]}) (n:=1) (vs:=cs) (ws:=cs++c1) G H E (by omega) q3 q4 t h1 f (dI _ _)) (vX m _ _) (uD m .dead) K L
theorem FQ{x:Operand}(b:ev h e x=some (.slice none 0 0))(a:bnd h e 0 hi=some 0):aop h base e (.slice (.sl size) x none hi none)=some (.val (.slice none 0 0) h):=by
 simp only[aop,b,ia,qe,a];rfl
theorem WF.dS{h:Heap}(w:WF h){x:Nat}{o:bR}(b:h.get x=some o):x<h.next:=by
 refine w.lt x (Classical.byContradiction λa=> ?_);have:=Jd a;rw[show fK h.cI x=h.get x from rfl,b]at this;cases this
theorem Rdy.self{h:Heap}(hr:Rdy h):({h with log:=[]}:Heap)=h:=by
 have:=hr.log;cases h;cases this;rfl
structure Tt (h:Heap) (rs:List (Nat×Option (Option Nat))) (S:Nat->Prop) (Q:Value->Heap->Prop) (x:bE) (e:Env) (ds:Dfs) (h1:Heap):Prop where
 ok:(x= .normal∨x= .ret)/\ds=[]/\(∀z∈h1.log,S z)/\(h1=h∨∃q,q<h.next/\q∈h1.log/\mE h1 q)/\∃vs,bZ h1 e rs=some vs/\Q (eT vs) h1
theorem QC{v:Value}:gcA h h v=h:=by
 unfold gcA;cases cO v&&gj h h.next h.log<;>simp[pT,aR]
theorem Gs.ofK(p:aM T){c:aT}{rs:List (Nat×Option (Option Nat))}{Q:Value->Heap->Prop}(k:T f=some (.code c rs))
 (H:WE T h.next none c (Tt h rs S Q) (ej 0 args) [] h):Gs T f args h S Q:=by
 obtain⟨x,e,ds,a,⟨m,g⟩,⟨s,rfl,o,n,i,b,r⟩⟩:=H.ok;have j:=(fA.all p m).exec _ _ _ _ _ _ _ _ _ _ (g m (bl _)) (bl _);have l:gcA h a (eT i)=a:=by
  rcases n with rfl|⟨q,hq1,hq2,hq3⟩
  ·exact QC
  ·exact BQ hq1 hq2 hq3
 have d:Ws S h a/\∃v,Res.ret (eT i)= .ret v/\Q v a:=⟨Ws.nk j o,_,rfl,r⟩;refine CW.code k ⟨x,e,[],a,⟨m,g⟩,?_⟩;unfold xX;rcases s with rfl|rfl<;>(simp only[b,l];exact d)
theorem I8{h1:Heap}{rs:List (Nat×Option (Option Nat))}{Q:Value->Heap->Prop}(b:∀z∈h1.log,S z)(a:h1=h∨∃q,q<h.next/\q∈h1.log/\mE h1 q)(hr:bZ h1 e rs=some vs)(c:Q (eT vs) h1):Tt h rs S Q .normal e [] h1:=⟨⟨.inl rfl,rfl,b,a,vs,hr,c⟩⟩
theorem VW{b:Nat}{o:bR}(hb:b<base):b∈(h.wr base b o).log:=by
 simp only[Heap.wr,cond_eq_ite,gJ hb,if_true];split
 ·rename_i hh;exact jC.1 hh
 ·exact bx
theorem Fo{v:Value}(b:nQ v=false):∀{l:List Value},v∈l->dF l=false
 |a::l,hm=>by
  simp only[dF];rcases List.mem_cons.1 hm with rfl|hm
  ·rw[b];rfl
  ·rw[Fo b hm];cases nQ a<;>rfl
theorem Pr{b:Nat}{ops:List aZ}{bf:List Nat}{rs:List Rec}{Q:Env->Heap->Prop}{i mask:Nat}{is:List Nat}{dst:Option Nat}{g:Option (Nat×Bool)}{k:Env}{x y:Operand}{v u:Value}
 (s:Own lo h sz v n cs)(M:n<1000000)(t:0<sz)(hb:b<=100000)(m:base<=lo)
 (ho:bN ops i=some ⟨dst, .append sz b x y,g⟩)(D:bN bf i=some mask)(C:bU e (dh ⟨dst, .append sz b x y,g⟩)=k)(j:bL k g=some true)
 (F:ev {h with log:=[]} k x=some v)(G:ev {h with log:=[]} k y=some u)(E:cN {h with log:=[]} sz u=some (c1,1))(p:c1.length=sz)(h1:eG c1=true)(I:eG cs=true)
 (B:∀h' lg,Own h.next h' sz (.slice (some ⟨h.next,0,none⟩) (n+1) UNK) (n+1) (cs++c1)->h'.next=h.next+1->h'.log=h.log->(WF h->WF h')->(∀z,z<h.next->(∀q a c,v= .slice (some ⟨q,0,none⟩) a c->z≠q)->h'.get z=h.get z)->∃d,bQ h' base lg mask rs=some d∧WD T base ops bf Q is d (cC e dst (.slice (some ⟨h.next,0,none⟩) (n+1) UNK)) h'):WD T base ops bf Q (i::is) rs e h:=by
 have f:(2*(n+1)+768)*b<=281474976710656:=by
  have:(2*(n+1)+768)*b<=2000768*100000:=R0 (by omega) hb;omega
 cases s with
 |nil=>
  have:=Own.full (lo:=h.next) (h:=h.push (.cells c1 true sz)) (sz:=sz) (q:=h.next) (n:=1) (cs:=c1) (bl _) (ec _) (Heap.iC _ _) (by omega) (by omega);obtain⟨d,H,l⟩:=B _ [] this rfl rfl (λw=>w.push _) (λz A _=>Heap.fC A);exact Ad (n:=1) ho D C j F G E (by omega) (by simpa using f) H l
 | @full q _ _ H l q3 q4 q5=>
   have J:Own h.next ((h.wr base q .dead).push (.cells (cs++c1) true sz)) sz (.slice (some ⟨h.next,0,none⟩) (n+1) UNK) (n+1) (cs++c1):= .full (bl _) (ec _) (Heap.iC _ _) (by rw[eA,q4,p,Do,Nat.one_mul]) (by omega)
   obtain⟨d,K,L⟩:=B _ [q] J rfl (Heap.au (o:= .dead) (by omega)) (λw=>(w.as (AS.wr base _ q .dead)).push _) (λz A r=>(Heap.fC (by exact A)).trans (Heap.eZ (r q _ _ rfl)));exact nD ho D C j rfl (mF (h:={h with log:=[]}) (n:=1) (vs:=cs) (ws:=cs++c1) F G E (by omega) q3 q4 t h1 f (dI _ _)) (vX l _ _) (uD l .dead) K L
theorem yW{op:BinOp}{a b:Value}(H:WO T base rnd Q os (cC e dst v) ds h)(d:ev h e x=some a:=by rfl)(f:ev h e y=some b:=by rfl)(c:af op a b=some v:=by with_reducible assumption):WO T base rnd Q (⟨dst, .bin (.num op) x y,none⟩::os) e ds h:=aF (Av d f c) H
theorem yV{b:Nat}{l:List Value}{own:Bool}(H:WO T base rnd Q os (cC e dst (.agg l.toArray)) ds h)(d:ev h e x=some (.pointer (some ⟨b,o,none⟩)):=by rfl)(hb:h.get b=some (.cells vs own sz):=by assumption)(c:bO n (bK o vs)=l:=by assumption)(a:Nat.beq (bM l) n=true:=by assumption):WO T base rnd Q (⟨dst, .load (some n) x,none⟩::os) e ds h:=aF (bV d hb c a) H
theorem yI{b len cap i:Nat}{k:IntKind}(H:WO T base rnd Q os (cC e dst (.pointer (some ⟨b,o+i*size,none⟩))) ds h)(a:ev h e x=some (.slice (some ⟨b,o,none⟩) len cap):=by rfl)(c:ev h e y=some (.int k (i:Nat)):=by rfl)(hi:i<len:=by omega):WO T base rnd Q (⟨dst, .aD size x y,none⟩::os) e ds h:=aF (jA a c hi) H
section
variable {ops:List aZ} {bf:List Nat} {rs:List Rec} {R:Env->Heap->Prop} {i mask:Nat} {is:List Nat} {g:Option (Nat×Bool)} {er:Env}
theorem qW{op:BinOp}{a b:Value}(H:WD T base ops bf R is (⟨i,⟨dst, .bin (.num op) x y,g⟩,er,v, .quiet⟩::rs) (cC e dst v) h)(ho:bN ops i=some ⟨dst, .bin (.num op) x y,g⟩:=by rfl)(d:bN bf i=some mask:=by rfl)(c:bU e (dh ⟨dst, .bin (.num op) x y,g⟩)=er:=by rfl)(j:bL er g=some true:=by rfl)(k:ev h er x=some a:=by rfl)(l:ev h er y=some b:=by rfl)(f:af op a b=some v:=by with_reducible assumption):WD T base ops bf R (i::is) rs e h:=bI ho d c j rfl rfl (Av k l f) H
variable{o sz:Nat}{vs:List Value}{own:Bool}
theorem qV{n b:Nat}{l:List Value}(H:WD T base ops bf R is (⟨i,⟨dst, .load (some n) x,g⟩,er, .agg l.toArray, .quiet⟩::rs) (cC e dst (.agg l.toArray)) h)(ho:bN ops i=some ⟨dst, .load (some n) x,g⟩:=by rfl)(d:bN bf i=some mask:=by rfl)(a:bU e (dh ⟨dst, .load (some n) x,g⟩)=er:=by rfl)(j:bL er g=some true:=by rfl)(k:ev h er x=some (.pointer (some ⟨b,o,none⟩)):=by rfl)(hb:h.get b=some (.cells vs own sz):=by assumption)(f:bO n (bK o vs)=l:=by assumption)(c:Nat.beq (bM l) n=true:=by assumption):WD T base ops bf R (i::is) rs e h:=bI ho d a j rfl rfl (bV k hb f c) H
theorem qK{b:Nat}(H:WD T base ops bf R is (⟨i,⟨dst, .load none x,g⟩,er,v, .quiet⟩::rs) (cC e dst v) h)(ho:bN ops i=some ⟨dst, .load none x,g⟩:=by rfl)(c:bN bf i=some mask:=by rfl)(a:bU e (dh ⟨dst, .load none x,g⟩)=er:=by rfl)(f:bL er g=some true:=by rfl)(j:ev h er x=some (.pointer (some ⟨b,o,none⟩)):=by rfl)(hb:h.get b=some (.cells vs own sz):=by assumption)(d:bN vs o=some v:=by assumption):WD T base ops bf R (i::is) rs e h:=bI ho c a f rfl rfl (dV j hb d) H
variable{j size:Nat}
theorem qI{b len cap:Nat}{k:IntKind}(H:WD T base ops bf R is (⟨i,⟨dst, .aD size x y,g⟩,er, .pointer (some ⟨b,o+j*size,none⟩), .quiet⟩::rs) (cC e dst (.pointer (some ⟨b,o+j*size,none⟩))) h)(ho:bN ops i=some ⟨dst, .aD size x y,g⟩:=by rfl)(c:bN bf i=some mask:=by rfl)(a:bU e (dh ⟨dst, .aD size x y,g⟩)=er:=by rfl)(d:bL er g=some true:=by rfl)(f:ev h er x=some (.slice (some ⟨b,o,none⟩) len cap):=by rfl)(l:ev h er y=some (.int k (j:Nat)):=by rfl)(hi:j<len:=by omega):WD T base ops bf R (i::is) rs e h:=bI ho c a d rfl rfl (jA f l hi) H
theorem qJ{b len:Nat}{k:IntKind}(H:WD T base ops bf R is (⟨i,⟨dst, .cQ len size x y,g⟩,er, .pointer (some ⟨b,o+j*size,none⟩), .quiet⟩::rs) (cC e dst (.pointer (some ⟨b,o+j*size,none⟩))) h)(ho:bN ops i=some ⟨dst, .cQ len size x y,g⟩:=by rfl)(c:bN bf i=some mask:=by rfl)(a:bU e (dh ⟨dst, .cQ len size x y,g⟩)=er:=by rfl)(d:bL er g=some true:=by rfl)(f:ev h er x=some (.pointer (some ⟨b,o,none⟩)):=by rfl)(l:ev h er y=some (.int k (j:Nat)):=by rfl)(hi:j<len:=by omega):WD T base ops bf R (i::is) rs e h:=bI ho c a d rfl rfl (tY f l hi) H
theorem qO{op:AOp}(H:WD T base ops bf R is (⟨i,⟨dst,op,g⟩,er, .tuple #[], .skip⟩::rs) (cC e dst (.tuple #[])) h)(ho:bN ops i=some ⟨dst,op,g⟩:=by rfl)(b:bN bf i=some mask:=by rfl)(a:bU e (dh ⟨dst,op,g⟩)=er:=by rfl)(c:bL er g=some false:=by rfl):WD T base ops bf R (i::is) rs e h:=VF ho b a c H
end
end Go.A
end
section
namespace Go.A
variable {T:Nat->Option an} {base:Nat} {rnd:Option Nat} {Q:XQ} {e:Env} {ds:Dfs} {h:Heap}
structure YQW (px:bE) (l:Nat) (L LX:bR) (W:Nat->Prop) (n:Nat) (R S:Heap->Prop) (x:bE) (e:Env) (ds:Dfs) (h3:Heap):Prop where
 busy:∃o,h3.get l=some o/\busy o=true
 log:∀z∈h3.log,W z
 rel:(x= .normal/\∀h5:Heap,n<=h5.next->(∀z,z<n->z≠l->h5.get z=h3.get z)->h5.get l=some L->R h5)∨(x=px/\∀h5:Heap,h5.next=h3.next->(∀z,z≠l->h5.get z=h3.get z)->h5.get l=some LX->S h5)
structure YAW (px:bE) (T:Nat->Option an) (l:Nat) (e:Env) (ps:List Nat) (asg body:aT) (W:Nat->Prop) (n:Nat) (R S:Heap->Prop) (x:bE) (e2:Env) (ds2:Dfs) (h2:Heap):Prop where
 x:x= .normal
 loop:h2.get l=some (.loop e ps asg body 0 .normal)
 body:WE T n (some l) body (YQW px l (.loop e ps asg body 0 .normal) (.loop e ps asg body 2 px) W n R S) e2 ds2 (h2.wr 0 l (.loop e ps asg body 1 .normal))
variable{px:bE}{l:Nat}{W:Nat->Prop}{ps:List Nat}{asg body:aT}{args:List Value}{S:Heap->Prop}
theorem FW.VY(Q:aM T)(J:px= .ret∨∃i,px= .exit i){e1:Env}{R:Heap->Prop}(P:h.get l=some (.loop e ps asg body 0 .normal))(O:jU e ps args=some e1)(t:l<h.next)(G:W l)
 (H:WE T h.next (some l) asg (YAW px T l e ps asg body W h.next R S) e1 [] h):
 FW T (.yield l) args h λr h'=>(∀z∈h'.log,W z)/\(r= .ret (.bool true)/\R h'∨r= .ret (.bool false)/\l∈h'.log/\S h'):=by
 obtain⟨x,e2,Y,N,⟨m,I⟩,⟨rfl,F,X⟩⟩:=H.ok;obtain⟨x3,e3,Z,B,⟨D,q⟩,⟨⟨o,C,E⟩,g,f⟩⟩:=X.ok;have u:notReady (N.get l)=false:=by rw[F];rfl
 have j:∃a b c d p,o= .loop a b c d 1 p:=by
  unfold A.busy at E;split at E
  ·exact⟨_,_,_,_,_,rfl⟩
  ·cases E
 obtain⟨oa,ob,oc,od,op,rfl⟩:=j;rcases f with⟨rfl,f⟩|⟨rfl,f⟩
 ·have L:=(fA.all Q m).exec _ _ _ _ _ _ _ _ _ _ (I m (bl _)) (bl _);have U:=(fA.all Q D).exec _ _ _ _ _ _ _ _ _ _ (q D (bl _)) L.next
  have V:AS 0 h (B.wr 0 l (.loop e ps asg body 0 .normal)):=((L.zero.trans (AS.wr 0 N l _)).trans U.zero).trans (AS.wr 0 B l _);obtain⟨M,g2,g3⟩:=AQ (v:= .bool true) V;refine⟨.ret (.bool true),gcA h (B.wr 0 l (.loop e ps asg body 0 .normal)) (.bool true),⟨m+D+1,λn hn=> ?_⟩,?_, .inl ⟨rfl,?_⟩⟩
  ·obtain⟨k,rfl⟩:∃k,n=k+1:=⟨n-1,by omega⟩;have K:=I k (by omega);have y:=q k (by omega);rw[←wr0]at y;simp only[gU,P,O,K,u,cond_false,y,C];rfl
  ·rw[g3];exact g
  ·refine f _ g2 (λz w s=>(M z w).trans (Heap.eZ s)) ((M l t).trans ?_);exact Heap.aP C
 ·refine⟨.ret (.bool false),B.wr h.next l (.loop e ps asg body 2 x3),⟨m+D+1,λn hn=> ?_⟩,?_, .inr ⟨rfl,tO t,?_⟩⟩
  ·obtain⟨k,rfl⟩:∃k,n=k+1:=⟨n-1,by omega⟩;have K:=I k (by omega);have y:=q k (by omega);rw[←wr0]at y;rcases J with rfl|⟨i,rfl⟩<;>simp only[gU,P,O,K,u,cond_false,y,C]
  ·intro z w;rcases fk w with rfl|w
   ·exact G
   ·exact g z w
  ·exact f _ rfl (λz s=>Heap.eZ s) (Heap.aP C)
structure PZ {α:Type} (px:bE) (T:Nat->Option an) (W:Nat->Prop) (N l:Nat) (V:α->List Value) (all:List α) (P:List α->Heap->Prop) (S:Heap->Prop):Prop where
 tQ:∀done x H,x∈all->Rdy H->N<=H.next->P done H->FW T (.yield l) (V x) H λr H'=>(∀z∈H'.log,W z)/\(r= .ret (.bool true)/\P (done++[x]) H'∨r= .ret (.bool false)/\l∈H'.log/\S H')
 gu:∀done H H',P done H->N<=H'.next->(∀x,x<N->H'.get x=H.get x)->P done H'
 Sa:∀H m,S H->S {H with log:=m}
 IA:∀H,S H->∃a b c d,H.get l=some (.loop a b c d 2 px)
 low:∀z,W z->z<N
theorem PZ.call(n:aM T){α:Type}{px:bE}{W:Nat->Prop}{N l:Nat}{V:α->List Value}{all:List α}{P:List α->Heap->Prop}{S:Heap->Prop}(Y:PZ px T W N l V all P S){K:Env->Dfs->Heap->Prop}{dst:Option Nat}{done:List α}{x:α}(p:x∈all)(o:WF h)(b:N<=h.next)(c:l<base)(j:P done h)
 (i:∀h',Ws W h h'→P (done++[x]) h'→K (cC e dst (.bool true)) ds h')
 (k:∀h',Ws W h h'→l∈h'.log->S h'→K (cC e dst (.bool false)) ds h'):FW T (.yield l) (V x) {h with log:=[]} (KO K Q base dst e ds h.log):=by
 refine FW.mono' (FW.He n (Y.tQ done x _ p (.of o) b (Y.gu _ _ _ j b λ_ _=>rfl)) rfl) ?_;rintro r g ⟨d,m,a⟩;have f:Ws W {h with log:=[]} g:=Ws.nk d m;rcases a with⟨rfl,a⟩|⟨rfl,hm,a⟩
 ·exact⟨i _ f.call (Y.gu _ _ _ a (ed b d.next) λ_ _=>rfl)⟩
 ·exact⟨k _ f.call (mem_merge c hm) (Y.Sa _ _ a)⟩
def GrW(T:Nat->Option an)(f:Nat)(args:List Value)(h:Heap)(W:Nat->Prop)(P S:Heap->Prop):Prop:=CW T f args h λr h'=>Ws W h h'∧∃v,r= .ret v/\(P h'∨S h')
structure T3 (rs:List (Nat×Option (Option Nat))) (W:Nat->Prop) (l:Nat) (P S:Heap->Prop) (x:bE) (e:Env) (ds:Dfs) (h1:Heap):Prop where
 ok:(x= .normal∨x= .ret)/\ds=[]/\(∀z∈h1.log,W z)/\(∃vs,bZ h1 e rs=some vs)/\(P h1∨l∈h1.log/\S h1)
variable{rs:List (Nat×Option (Option Nat))}{P:Heap->Prop}{vs:List Value}
theorem LQ(a:∀z∈h.log,W z)(hr:bZ h e rs=some vs)(b:l∈h.log)(c:S h):T3 rs W l P S .ret e [] h:=⟨⟨.inr rfl,rfl,a,⟨vs,hr⟩, .inr ⟨b,c⟩⟩⟩
theorem LP(a:∀z∈h.log,W z)(hr:bZ h e rs=some vs)(b:P h):T3 rs W l P S .normal e [] h:=⟨⟨.inl rfl,rfl,a,⟨vs,hr⟩, .inl b⟩⟩
theorem GrW.of(B:aM T){f:Nat}{c:aT}(z:T f=some (.code c rs))(k:l<h.next)
 (w:∀g h2:Heap,h.next<=h2.next->(∀x,x<h.next->h2.get x=g.get x)->P g->P h2)(y:∀H,S H->∃a b c d,H.get l=some (.loop a b c d 2 px))(H:WE T h.next none c (T3 rs W l P S) (ej 0 args) [] h):GrW T f args h W P S:=by
 obtain⟨x,e,ds,g,⟨m,r⟩,⟨C,rfl,A,⟨j,o⟩,i⟩⟩:=H.ok;have q:=(fA.all B m).exec _ _ _ _ _ _ _ _ _ _ (r m (bl _)) (bl _);obtain⟨s,t,u,D⟩:=nZ (v:=eT j) q;have p:Ws W h (gcA h g (eT j))/\∃v,Res.ret (eT j)= .ret v/\(P (gcA h g (eT j))∨S (gcA h g (eT j))):=by
  refine⟨Ws.nk (q.gc' _) (by rw[u];exact A),_,rfl,?_⟩;rcases i with i|⟨hml,i⟩
  ·exact .inl (w _ _ t s i)
  ·obtain⟨a,b,c,d,n⟩:=y _ i;rw[HW n k hml];exact .inr i
 refine CW.code z ⟨x,e,[],g,⟨m,r⟩,?_⟩;unfold xX;rcases C with rfl|rfl<;>(simp only[o];exact p)
theorem merge_lt{base z:Nat}:∀{m l:List Nat},z∈aH base l m->z∈l∨z∈m/\z<base
 |[],l,h=> .inl h
 |b::m,l,h=>by
  simp only[aH]at h;rcases merge_lt (m:=m) h with h|⟨h,hb⟩
  ·revert h;rw[cond_eq_ite,cond_eq_ite];split
   ·rename_i hlt;split
    ·exact .inl
    ·intro h;rcases List.mem_cons.1 h with rfl|h
     ·exact .inr ⟨bx ..,by rw[blt_eq]at hlt;simpa using hlt⟩
     ·exact .inl h
   ·exact .inl
  ·exact .inr ⟨bu _ h,hb⟩
theorem Ks{h1:Heap}{f:Operand}{g:Nat}{first cap:Array Value}(hr:rC h1 rnd=true)(D:ev h1 e f=some (.func (.func g) first cap))(n:iD (T g)=false)
 (l:base<=h1.next)(F:WF h1)
 (x:GrW T g (ek first.toList (ek [.func (.yield h1.next) #[] #[]] cap.toList)) {h1.push (.loop e ps asg body 0 .normal)with log:=[]} W P S)
 (B:∀H,P H->∃a b c d,H.get h1.next=some (.loop a b c d 0 .normal))(C:∀H,S H->∃a b c d,H.get h1.next=some (.loop a b c d 2 px))
 (y:∀h h3:Heap,(∀z∈h3.log,z∈h1.log∨W z/\z<base)->WF h3->h1.next<h3.next->h3.next=h.next->(∀z,z≠h1.next->h3.get z=h.get z)->(∀z,z<h1.next->¬W z->h3.get z=h1.get z)->P h->Q .normal e ds h3)
 (A:∀h h3:Heap,(∀z∈h3.log,z∈h1.log∨W z/\z<base)->WF h3->h1.next<h3.next->h3.next=h.next->(∀z,z≠h1.next->h3.get z=h.get z)->(∀z,z<h1.next->¬W z->h3.get z=h1.get z)->S h->Q px e ds h3):WE T base rnd (.rangeFunc f ps asg body) Q e ds h1:=by
 refine Ae hr D n (CW.mono x ?_);rintro r h ⟨k,v,rfl,j⟩;have s:∀z∈(({h with log:=aH base h1.log h.log}:Heap).wr base h1.next .dead).log,z∈h1.log∨W z/\z<base:=by
  rw[Heap.au (by omega)];intro z i;rcases merge_lt (show z∈aH base h1.log h.log from i)with i|⟨i,hb⟩
  ·exact .inl i
  ·rcases k.log z i with q|q
   ·cases q
   ·exact .inr ⟨q,hb⟩
 have t:WF (({h with log:=aH base h1.log h.log}:Heap).wr base h1.next .dead):=((k.wf ((F.push _).log _)).log _).as (AS.wr _ _ _ _);have u:h1.next<h.next:=k.next
 have p:∀z,z≠h1.next->(({h with log:=aH base h1.log h.log}:Heap).wr base h1.next .dead).get z=h.get z:=λz o=>Heap.eZ o
 have w:∀z,z<h1.next->¬W z->(({h with log:=aH base h1.log h.log}:Heap).wr base h1.next .dead).get z=h1.get z:=λz i E=>(p z (by omega)).trans ((k.old z (yr i) E).trans (Heap.fC i))
 rcases j with j|j
 ·obtain⟨a,b,c,d,m⟩:=B _ j;exact⟨_,rfl,_,_,_,_,_,_,m,rfl,y h _ s t u rfl p w j⟩
 ·obtain⟨a,b,c,d,m⟩:=C _ j;exact⟨_,rfl,_,_,_,_,_,_,m,rfl,A h _ s t u rfl p w j⟩
def RdE(E E2:Env)(ok:Bool)(x:bE)(e2:Env)(ds2:Dfs)(h2:Heap):Prop:=ds2=[]/\h2.log=[]/\(ok=true/\x= .normal/\FD e2 E=true∨ok=false/\x= .ret/\e2=E2)
def RdO(T:Nat->Option an)(base:Nat)(rnd:Option Nat)(body:aT)(k2:List Nat)(E E2:Env)(ok:Bool)(x:bE)(e1:Env)(ds1:Dfs)(h1:Heap):Prop:=x= .normal/\ds1=[]/\WE T base rnd body (RdE E E2 ok) (bU e1 k2) [] h1
theorem DD{nxt m:Nat}{l:List Nat}{body:aT}{g:List aZ}{E E2 eo:Env}{i:Heap}(ho:zm eo E2=true)(j:uS E2 E2=true){P:Value×Value->Prop}:∀(es:List (Value×Value)),(∀f∈es,∃b,(b=true↔P f)/\WO T base rnd (RdO T base rnd body l E E2 b) g ((m, .tuple #[f.1,f.2])::E) [] i)→
 ∃b:Bool,(b=true↔ ∀f∈es,P f)/\∃M,∀n,M<=n->oR (λe h=>gz T n base rnd g e [] h) (λe h=>cE T n base rnd body e [] h) nxt m l E eo i es=some (if b then none else some (.ret,E2))
 |[],_=>⟨true,⟨λ_ f h=>(by cases h),λ_=>rfl⟩,0,λn _=>rfl⟩
 |(k,v)::es,H=>by
  obtain⟨b,hb,M,hM⟩:=DD (nxt:=nxt) (eo:=eo) ho j es λf d=>H f (bu _ d);obtain⟨c,s,⟨x,B,q,C,⟨w,z⟩,rfl,rfl,W⟩⟩:=H (k,v) bx;obtain⟨G,e2,r,D,⟨y,A⟩,rfl,t,u⟩:=W.ok;refine⟨c&&b,?_,M+w+y,λn F=> ?_⟩
  ·rw[dk,hb,s];constructor
   ·rintro⟨o,p⟩ f d;rcases List.mem_cons.1 d with rfl|d
    ·exact o
    ·exact p f d
   ·exact λa=>⟨a _ bx,λf d=>a f (bu _ d)⟩
  ·simp only[oR,z n (by omega),A n (by omega),t,hM n (by omega)];rcases u with⟨rfl,rfl,h4⟩|⟨rfl,rfl,rfl⟩
   ·simp only[Ia,h4,cond_true,wd]
   ·simp only[Ia,ho,cond_true,A1];cases b<;>simp[j]
variable{d:Nat}{x:Operand}
theorem FH{ops a:List aZ}{c nxt r m:Nat}{keep o:List Nat}{e0 E2:Env}{es:List (Value×Value)}(s:EvO T base rnd ops e [] h (.normal,e0,[],h))(l:ev h e0 x=some (.map (some m)))(j:h.get m=some (.map es))(ho:zm (bU e0 keep) E2=true)(y:uS E2 E2=true)(P:Value×Value->Prop)
 (t:∀kv∈es,∃b,(b=true↔P kv)/\WO T (h.next+1) rnd (RdO T (h.next+1) rnd body o (itE c h (bU e0 keep)) E2 b) a ((r, .tuple #[kv.1,kv.2])::itE c h (bU e0 keep)) [] ((roM h m es).push .dead))
 (u:(∀kv∈es,P kv)->Q .normal (bU e0 keep) [] h)(v:(¬ ∀kv∈es,P kv)->Q .ret E2 [] h):WE T base rnd (.rangeMap ops c x keep d nxt r a o body) Q e [] h:=by
 obtain⟨p,f⟩:=s;obtain⟨b,i,M,g⟩:=DD (nxt:=nxt) ho y es t;cases ha:b with
 |true=>
  refine⟨⟨_,_,_,_,⟨M+p+1,λn w=> ?_⟩,u (i.1 ha)⟩⟩;obtain⟨k,rfl⟩:∃k,n=k+1:=⟨n-1,by omega⟩;simp only[cE,f k (by omega),l,j];rw[g k (by omega),ha];rfl
 |false=>
  refine⟨⟨_,_,_,_,⟨M+p+1,λn w=> ?_⟩,v λq=>by rw[i.2 q]at ha;cases ha⟩⟩;obtain⟨k,rfl⟩:∃k,n=k+1:=⟨n-1,by omega⟩;simp only[cE,f k (by omega),l,j];rw[g k (by omega),ha];rfl
theorem EvO.mov{v:Value}(a:ev h e x=some v):EvO T base rnd [⟨some d, .mov x,none⟩] e [] h (.normal,(d,v)::e,[],h):=⟨2,λn b=>by
 obtain⟨k,rfl⟩:∃k,n=k+2:=⟨n-2,by omega⟩;simp only[gz,bL,aop,a,cT,cC]⟩
end Go.A
end
section
namespace Go.A
section
variable{T:Nat->Option an}{b:Nat}{r:Option Nat}{X:XQ}{os:List aZ}{e:Env}{ds:Dfs}{h:Heap}{d:Option Nat}{x y z:Operand}{R:Prop}{n:Nat}{a c:aT}{K:Env->Dfs->Heap->Prop}{E:bE}{rs:List Rec}{bf is:List Nat}{Z:Env->Heap->Prop}
abbrev YpO:=@id (R->WO T b r X os e ds h)
abbrev YpE:=@id (R->WE T b r a X e ds h)
abbrev YpD:=@id (R->WD T b os bf Z is rs e h)
abbrev Yp0:=@id (R->WO T b r X (⟨d, .mov x,none⟩::os) e ds h)
variable{t:Nat}{B:Bool}{p:AOp}{u:FM}{l:List Operand}
abbrev Yp1:=@id (R->WO T b r X (⟨d, p,some (t,B)⟩::os) e ds h)
abbrev Yp2:=@id (R->WO T b r X [] e ds h)
abbrev Yp3:=@id (R->WO T b r X (⟨d, .bin u x y,none⟩::os) e ds h)
abbrev Yp4:=@id (R->WO T b r X (⟨d, .load (some n) x,none⟩::os) e ds h)
abbrev Yp5:=@id (R->WO T b r X (⟨d, .load none x,none⟩::os) e ds h)
abbrev Yp6:=@id (R->WO T b r X (⟨d, .call x l,none⟩::os) e ds h)
abbrev Yp7:=@id (R->WO T b r X (⟨d, .dg n x,none⟩::os) e ds h)
abbrev Yp8:=@id (R->WO T b r X (⟨d, .len n x,none⟩::os) e ds h)
abbrev Yp9:=@id (R->WO T b r X (⟨d, .box x,none⟩::os) e ds h)
abbrev Yp10:=@id (R->WO T b r X (⟨d, .extract x n,none⟩::os) e ds h)
abbrev Yp11:=@id (R->WO T b r X (⟨d, .pick x y z,none⟩::os) e ds h)
abbrev Yp12:=@id (R->WO T b r X (⟨d, .aD n x y,none⟩::os) e ds h)
abbrev Yp13:=@id (R->WO T b r X (⟨d, .store n x y,none⟩::os) e ds h)
variable{D:List Value}
abbrev Yp14:=@id (R->WO T b r X (⟨d, .new D,none⟩::os) e ds h)
abbrev Yp15:=@id (R->WE T b r (.seq a c) X e ds h)
abbrev Yp16:=@id (R->WE T b r (.cond x a c) X e ds h)
abbrev Yp17:=@id (R->WE T b r (.skip) X e ds h)
abbrev Yp18:=@id (R->WE T b r (.ret) X e ds h)
abbrev Yp19:=@id (R->WE T b r (.block n a) X e ds h)
abbrev Yp20:=@id (R->KS K X E e ds h)
abbrev Yp21:=@id (R->KB n X E e ds h)
end
theorem YW{h:Heap}{x b:Nat}{o p:bR}(g:h.get b=some p):(h.wr x b o).get b=some o:=by rw[z6,g];rfl
theorem YG{h:Heap}{b:Nat}{c:Option bR}(H:h.get b=c:=by first|assumption|exact z3 _ _|exact Go.A.z8 (by omega) (by omega)|exact YW (by assumption)|(rw[z5 (by omega)];assumption)|(rw[z5 (by omega)];exact YW (by assumption))|exact YW ((z5 (by omega)).trans (by assumption))|(rw[z4 (by omega)];assumption)|(rw[z6,Go.A.z8 (by omega) (by omega)];exact rfl)|(rw[z6,z3];exact rfl)|(simp(disch:=first|omega|(simp only[z1,z2];omega))only[z3,z4,z5,z6,z7,z1,z2, *];done)|(simp(disch:=first|omega|(simp only[z1,z2];omega))only[z3,z4,z5,z6,z7,z1,z2, *];exact rfl)|(simp(disch:=first|omega|(simp only[z1,z2];omega)|(simp only[z1,z2];done)|fail)only[Go.A.z8,z4,z5,z9,z7,z1,z2, *];done)|(simp(disch:=first|omega|(simp only[z1,z2];omega)|(simp only[z1,z2];done)|fail)only[Go.A.z8,z4,z5,z9,z7,z1,z2, *];exact rfl)|(simp(disch:=first|omega|(simp only[z1,z2];omega))only[z3,z4,z5,z6,z7,z1,z2];done)|(simp(disch:=first|omega|(simp only[z1,z2];omega))only[z3,z4,z5,z6,z7,z1,z2];exact rfl)|(simp(disch:=first|omega|(simp only[z1,z2];omega)|(simp only[z1,z2];done)|fail)only[Go.A.z8,z4,z5,z9,z7,z1,z2];done)|(simp(disch:=first|omega|(simp only[z1,z2];omega)|(simp only[z1,z2];done)|fail)only[Go.A.z8,z4,z5,z9,z7,z1,z2];exact rfl)):h.get b=c:=H
variable{P:Prop}
theorem Yc1{R:Prop}(s:R->P:=by first|(apply YpO;first|(apply Yp0;first|exact λH=>yM H)|(apply Yp1;first|exact λH=>yO H|exact λH=>yP H)|(apply Yp2;first|exact λH=>y3 H)|(apply Yp3;first|exact λH=>yW H|exact λH=>aaA H|exact λH=>yt H|exact λH=>yf H)|(apply Yp4;first|exact λH=>yV H|exact λH=>yN H)|(apply Yp5;first|exact λH=>aF (dV (by rfl) (by assumption) (by assumption)) H|exact λH=>yL H|exact λH=>yL (hb:=YG) H)|(apply Yp6;first|exact λH=>yC H)|(apply Yp7;first|exact λH=>yF H)|(apply Yp8;first|exact λH=>yD H)|(apply Yp9;first|exact λH=>yB H)|(apply Yp10;first|exact λH=>yE H)|(apply Yp11;first|exact λH=>yT H|exact λH=>yU H)|(apply Yp12;first|exact λH=>yI H)|(apply Yp13;first|exact λH=>yS H|exact λH=>yS (hb:=YG) H)|(apply Yp14;first|exact λH=>aF (sG) H)|(exact λH=>yA H)|(exact λH=>SK (by rfl) H)|(exact λH=>aF (mG (by rfl) (by rfl)) H)|(exact λH=>aF (TM (by rfl) (by rfl)) H)|(exact λH=>aF (oO (by rfl)) H)|(exact λH=>aF (tY (by rfl) (by rfl) (by omega)) H)|(exact λH=>aF (tZ (by rfl)) H)|(exact λH=>aF (KU (by rfl) (by rfl)) H))|(apply YpE;first|(apply Yp15;first|exact λH=>y4 H|exact λH=>rM H)|(apply Yp16;first|exact λH=>yX H|exact λH=>yY H)|(apply Yp17;first|exact λH=>SC H)|(apply Yp18;first|exact λH=>nT H)|(apply Yp19;first|exact λH=>mW H)|(exact λH=>sw H)|(exact λH=>IP H)|(exact λH=>Df H))|(apply YpD;first|(exact λH=>qM H)|(exact λH=>qF H)|(exact λH=>qV H)|(exact λH=>qW H)|(exact λH=>qI H)|(exact λH=>qC H)|(exact λH=>qK H)|(exact λH=>qJ H)|(exact λH=>qL H)|(exact λH=>qN H)|(exact λH=>qO H)|(exact λH=>lW H)|(exact λH=>bI rfl rfl rfl (by rfl) (by rfl) (by rfl) (vk (by rfl)) H)|(exact λH=>bI rfl rfl rfl (by rfl) (by rfl) (by rfl) (KW (by rfl)) H)|(exact λH=>bI rfl rfl rfl (by rfl) (by rfl) (by rfl) (BB (by rfl) (by rfl)) H)|(exact λH=>bI rfl rfl rfl (by rfl) (by rfl) (by rfl) (Hz (by rfl) (by rfl)) H)|(exact λH=>bI rfl rfl rfl (by rfl) (by rfl) (by rfl) (tZ (by rfl)) H)|(exact λH=>bI rfl rfl rfl (by rfl) (by rfl) (by rfl) (wM (by rfl) (by rfl)) H)|(exact λH=>bI rfl rfl rfl (by rfl) (by rfl) (by rfl) (BC (by rfl) (by rfl)) H))|(first|(apply Yp20;first|exact λH=>uA H|exact λH=>Gd H|exact λH=>XS H)|(apply Yp21;first|exact λH=>MD H|exact λH=>MC H|exact λH=>aaf H)|(exact λH=>y1 H))):R->P:=s
variable{Q:Prop}
theorem Yc2{R:Prop}(s:Q->P:=by exact Yc1)(g:R->Q:=by exact Yc1):R->P:=λa=>s (g a)
theorem Yc3{R:Prop}(s:Q->P:=by exact Yc1)(g:R->Q:=by exact Yc2):R->P:=λa=>s (g a)
theorem Yc4{R:Prop}(s:Q->P:=by exact Yc1)(g:R->Q:=by exact Yc3):R->P:=λa=>s (g a)
theorem Yc5{R:Prop}(s:Q->P:=by exact Yc1)(g:R->Q:=by exact Yc4):R->P:=λa=>s (g a)
theorem Yc6{R:Prop}(s:Q->P:=by exact Yc1)(g:R->Q:=by exact Yc5):R->P:=λa=>s (g a)
theorem Yc7{R:Prop}(s:Q->P:=by exact Yc1)(g:R->Q:=by exact Yc6):R->P:=λa=>s (g a)
theorem Yc8{R:Prop}(s:Q->P:=by exact Yc1)(g:R->Q:=by exact Yc7):R->P:=λa=>s (g a)
theorem Yc9{R:Prop}(s:Q->P:=by exact Yc1)(g:R->Q:=by exact Yc8):R->P:=λa=>s (g a)
theorem Yc10{R:Prop}(s:Q->P:=by exact Yc1)(g:R->Q:=by exact Yc9):R->P:=λa=>s (g a)
theorem Yc11{R:Prop}(s:Q->P:=by exact Yc1)(g:R->Q:=by exact Yc10):R->P:=λa=>s (g a)
theorem Yc12{R:Prop}(s:Q->P:=by exact Yc1)(g:R->Q:=by exact Yc11):R->P:=λa=>s (g a)
theorem Yc13{R:Prop}(s:Q->P:=by exact Yc1)(g:R->Q:=by exact Yc12):R->P:=λa=>s (g a)
theorem Yc14{R:Prop}(s:Q->P:=by exact Yc1)(g:R->Q:=by exact Yc13):R->P:=λa=>s (g a)
theorem Yc15{R:Prop}(s:Q->P:=by exact Yc1)(g:R->Q:=by exact Yc14):R->P:=λa=>s (g a)
theorem Yc16{R:Prop}(s:Q->P:=by exact Yc1)(g:R->Q:=by exact Yc15):R->P:=λa=>s (g a)
theorem Yc17{R:Prop}(s:Q->P:=by exact Yc1)(g:R->Q:=by exact Yc16):R->P:=λa=>s (g a)
theorem Yc18{R:Prop}(s:Q->P:=by exact Yc1)(g:R->Q:=by exact Yc17):R->P:=λa=>s (g a)
theorem Yc19{R:Prop}(s:Q->P:=by exact Yc1)(g:R->Q:=by exact Yc18):R->P:=λa=>s (g a)
theorem Yc20{R:Prop}(s:Q->P:=by exact Yc1)(g:R->Q:=by exact Yc19):R->P:=λa=>s (g a)
theorem Yc21{R:Prop}(s:Q->P:=by exact Yc1)(g:R->Q:=by exact Yc20):R->P:=λa=>s (g a)
theorem Yc22{R:Prop}(s:Q->P:=by exact Yc1)(g:R->Q:=by exact Yc21):R->P:=λa=>s (g a)
theorem Yc23{R:Prop}(s:Q->P:=by exact Yc1)(g:R->Q:=by exact Yc22):R->P:=λa=>s (g a)
theorem Yc24{R:Prop}(s:Q->P:=by exact Yc1)(g:R->Q:=by exact Yc23):R->P:=λa=>s (g a)
theorem Yc25{R:Prop}(s:Q->P:=by exact Yc1)(g:R->Q:=by exact Yc24):R->P:=λa=>s (g a)
theorem Yc26{R:Prop}(s:Q->P:=by exact Yc1)(g:R->Q:=by exact Yc25):R->P:=λa=>s (g a)
theorem Yc27{R:Prop}(s:Q->P:=by exact Yc1)(g:R->Q:=by exact Yc26):R->P:=λa=>s (g a)
theorem Yc28{R:Prop}(s:Q->P:=by exact Yc1)(g:R->Q:=by exact Yc27):R->P:=λa=>s (g a)
theorem Yc29{R:Prop}(s:Q->P:=by exact Yc1)(g:R->Q:=by exact Yc28):R->P:=λa=>s (g a)
theorem Yc30{R:Prop}(s:Q->P:=by exact Yc1)(g:R->Q:=by exact Yc29):R->P:=λa=>s (g a)
theorem Yc31{R:Prop}(s:Q->P:=by exact Yc1)(g:R->Q:=by exact Yc30):R->P:=λa=>s (g a)
theorem Yc32{R:Prop}(s:Q->P:=by exact Yc1)(g:R->Q:=by exact Yc31):R->P:=λa=>s (g a)
theorem Yc33{R:Prop}(s:Q->P:=by exact Yc1)(g:R->Q:=by exact Yc32):R->P:=λa=>s (g a)
theorem Yc34{R:Prop}(s:Q->P:=by exact Yc1)(g:R->Q:=by exact Yc33):R->P:=λa=>s (g a)
theorem Yc35{R:Prop}(s:Q->P:=by exact Yc1)(g:R->Q:=by exact Yc34):R->P:=λa=>s (g a)
theorem Yc36{R:Prop}(s:Q->P:=by exact Yc1)(g:R->Q:=by exact Yc35):R->P:=λa=>s (g a)
theorem Yc37{R:Prop}(s:Q->P:=by exact Yc1)(g:R->Q:=by exact Yc36):R->P:=λa=>s (g a)
theorem Yc38{R:Prop}(s:Q->P:=by exact Yc1)(g:R->Q:=by exact Yc37):R->P:=λa=>s (g a)
theorem Yc39{R:Prop}(s:Q->P:=by exact Yc1)(g:R->Q:=by exact Yc38):R->P:=λa=>s (g a)
theorem Yc40{R:Prop}(s:Q->P:=by exact Yc1)(g:R->Q:=by exact Yc39):R->P:=λa=>s (g a)
theorem Y2{R:Prop}(H:R)(s:R->P:=by exact Yc2):P:=s H
theorem Y3{R:Prop}(H:R)(s:R->P:=by exact Yc3):P:=s H
theorem Y4{R:Prop}(H:R)(s:R->P:=by exact Yc4):P:=s H
theorem Y5{R:Prop}(H:R)(s:R->P:=by exact Yc5):P:=s H
theorem Y6{R:Prop}(H:R)(s:R->P:=by exact Yc6):P:=s H
theorem Y7{R:Prop}(H:R)(s:R->P:=by exact Yc7):P:=s H
theorem Y8{R:Prop}(H:R)(s:R->P:=by exact Yc8):P:=s H
theorem Y9{R:Prop}(H:R)(s:R->P:=by exact Yc9):P:=s H
theorem Y10{R:Prop}(H:R)(s:R->P:=by exact Yc10):P:=s H
theorem Y11{R:Prop}(H:R)(s:R->P:=by exact Yc11):P:=s H
theorem Y12{R:Prop}(H:R)(s:R->P:=by exact Yc12):P:=s H
theorem Y13{R:Prop}(H:R)(s:R->P:=by exact Yc13):P:=s H
theorem Y14{R:Prop}(H:R)(s:R->P:=by exact Yc14):P:=s H
theorem Y15{R:Prop}(H:R)(s:R->P:=by exact Yc15):P:=s H
theorem Y16{R:Prop}(H:R)(s:R->P:=by exact Yc16):P:=s H
theorem Y17{R:Prop}(H:R)(s:R->P:=by exact Yc17):P:=s H
theorem Y18{R:Prop}(H:R)(s:R->P:=by exact Yc18):P:=s H
theorem Y19{R:Prop}(H:R)(s:R->P:=by exact Yc19):P:=s H
theorem Y20{R:Prop}(H:R)(s:R->P:=by exact Yc20):P:=s H
theorem Y21{R:Prop}(H:R)(s:R->P:=by exact Yc21):P:=s H
theorem Y22{R:Prop}(H:R)(s:R->P:=by exact Yc22):P:=s H
theorem Y23{R:Prop}(H:R)(s:R->P:=by exact Yc23):P:=s H
theorem Y24{R:Prop}(H:R)(s:R->P:=by exact Yc24):P:=s H
theorem Y25{R:Prop}(H:R)(s:R->P:=by exact Yc25):P:=s H
theorem Y26{R:Prop}(H:R)(s:R->P:=by exact Yc26):P:=s H
theorem Y27{R:Prop}(H:R)(s:R->P:=by exact Yc27):P:=s H
theorem Y28{R:Prop}(H:R)(s:R->P:=by exact Yc28):P:=s H
theorem Y29{R:Prop}(H:R)(s:R->P:=by exact Yc29):P:=s H
theorem Y30{R:Prop}(H:R)(s:R->P:=by exact Yc30):P:=s H
theorem Y31{R:Prop}(H:R)(s:R->P:=by exact Yc31):P:=s H
theorem Y32{R:Prop}(H:R)(s:R->P:=by exact Yc32):P:=s H
theorem Y33{R:Prop}(H:R)(s:R->P:=by exact Yc33):P:=s H
theorem Y34{R:Prop}(H:R)(s:R->P:=by exact Yc34):P:=s H
theorem Y35{R:Prop}(H:R)(s:R->P:=by exact Yc35):P:=s H
theorem Y36{R:Prop}(H:R)(s:R->P:=by exact Yc36):P:=s H
theorem Y37{R:Prop}(H:R)(s:R->P:=by exact Yc37):P:=s H
theorem Y38{R:Prop}(H:R)(s:R->P:=by exact Yc38):P:=s H
theorem Y39{R:Prop}(H:R)(s:R->P:=by exact Yc39):P:=s H
theorem Y40{R:Prop}(H:R)(s:R->P:=by exact Yc40):P:=s H
theorem Ext.eU{h h':Heap}{b o}(x:Ext h h')(g:h.get b=o)(i:b<h.next:=by omega):h'.get b=o:=(x.old b i).trans g
abbrev qt(v:List Value):bR:=.cells v true 1
abbrev sb(b:Nat):Value:=.pointer (some ⟨b,0,none⟩)
abbrev sh(b:Nat):Nat->Nat->Value:=.slice (some ⟨b,0,none⟩)
abbrev zc(n:Int):Value:=.int .i64 n
abbrev zd(a b:Int)(c:Bool):Prop:=af .lss (.int .i64 a) (.int .i64 b)=some (.bool c)
abbrev zp(a b:Int)(c:Bool):Prop:=af .leq (.int .i64 a) (.int .i64 b)=some (.bool c)
abbrev zs(a b:Int)(c:Bool):Prop:=af .gtr (.int .i64 a) (.int .i64 b)=some (.bool c)
abbrev zt(a b:Int)(c:Bool):Prop:=af .geq (.int .i64 a) (.int .i64 b)=some (.bool c)
abbrev zz(a b:Int)(c:Bool):Prop:=af .eql (.int .i64 a) (.int .i64 b)=some (.bool c)
abbrev zB(a b:Int)(c:Bool):Prop:=af .neq (.int .i64 a) (.int .i64 b)=some (.bool c)
abbrev zE(a b c:Int):Prop:=af .add (.int .i64 a) (.int .i64 b)=some (.int .i64 c)
abbrev vd(a b c:Int):Prop:=af .sub (.int .i64 a) (.int .i64 b)=some (.int .i64 c)
abbrev vx(a b c:Int):Prop:=af .mul (.int .i64 a) (.int .i64 b)=some (.int .i64 c)
end Go.A
end
