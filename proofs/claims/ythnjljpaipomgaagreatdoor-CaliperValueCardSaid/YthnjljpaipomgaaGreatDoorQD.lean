/- How a run is reckoned. -/
import Derived.Test.YthnjljpaipomgaaGreatDoorQC
import Derived.Test.YthnjljpaipomgaaGreatDoorQA
import Derived.Lib.Bytealg
import Derived.Below
import Derived.Test.YthnjljpaipomgaaGreatDoorQE
set_option linter.all false
set_option maxRecDepth 100000
section
namespace Go.A
variable {P:Program}
def Tr.all(Q:Nat->aq->Prop):Tr->Prop
 | .nil=>True
 | .node l k v r=>l.all Q/\Q k v/\r.all Q
theorem Tr.all_nil{Q:Nat->aq->Prop}:Tr.all Q .nil:=trivial
variable{k:Nat}
theorem Tr.aa{Q:Nat->aq->Prop}{l r:Tr}{v:aq}(h1:l.all Q)(a:Q k v)(b:r.all Q):Tr.all Q (.node l k v r):=⟨h1,a,b⟩
theorem Tr.vA{Q:Nat->aq->Prop}:∀{t:Tr} {n:Nat} {v:aq},t.all Q->t.get n=some v->Q n v
 | .nil,_,_,_,h=>by cases h
 | .node l k v r,n,u,ha,h=>by
   simp only[Tr.get,cond_eq_ite,beq_eq,decide_eq_true_eq]at h;split at h
   ·rename_i e;subst e;cases h;exact ha.2.1
   ·split at h
    ·exact Tr.vA ha.1 h
    ·exact Tr.vA ha.2.2 h
def Aq(P:Program)(f:Nat)(p:List Value->Heap->Option (Value×Heap)):Prop:=∀args h v h',p args h=some (v,h')->h.log=[]->AS h.next h h'∧∀μ w args',R P μ h w->LR μ args args'→oQ P (gU P μ h w (.ret v) h') ((callFunc f args'.toArray).run P w)
inductive Entry (P:Program) (k:Nat):aq->Prop
 |code {c rs fn ks}:P.funcs[k]? =some fn->aM P fn ks=some (.code c rs)->Entry P k (.code c rs)
 |lD {p}:Aq P k p->Entry P k (.lD p)
theorem Entry.of{fn:Func}{a:aq}{ks:List (List Nat)}(h1:P.funcs[k]? =some fn)(c:aM P fn ks=some a):Entry P k a:=by
 have b:=c;unfold aM at b;split at b
 ·split at b
  ·cases b
  ·split at b
   ·cases b;exact .code h1 c
   ·cases b
 ·cases b
theorem qR{t:Tr}(i:P.follows .mixedOrders=true)(h:t.all (Entry P)):ez P t.get where
 mixed:=i
 code:=λf c rs b=>by
  have:=Tr.vA h b;cases this with
  |code h1 h2=>exact⟨_,_,h1,h2⟩
 lD:=λf p a e v d b j g=>by
  have:=Tr.vA h b;cases this with
  |lD h1=>exact h1 a e v d j g
variable{μ:Mu}{h:Heap}{w:World}
theorem R.grow{w':World}(d:R P μ h w)(l:w.heap.size<=w'.heap.size)(f:∀r,r<w.heap.size->w'.heap[r]? =w.heap[r]?)(j:Same w w'):R P μ h w'∧St μ h w μ h w':=
 ⟨⟨d.big,fun g o m n=>let⟨k,a,b,c,x⟩:=d.lR g o m n;⟨k,a,b,c,x.get (f _ (d.dom _ _ a).2)⟩,fun b o e=>OR.mono (fun _ _ h=>h) rfl (fun k i=>f _ (d.dom _ _ i).2) (d.obj b o e),d.lt,fun b k e=>⟨(d.dom b k e).1,hK (d.dom b k e).2 l⟩,d.kT⟩,
   ⟨λ_ _=>rfl,l,λr p _=>f r p,λ_ _ h=>h,λr L h=>⟨L,(f r (Array.getElem?_eq_some_iff.1 h).1).trans h, .refl L⟩,j⟩⟩
variable{f:Nat}
theorem Iw{fn:Func}(a:P.funcs[f]? =some fn)(c:fn.name≠ "runtime.NumGoroutine")(hb:fn.body.isSome=true)(args:Array Value)(w:World):(callFunc f args).run P w= .ok (.enter f args) w:=by
 cases hb':fn.body with
 |none=>rw[hb']at hb;cases hb
 |some b=>simp[callFunc,program,Sem.run,a,hb',c]
theorem kJ{fn:Func}(c:P.funcs[f]? =some fn)(d:fn.name≠ "runtime.NumGoroutine")(hb:fn.body.isSome=true){args:Array Value}{Q:Ending→World→Prop}(b:Calls P f args w Q)
 {a:Res}{h':Heap}(g:∀e w',Q e w'→gU P μ h w a h' e w'):oQ P (gU P μ h w a h') ((callFunc f args).run P w):=by
 rw[Iw c d hb];exact callsIn_wide.2 (b.mono g)
theorem LR.two{x y:Value}{l:List Value}(h:LR μ [x,y] l):∃x' y',l=[x',y']/\VR μ x x'∧VR μ y y':=by
 cases h with
 |cons h1 h2=>cases h2 with
  |cons h2 h3=>cases h3;exact⟨_,_,rfl,h1,h2⟩
end Go.A
end
section
namespace Go.A
variable {T:Nat->Option aq}
def Ev(T:Nat->Option aq)(base:Nat)(rnd:Option Nat)(c:aN)(e:Env)(ds:Dfs)(h:Heap)(r:bk×Env×Dfs×Heap):Prop:=∃m,∀n,m<=n->cC T n base rnd c e ds h=some r
def EvO(T:Nat->Option aq)(base:Nat)(rnd:Option Nat)(ops:List aP)(e:Env)(ds:Dfs)(h:Heap)(r:bk×Env×Dfs×Heap):Prop:=∃m,∀n,m<=n->fZ T n base rnd ops e ds h=some r
def EvD(T:Nat->Option aq)(base:Nat)(ops:List aP)(is bf:List Nat)(rs:List Rec)(e:Env)(h:Heap)(r:bk×Env×Heap):Prop:=∃m,∀n,m<=n->dU T n base ops is bf rs e h=some r
def EvF(T:Nat->Option aq)(fn:Fn)(args:List Value)(h:Heap)(r:Res×Heap):Prop:=∃m,∀n,m<=n->gG T n fn args h=some r
def EvC(T:Nat->Option aq)(f:Nat)(args:List Value)(h:Heap)(r:Res×Heap):Prop:=∃m,∀n,m<=n->iJ T n f args h=some r
def XW(T:Nat->Option aq)(base:Nat)(rnd:Option Nat)(c:aN)(e:Env)(ds:Dfs)(h:Heap)(Q:bk->Env->Dfs->Heap->Prop):Prop:=∃x e' ds' h',Ev T base rnd c e ds h (x,e',ds',h')/\Q x e' ds' h'
def FW(T:Nat->Option aq)(fn:Fn)(args:List Value)(h:Heap)(Q:Res->Heap->Prop):Prop:=∃r h',EvF T fn args h (r,h')/\Q r h'
def CW(T:Nat->Option aq)(f:Nat)(args:List Value)(h:Heap)(Q:Res->Heap->Prop):Prop:=∃r h',EvC T f args h (r,h')/\Q r h'
variable{base:Nat}{rnd:Option Nat}{c:aN}{e:Env}{h:Heap}{Q:bk->Env->Dfs->Heap->Prop}
theorem XW.mono{a:Dfs}{b:bk->Env->Dfs->Heap->Prop}(H:XW T base rnd c e a h Q)(d:∀x e a h,Q x e a h->b x e a h):XW T base rnd c e a h b:=
 let⟨x,e',ds',h',h1,h2⟩:=H;⟨x,e',ds',h',h1,d _ _ _ _ h2⟩
variable{f:Nat}{args:List Value}
theorem CW.mono{Q a:Res->Heap->Prop}(H:CW T f args h Q)(b:∀r h,Q r h->a r h):CW T f args h a:=
 let⟨r,h',h1,h2⟩:=H;⟨r,h',h1,b _ _ h2⟩
abbrev XQ:=bk->Env->Dfs->Heap->Prop
def kR(keep:List Nat)(Q:XQ):XQ:=λx e ds h=>match x with
 | .normal=>Q .normal (bD e keep) ds h
 |x=>Q x e ds h
def kB(id:Nat)(Q:XQ):XQ:=λx e ds h=>match x with
 | .exit i=>(i=id->Q .normal e ds h)/\(i≠id->Q (.exit i) e ds h)
 |x=>Q x e ds h
def kS(K:Env->Dfs->Heap->Prop)(Q:XQ):XQ:=λx e ds h=>match x with
 | .normal=>K e ds h
 |x=>Q x e ds h
def kO(K:Env->Dfs->Heap->Prop)(Q:XQ)(base:Nat)(dst:Option Nat)(e:Env)(ds:Dfs)(log:List Nat):Res->Heap->Prop:=λr h2=>match r with
 | .ret v=>K (bN e dst v) ds {h2 with log:=aB base log h2.log}
 | .panic v=>Q (.panic v) e ds {h2 with log:=aB base log h2.log}
def kD(K:List Rec->Env->Heap->Prop)(base:Nat)(mask:Nat)(rs:List Rec)(dst:Option Nat)(e:Env)(log:List Nat):Res->Heap->Prop:=λr h2=>match r with
 | .ret v=>match br {h2 with log:=aB base log h2.log} base h2.log mask rs with
   |some rs'=>K rs' (bN e dst v) {h2 with log:=aB base log h2.log}
   |none=>False
 | .panic _=>False
def wpA(T:Nat->Option aq)(base:Nat)(rnd:Option Nat)(wpO:Env->Dfs->Heap->Prop)(Q:XQ)(dst:Option Nat)(e:Env)(ds:Dfs)(h:Heap):Option cU->Prop
 |some (.val v h')=>wpO (bN e dst v) ds h'
 |some (.call fn args h')=>FW T fn args {h' with log:=[]} (kO wpO Q base dst e ds h'.log)
 |some (.jI f args)=>rnd=none/\wpO (bN e dst (.tuple #[])) ((f,args)::ds) h
 |some (.panic v h')=>Q (.panic v) e ds h'
 |_=>False
def wpG(A:Prop)(B:Prop):Option Bool->Prop
 |some c=>(c=false->B)/\(c=true->A)
 |none=>False
def wpO(T:Nat->Option aq)(base:Nat)(rnd:Option Nat)(Q:XQ):List aP->Env->Dfs->Heap->Prop
 |[],e,ds,h=>Q .normal e ds h
 |o::os,e,ds,h=>wpG (wpA T base rnd (wpO T base rnd Q os) Q o.dst e ds h (aop h base e o.op)) (wpO T base rnd Q os (bN e o.dst (.tuple #[])) ds h) (bA e o.guard)
def Wn(T:Nat->Option aq)(base:Nat)(wpD:List Rec->Env->Heap->Prop)(i:Nat)(o:aP)(mask:Nat)(rs:List Rec)(er e:Env)(h:Heap):Prop:=
 match jb o.op with
 |true=>
  match aop h base er o.op with
  |some (.val v h')=>
   match dF o.op with
   |true=>mS h' base rs=true/\wpD (⟨i,o,er,v, .made h.next⟩::rs) (bN e o.dst v) h'
   |false=>h'.next=h.next/\wpD (⟨i,o,er,v, .quiet⟩::rs) (bN e o.dst v) h
  |_=>False
 |false=>
  match aop {h with log:=[]} h.next er o.op with
  |some (.val v h2)=>match br {h2 with log:=aB base h.log h2.log} base h2.log mask rs with
   |some rs'=>wpD rs' (bN e o.dst v) {h2 with log:=aB base h.log h2.log}
   |none=>False
  |some (.call fn args _)=>FW T fn args {h with log:=[]} (kD wpD base mask rs o.dst e h.log)
  |_=>False
def wpD(T:Nat->Option aq)(base:Nat)(ops:List aP)(bf:List Nat)(Q:Env->Heap->Prop):List Nat->List Rec->Env->Heap->Prop
 |[],_,e,h=>Q e h
 |i::is,rs,e,h=>
  match bK ops i,bK bf i with
  |some o,some mask=>wpG (Wn T base (wpD T base ops bf Q is) i o mask rs (bD e (cA o)) e h) (wpD T base ops bf Q is (⟨i,o,bD e (cA o), .tuple #[], .skip⟩::rs) (bN e o.dst (.tuple #[])) h) (bA (bD e (cA o)) o.guard)
  |_,_=>False
def wpC(A B:Prop):Option Value->Prop
 |some (.bool t)=>(t=true->A)/\(t=false->B)
 |_=>False
def wpE(T:Nat->Option aq)(base:Nat)(rnd:Option Nat):aN->XQ->Env->Dfs->Heap->Prop
 | .skip,Q,e,ds,h=>Q .normal e ds h
 | .region ops keep,Q,e,ds,h=>wpO T base rnd (kR keep Q) ops e ds h
 | .draw ops order bf keep,Q,e,ds,h=>wpD T base ops bf (λe' h'=>Q .normal (bD e' keep) ds h') order [] e h
 | .seq a b,Q,e,ds,h=>wpE T base rnd a (kS (wpE T base rnd b Q) Q) e ds h
 | .cond c a b,Q,e,ds,h=>wpC (wpE T base rnd a Q e ds h) (wpE T base rnd b Q e ds h) (ev h e c)
 | .block id b,Q,e,ds,h=>wpE T base rnd b (kB id Q) e ds h
 | .loop b,Q,e,ds,h=>XW T base rnd (.loop b) e ds h Q
 | .rangeFunc f ps a b,Q,e,ds,h=>XW T base rnd (.rangeFunc f ps a b) e ds h Q
 | .scope b,Q,e,ds,h=>wpE T base rnd b Q e ds h
 | .rangeMap o i x k ou nx pr o2 k2 b,Q,e,ds,h=>XW T base rnd (.rangeMap o i x k ou nx pr o2 k2 b) e ds h Q
 | .exit id,Q,e,ds,h=>Q (.exit id) e ds h
 | .ret,Q,e,ds,h=>Q .ret e ds h
theorem uA{base:Nat}{rnd:Option Nat}{Q:XQ}:∀{ops:List aP} {e:Env} {l:Dfs} {h:Heap},wpO T base rnd Q ops e l h->∃x b a d,EvO T base rnd ops e l h (x,b,a,d)/\Q x b a d
 |[],e,l,h,H=>⟨.normal,e,l,h,⟨1,λn j=>by obtain⟨k,rfl⟩:∃k,n=k+1:=⟨n-1,by omega⟩;simp only[fZ]⟩,H⟩
 |o::os,e,l,h,H=>by
  simp only[wpO]at H;unfold wpG at H;split at H
  ·rename_i c hc;cases c with
   |false=>
    obtain⟨x,b,a,d,⟨m,g⟩,i⟩:=uA (H.1 rfl);exact⟨x,b,a,d,⟨m+1,λn j=>by
     obtain⟨k,rfl⟩:∃k,n=k+1:=⟨n-1,by omega⟩;simp only[fZ,hc];exact g k (by omega)⟩,i⟩
   |true=>
    have H:=H.2 rfl;unfold wpA at H;split at H
    ·rename_i v h3 ho;obtain⟨x,b,a,d,⟨m,g⟩,i⟩:=uA H;exact⟨x,b,a,d,⟨m+1,λn j=>by
      obtain⟨k,rfl⟩:∃k,n=k+1:=⟨n-1,by omega⟩;simp only[fZ,hc,ho];exact g k (by omega)⟩,i⟩
    ·rename_i fn args h3 ho;obtain⟨r,t,⟨q,p⟩,H⟩:=H;cases r with
     |ret v=>
      obtain⟨x,b,a,d,⟨m,g⟩,i⟩:=uA H;exact⟨x,b,a,d,⟨m+q+1,λn j=>by
       obtain⟨k,rfl⟩:∃k,n=k+1:=⟨n-1,by omega⟩;simp only[fZ,hc,ho,p k (by omega)];exact g k (by omega)⟩,i⟩
     |panic v=>
      exact⟨_,_,_,_,⟨q+1,λn j=>by
       obtain⟨k,rfl⟩:∃k,n=k+1:=⟨n-1,by omega⟩;simp only[fZ,hc,ho,p k (by omega)]⟩,H⟩
    ·rename_i f args ho;obtain⟨s,H⟩:=H;subst s;obtain⟨x,b,a,d,⟨m,g⟩,i⟩:=uA H;exact⟨x,b,a,d,⟨m+1,λn j=>by
      obtain⟨k,rfl⟩:∃k,n=k+1:=⟨n-1,by omega⟩;simp only[fZ,hc,ho];exact g k (by omega)⟩,i⟩
    ·rename_i v h3 ho;exact⟨_,_,_,_,⟨1,λn j=>by
      obtain⟨k,rfl⟩:∃k,n=k+1:=⟨n-1,by omega⟩;simp only[fZ,hc,ho]⟩,H⟩
    ·exact H.elim
  ·exact H.elim
theorem FB{base:Nat}{ops:List aP}{bf:List Nat}{Q:Env->Heap->Prop}:∀{is:List Nat} {rs:List Rec} {e:Env} {h:Heap},wpD T base ops bf Q is rs e h->∃d f,EvD T base ops is bf rs e h (.normal,d,f)/\Q d f
 |[],rs,e,h,H=>⟨e,h,⟨1,λn g=>by obtain⟨k,rfl⟩:∃k,n=k+1:=⟨n-1,by omega⟩;simp only[dU]⟩,H⟩
 |i::is,rs,e,h,H=>by
  simp only[wpD]at H;split at H
  ·rename_i o mask ho hm;unfold wpG at H;split at H
   ·rename_i c hc;have fin:∀{b:List Rec} {e1:Env} {h1:Heap},wpD T base ops bf Q is b e1 h1->(∃m,∀n,m<=n->∀r,dU T n base ops is bf b e1 h1=some r->dU T (n+1) base ops (i::is) bf rs e h=some r)->∃d f,EvD T base ops (i::is) bf rs e h (.normal,d,f)/\Q d f:=λs ⟨t,q⟩=>by
     obtain⟨d,f,⟨m,h1⟩,j⟩:=FB s;exact⟨d,f,⟨m+t+1,λn g=>by
      obtain⟨k,rfl⟩:∃k,n=k+1:=⟨n-1,by omega⟩;exact q k (by omega) _ (h1 k (by omega))⟩,j⟩
    cases c with
    |false=>
     exact fin (H.1 rfl) ⟨0,λn _ r a=>by simp only[dU,ho,hm,hc];exact a⟩
    |true=>
     have H:=H.2 rfl;unfold Wn at H;split at H
     ·rename_i he;split at H
      ·rename_i v h3 hop;split at H
       ·rename_i hnw;exact fin H.2 ⟨0,λn _ r a=>by simp only[dU,ho,hm,hc,he,hop,hnw,H.1,cond_true];exact a⟩
       ·rename_i hnw;exact fin H.2 ⟨0,λn _ r a=>by
         have l:Nat.beq h3.next h.next=true:=by rw[beq_eq];simpa using H.1
         simp only[dU,ho,hm,hc,he,hop,hnw,l,cond_true,cond_false];exact a⟩
      ·exact H.elim
     ·rename_i he;split at H
      ·rename_i v h3 hop;split at H
       ·rename_i b hrs;exact fin H ⟨0,λn _ r a=>by simp only[dU,ho,hm,hc,he,hop,hrs,cond_false];exact a⟩
       ·exact H.elim
      ·rename_i fn args h3 hop;obtain⟨r,w,⟨u,p⟩,H⟩:=H;unfold kD at H;split at H
       ·rename_i v;split at H
        ·rename_i b hrs;exact fin H ⟨u,λn g r a=>by simp only[dU,ho,hm,hc,he,hop,p n g,hrs,cond_false];exact a⟩
        ·exact H.elim
       ·exact H.elim
      ·exact H.elim
   ·exact H.elim
  ·exact H.elim
theorem sC{base:Nat}{rnd:Option Nat}:∀{c:aN} {Q:XQ} {e:Env} {j:Dfs} {h:Heap},wpE T base rnd c Q e j h->XW T base rnd c e j h Q
 | .skip,Q,e,j,h,H=>⟨_,_,_,_,⟨1,λn l=>by obtain⟨k,rfl⟩:∃k,n=k+1:=⟨n-1,by omega⟩;simp only[cC]⟩,H⟩
 | .exit i,Q,e,j,h,H=>⟨_,_,_,_,⟨1,λn l=>by obtain⟨k,rfl⟩:∃k,n=k+1:=⟨n-1,by omega⟩;simp only[cC]⟩,H⟩
 | .ret,Q,e,j,h,H=>⟨_,_,_,_,⟨1,λn l=>by obtain⟨k,rfl⟩:∃k,n=k+1:=⟨n-1,by omega⟩;simp only[cC]⟩,H⟩
 | .loop b,Q,e,j,h,H=>H
 | .rangeFunc f ps a b,Q,e,j,h,H=>H
 | .rangeMap o i x k ou nx pr o2 k2 b,Q,e,j,h,H=>H
 | .scope b,Q,e,j,h,H=>by
   obtain⟨x,q,p,r,⟨m,d⟩,g⟩:=sC (c:=b) H;exact⟨_,_,_,_,⟨m+1,λn l=>by
    obtain⟨k,rfl⟩:∃k,n=k+1:=⟨n-1,by omega⟩;simp only[cC,d k (by omega)]⟩,g⟩
 | .region ops keep,Q,e,j,h,H=>by
   obtain⟨x,q,p,r,⟨m,d⟩,g⟩:=uA H;cases x with
   |normal=>exact⟨_,_,_,_,⟨m+1,λn l=>by
    obtain⟨k,rfl⟩:∃k,n=k+1:=⟨n-1,by omega⟩;simp only[cC,d k (by omega)]⟩,g⟩
   |_=>exact⟨_,_,_,_,⟨m+1,fun n l=>by
     obtain⟨k,rfl⟩:∃k,n=k+1:=⟨n-1,by omega⟩;simp only[cC,d k (by omega)]⟩,g⟩
 | .draw ops order bf keep,Q,e,j,h,H=>by
   obtain⟨q,r,⟨m,d⟩,g⟩:=FB H;exact⟨_,_,_,_,⟨m+1,λn l=>by
    obtain⟨k,rfl⟩:∃k,n=k+1:=⟨n-1,by omega⟩;simp only[cC,d k (by omega)]⟩,g⟩
 | .seq a b,Q,e,j,h,H=>by
   obtain⟨x,q,p,r,⟨m,d⟩,g⟩:=sC (c:=a) H;cases x with
   |normal=>
    obtain⟨A,e2,u,z,⟨y,v⟩,w⟩:=sC (c:=b) g;exact⟨_,_,_,_,⟨m+y+1,λn l=>by
     obtain⟨k,rfl⟩:∃k,n=k+1:=⟨n-1,by omega⟩;simp only[cC,d k (by omega)];exact v k (by omega)⟩,w⟩
   |_=>exact⟨_,_,_,_,⟨m+1,fun n l=>by
     obtain⟨k,rfl⟩:∃k,n=k+1:=⟨n-1,by omega⟩;simp only[cC,d k (by omega)]⟩,g⟩
 | .cond c a b,Q,e,j,h,H=>by
   simp only[wpE]at H;unfold wpC at H;split at H
   ·rename_i t ht;cases t with
    |true=>
     obtain⟨x,q,p,r,⟨m,d⟩,g⟩:=sC (c:=a) (H.1 rfl);exact⟨_,_,_,_,⟨m+1,λn l=>by
      obtain⟨k,rfl⟩:∃k,n=k+1:=⟨n-1,by omega⟩;simp only[cC,ht];exact d k (by omega)⟩,g⟩
    |false=>
     obtain⟨x,q,p,r,⟨m,d⟩,g⟩:=sC (c:=b) (H.2 rfl);exact⟨_,_,_,_,⟨m+1,λn l=>by
      obtain⟨k,rfl⟩:∃k,n=k+1:=⟨n-1,by omega⟩;simp only[cC,ht];exact d k (by omega)⟩,g⟩
   ·exact H.elim
 | .block id b,Q,e,j,h,H=>by
   obtain⟨x,q,p,r,⟨m,d⟩,g⟩:=sC (c:=b) H;cases x with
   |exit i=>
    by_cases hi:i=id
    ·exact⟨_,_,_,_,⟨m+1,λn l=>by
      obtain⟨k,rfl⟩:∃k,n=k+1:=⟨n-1,by omega⟩;have s:Nat.beq i id=true:=by rw[beq_eq];simpa using hi
      simp only[cC,d k (by omega),s,cond_true]⟩,g.1 hi⟩
    ·exact⟨_,_,_,_,⟨m+1,λn l=>by
      obtain⟨k,rfl⟩:∃k,n=k+1:=⟨n-1,by omega⟩;have s:Nat.beq i id=false:=by rw[beq_eq];simpa using hi
      simp only[cC,d k (by omega),s,cond_false]⟩,g.2 hi⟩
   |_=>exact⟨_,_,_,_,⟨m+1,fun n l=>by
     obtain⟨k,rfl⟩:∃k,n=k+1:=⟨n-1,by omega⟩;simp only[cC,d k (by omega)]⟩,g⟩
variable{b:aN}
theorem XW.loop(I:Nat->Env->Dfs->Heap->Prop)
 (hr:∀k e a h,I k e a h->XW T base rnd b e a h λx f c g=>match x with| .normal=>∃d,d<k/\I d f c g|x=>Q x f c g):
 ∀{k:Nat} {e:Env} {a:Dfs} {h:Heap},I k e a h->XW T base rnd (.loop b) e a h Q:=by
 intro k;induction k using Nat.strongRecOn with
 |ind k ih=>
  intro e a h r;obtain⟨x,f,c,g,⟨m,j⟩,l⟩:=hr k e a h r;cases x with
  |normal=>
   obtain⟨d,s,i⟩:=l;obtain⟨w,e2,o,v,⟨u,p⟩,q⟩:=ih d s i;exact⟨_,_,_,_,⟨m+u+1,λn t=>by
    obtain⟨k,rfl⟩:∃k,n=k+1:=⟨n-1,by omega⟩;simp only[cC,j k (by omega)];exact p k (by omega)⟩,q⟩
  |_=>exact⟨_,_,_,_,⟨m+1,fun n t=>by
    obtain⟨k,rfl⟩:∃k,n=k+1:=⟨n-1,by omega⟩;simp only[cC,j k (by omega)]⟩,l⟩
theorem XW.XY{a:aN}{g:Dfs}
 (H:XW T base rnd a e g h λx d c f=>match x with| .normal=>XW T base rnd b d c f Q|x=>Q x d c f):XW T base rnd (.seq a b) e g h Q:=by
 obtain⟨x,d,c,f,⟨m,i⟩,j⟩:=H;cases x with
 |normal=>
  obtain⟨t,e2,l,s,⟨r,o⟩,p⟩:=j;exact⟨_,_,_,_,⟨m+r+1,λn q=>by
   obtain⟨k,rfl⟩:∃k,n=k+1:=⟨n-1,by omega⟩;simp only[cC,i k (by omega)];exact o k (by omega)⟩,p⟩
 |_=>exact⟨_,_,_,_,⟨m+1,fun n q=>by
   obtain⟨k,rfl⟩:∃k,n=k+1:=⟨n-1,by omega⟩;simp only[cC,i k (by omega)]⟩,j⟩
theorem FW.func{Q:Res->Heap->Prop}(H:CW T f args h Q):FW T (.func f) args h Q:=by
 obtain⟨r,a,⟨m,b⟩,c⟩:=H;exact⟨r,a,⟨m+1,λn d=>by
  obtain⟨k,rfl⟩:∃k,n=k+1:=⟨n-1,by omega⟩;simp only[gG];exact b k (by omega)⟩,c⟩
def vg(rs:List (Nat×Option (Option Nat)))(h:Heap)(Q:Res->Heap->Prop):bk->Env->Dfs->Heap->Prop:=λx e ds h1=>
 match x with
 | .exit _=>False
 | .panic v=>match ds with
   |[]=>Q (.panic v) h1
   |_=>False
 |_=>match ds with
  |[]=>match bL h1 e rs with
   |some vs=>Q (.ret (dO vs)) (gcA h h1 (dO vs))
   |none=>False
  |_=>False
theorem CW.code{Q:Res->Heap->Prop}{rs:List (Nat×Option (Option Nat))}(b:T f=some (.code c rs))
 (H:XW T h.next none c (dM 0 args) [] h (vg rs h Q)):CW T f args h Q:=by
 obtain⟨x,e,ds,g,⟨m,a⟩,H⟩:=H;unfold vg at H;cases x with
 |exit _=>exact H.elim
 |panic v=>
  dsimp only at H;split at H
  ·refine⟨_,_,⟨m+2,λn d=> ?_⟩,H⟩;obtain⟨k,rfl⟩:∃k,n=k+2:=⟨n-2,by omega⟩;have:=a (k+1) (by omega);simp only[iJ,this,nE,b]
  ·exact H.elim
 |normal=>
  dsimp only at H;split at H
  ·split at H
   ·rename_i vs hvs;refine⟨_,_,⟨m+2,λn d=> ?_⟩,H⟩;obtain⟨k,rfl⟩:∃k,n=k+2:=⟨n-2,by omega⟩;have:=a (k+1) (by omega);simp only[iJ,this,nE,b,hvs]
   ·exact H.elim
  ·exact H.elim
 |ret=>
  dsimp only at H;split at H
  ·split at H
   ·rename_i vs hvs;refine⟨_,_,⟨m+2,λn d=> ?_⟩,H⟩;obtain⟨k,rfl⟩:∃k,n=k+2:=⟨n-2,by omega⟩;have:=a (k+1) (by omega);simp only[iJ,this,nE,b,hvs]
   ·exact H.elim
  ·exact H.elim
end Go.A
end
section
namespace Go.A
variable {T:Nat->Option aq} {base:Nat} {rnd:Option Nat} {Q:XQ} {e:Env} {ds:Dfs} {h:Heap} {c:aN}
structure WE (T:Nat->Option aq) (base:Nat) (rnd:Option Nat) (c:aN) (Q:XQ) (e:Env) (ds:Dfs) (h:Heap):Prop where
 ok:XW T base rnd c e ds h Q
structure WO (T:Nat->Option aq) (base:Nat) (rnd:Option Nat) (Q:XQ) (ops:List aP) (e:Env) (ds:Dfs) (h:Heap):Prop where
 ok:∃x e' ds' h',EvO T base rnd ops e ds h (x,e',ds',h')/\Q x e' ds' h'
structure WD (T:Nat->Option aq) (base:Nat) (ops:List aP) (bf:List Nat) (Q:Env->Heap->Prop) (is:List Nat) (rs:List Rec) (e:Env) (h:Heap):Prop where
 ok:∃e' h',EvD T base ops is bf rs e h (.normal,e',h')/\Q e' h'
structure KR (keep:List Nat) (Q:XQ) (x:bk) (e:Env) (ds:Dfs) (h:Heap):Prop where
 ok:kR keep Q x e ds h
structure KS (K:Env->Dfs->Heap->Prop) (Q:XQ) (x:bk) (e:Env) (ds:Dfs) (h:Heap):Prop where
 ok:kS K Q x e ds h
structure KB (i:Nat) (Q:XQ) (x:bk) (e:Env) (ds:Dfs) (h:Heap):Prop where
 ok:kB i Q x e ds h
structure KO (K:Env->Dfs->Heap->Prop) (Q:XQ) (base:Nat) (dst:Option Nat) (e:Env) (ds:Dfs) (log:List Nat) (r:Res) (h:Heap):Prop where
 ok:kO K Q base dst e ds log r h
structure KD (K:List Rec->Env->Heap->Prop) (base:Nat) (mask:Nat) (rs:List Rec) (dst:Option Nat) (e:Env) (log:List Nat) (r:Res) (h:Heap):Prop where
 ok:kD K base mask rs dst e log r h
theorem WE.of(H:wpE T base rnd c Q e ds h):WE T base rnd c Q e ds h:=⟨sC H⟩
theorem Qr(H:Q .normal e ds h):WE T base rnd .skip Q e ds h:= .of H
variable{i:Nat}
theorem Qo(H:Q (.exit i) e ds h):WE T base rnd (.exit i) Q e ds h:= .of H
theorem yH(H:Q .ret e ds h):WE T base rnd .ret Q e ds h:= .of H
variable{b:aN}
theorem uz{a:aN}(H:WE T base rnd a (KS (WE T base rnd b Q) Q) e ds h):WE T base rnd (.seq a b) Q e ds h:=by
 refine⟨XW.XY (H.ok.mono λx e ds h c=> ?_)⟩;cases x<;>first|exact c.ok.ok|exact c.ok
variable{ops:List aP}
theorem uy{keep:List Nat}(H:WO T base rnd (KR keep Q) ops e ds h):WE T base rnd (.region ops keep) Q e ds h:=by
 obtain⟨x,f,c,g,⟨m,a⟩,⟨b⟩⟩:=H.ok;cases x with
 |normal=>exact⟨_,_,_,_,⟨m+1,λn d=>by
  obtain⟨k,rfl⟩:∃k,n=k+1:=⟨n-1,by omega⟩;simp only[cC,a k (by omega)]⟩,b⟩
 |_=>exact⟨_,_,_,_,⟨m+1,fun n d=>by
   obtain⟨k,rfl⟩:∃k,n=k+1:=⟨n-1,by omega⟩;simp only[cC,a k (by omega)]⟩,b⟩
theorem lF(H:WE T base rnd b (KB i Q) e ds h):WE T base rnd (.block i b) Q e ds h:=by
 obtain⟨x,l,g,o,⟨m,a⟩,⟨c⟩⟩:=H.ok;cases x with
 |exit j=>
  by_cases hi:j=i
  ·exact⟨_,_,_,_,⟨m+1,λn f=>by
    obtain⟨k,rfl⟩:∃k,n=k+1:=⟨n-1,by omega⟩;have d:Nat.beq j i=true:=by rw[beq_eq];simpa using hi
    simp only[cC,a k (by omega),d,cond_true]⟩,c.1 hi⟩
  ·exact⟨_,_,_,_,⟨m+1,λn f=>by
    obtain⟨k,rfl⟩:∃k,n=k+1:=⟨n-1,by omega⟩;have d:Nat.beq j i=false:=by rw[beq_eq];simpa using hi
    simp only[cC,a k (by omega),d,cond_false]⟩,c.2 hi⟩
 |_=>exact⟨_,_,_,_,⟨m+1,fun n f=>by
   obtain⟨k,rfl⟩:∃k,n=k+1:=⟨n-1,by omega⟩;simp only[cC,a k (by omega)]⟩,c⟩
theorem GP{c:Operand}{a:aN}{t:Bool}(i:ev h e c=some (.bool t))(h1:t=true->WE T base rnd a Q e ds h)(o:t=false->WE T base rnd b Q e ds h):WE T base rnd (.cond c a b) Q e ds h:=by
 cases t with
 |true=>
  obtain⟨x,j,d,l,⟨m,f⟩,g⟩:=(h1 rfl).ok;exact⟨_,_,_,_,⟨m+1,λn p=>by
   obtain⟨k,rfl⟩:∃k,n=k+1:=⟨n-1,by omega⟩;simp only[cC,i];exact f k (by omega)⟩,g⟩
 |false=>
  obtain⟨x,j,d,l,⟨m,f⟩,g⟩:=(o rfl).ok;exact⟨_,_,_,_,⟨m+1,λn p=>by
   obtain⟨k,rfl⟩:∃k,n=k+1:=⟨n-1,by omega⟩;simp only[cC,i];exact f k (by omega)⟩,g⟩
theorem Qs{c:Operand}{a:aN}(d:ev h e c=some (.bool true))(h1:WE T base rnd a Q e ds h):WE T base rnd (.cond c a b) Q e ds h:=GP d (λ_=>h1) (λh=>by cases h)
theorem Np{c:Operand}{a:aN}(d:ev h e c=some (.bool false))(h1:WE T base rnd b Q e ds h):WE T base rnd (.cond c a b) Q e ds h:=GP d (λh=>by cases h) (λ_=>h1)
variable{bf is:List Nat}
theorem GQ{keep:List Nat}(H:WD T base ops bf (λa b=>KR keep Q .normal a ds b) is [] e h):WE T base rnd (.draw ops is bf keep) Q e ds h:=by
 obtain⟨a,b,⟨m,c⟩,⟨d⟩⟩:=H.ok;exact⟨_,_,_,_,⟨m+1,λn f=>by
  obtain⟨k,rfl⟩:∃k,n=k+1:=⟨n-1,by omega⟩;simp only[cC,c k (by omega)]⟩,d⟩
theorem cT(I:Nat->Env->Dfs->Heap->Prop){k:Nat}(hI:I k e ds h)
 (hr:∀k e ds h,I k e ds h->WE T base rnd b (KS (λe' ds' h'=>∃k',k'<k/\I k' e' ds' h') Q) e ds h):WE T base rnd (.loop b) Q e ds h:=
 ⟨XW.loop I (λk e ds h hI=>((hr k e ds h hI).ok.mono λx e ds h a=>by cases x<;>exact a.ok)) hI⟩
theorem WE.mono{c:aN}{a:XQ}(H:WE T base rnd c a e ds h)(b:∀x e ds h,a x e ds h->Q x e ds h):WE T base rnd c Q e ds h:=⟨H.ok.mono b⟩
variable{a:Env}
theorem Vr{keep:List Nat}(b:bD e keep=a)(H:Q .normal a ds h):KR keep Q .normal e ds h:=by subst b;exact⟨H⟩
variable{v:Value}
theorem rN{keep:List Nat}(H:Q (.panic v) e ds h):KR keep Q (.panic v) e ds h:=⟨H⟩
variable{K:Env->Dfs->Heap->Prop}
theorem KC(H:K e ds h):KS K Q .normal e ds h:=⟨H⟩
theorem Vs(H:Q .ret e ds h):KS K Q .ret e ds h:=⟨H⟩
theorem XL(H:Q (.exit i) e ds h):KS K Q (.exit i) e ds h:=⟨H⟩
theorem rO(H:Q (.panic v) e ds h):KS K Q (.panic v) e ds h:=⟨H⟩
theorem Vo(H:Q .normal e ds h):KB i Q .normal e ds h:=⟨H⟩
theorem XK(H:Q .ret e ds h):KB i Q .ret e ds h:=⟨H⟩
theorem HE(H:Q (.panic v) e ds h):KB i Q (.panic v) e ds h:=⟨H⟩
theorem XJ(H:Q .normal e ds h):KB i Q (.exit i) e ds h:=⟨⟨λ_=>H,λh=>(h rfl).elim⟩⟩
theorem Vp{j:Nat}(a:Nat.beq j i=false)(H:Q (.exit j) e ds h):KB i Q (.exit j) e ds h:=by
 rw[beq_eq]at a;simp only[decide_eq_false_iff_not]at a;exact⟨⟨λh=>(a h).elim,λ_=>H⟩⟩
theorem bH(H:Q .normal e ds h):WO T base rnd Q [] e ds h:=⟨uA (T:=T) (base:=base) (rnd:=rnd) (ops:=[]) H⟩
variable{dst:Option Nat}{op:AOp}{os:List aP}{h':Heap}
theorem aG(ho:aop h base e op=some (.val v h'))(H:WO T base rnd Q os (bN e dst v) ds h'):WO T base rnd Q (⟨dst,op,none⟩::os) e ds h:=by
 obtain⟨x,b,a,h',⟨m,c⟩,d⟩:=H.ok;exact⟨x,b,a,h',⟨m+1,λn f=>by
  obtain⟨k,rfl⟩:∃k,n=k+1:=⟨n-1,by omega⟩;simp only[fZ,bA,ho];exact c k (by omega)⟩,d⟩
variable{fn:Fn}{args:List Value}
theorem mX(ho:aop h base e op=some (.call fn args h'))(H:FW T fn args {h' with log:=[]} (KO (WO T base rnd Q os) Q base dst e ds h'.log)):WO T base rnd Q (⟨dst,op,none⟩::os) e ds h:=by
 obtain⟨r,j,⟨c,b⟩,⟨H⟩⟩:=H;cases r with
 |ret v=>
  obtain⟨x,d,a,h',⟨m,f⟩,g⟩:=WO.ok H;exact⟨x,d,a,h',⟨m+c+1,λn i=>by
   obtain⟨k,rfl⟩:∃k,n=k+1:=⟨n-1,by omega⟩;simp only[fZ,bA,ho,b k (by omega)];exact f k (by omega)⟩,g⟩
 |panic v=>
  exact⟨_,_,_,_,⟨c+1,λn i=>by
   obtain⟨k,rfl⟩:∃k,n=k+1:=⟨n-1,by omega⟩;simp only[fZ,bA,ho,b k (by omega)]⟩,H⟩
theorem Nu(ho:aop h base e op=some (.panic v h'))(H:Q (.panic v) e ds h'):WO T base rnd Q (⟨dst,op,none⟩::os) e ds h:=
 ⟨_,_,_,_,⟨1,λn a=>by
  obtain⟨k,rfl⟩:∃k,n=k+1:=⟨n-1,by omega⟩;simp only[fZ,bA,ho]⟩,H⟩
variable{t:Nat}
theorem Wf{b:Bool}(j:geT e t=some (.bool b))(H:WO T base rnd Q (⟨dst,op,none⟩::os) e ds h):WO T base rnd Q (⟨dst,op,some (t,b)⟩::os) e ds h:=by
 obtain⟨x,c,a,d,⟨m,f⟩,g⟩:=H.ok;exact⟨x,c,a,d,⟨m+1,λn l=>by
  obtain⟨k,rfl⟩:∃k,n=k+1:=⟨n-1,by omega⟩;have:=f (k+1) (by omega);have i:(b==b)=true:=by simp
  simp only[fZ,bA]at this;simp only[fZ,bA,j,i];exact this⟩,g⟩
theorem TF{b x:Bool}(j:geT e t=some (.bool x))(l:x= !b)(H:WO T base rnd Q os (bN e dst (.tuple #[])) ds h):WO T base rnd Q (⟨dst,op,some (t,b)⟩::os) e ds h:=by
 obtain⟨o,c,a,d,⟨m,f⟩,g⟩:=H.ok;exact⟨o,c,a,d,⟨m+1,λn p=>by
  obtain⟨k,rfl⟩:∃k,n=k+1:=⟨n-1,by omega⟩;have i:(x==b)=false:=by subst l;cases b<;>rfl
  simp only[fZ,bA,j,i];exact f k (by omega)⟩,g⟩
variable{rs:List Rec}
theorem ux{Q:Env->Heap->Prop}(H:Q e h):WD T base ops bf Q [] rs e h:=⟨FB (T:=T) (base:=base) (ops:=ops) (bf:=bf) (is:=[]) (rs:=rs) H⟩
variable{e1:Env}{h1:Heap}
theorem tG{a:List Rec}{Q:Env->Heap->Prop}(b:∃m,∀n,m<=n->∀r,dU T n base ops is bf a e1 h1=some r->dU T (n+1) base ops (i::is) bf rs e h=some r)
 (H:WD T base ops bf Q is a e1 h1):WD T base ops bf Q (i::is) rs e h:=by
 obtain⟨c,d,⟨m,g⟩,j⟩:=H.ok;obtain⟨f,b⟩:=b;exact⟨c,d,⟨m+f+1,λn l=>by
  obtain⟨k,rfl⟩:∃k,n=k+1:=⟨n-1,by omega⟩;exact b k (by omega) _ (g k (by omega))⟩,j⟩
variable{mask:Nat}{g:Option (Nat×Bool)}
theorem TE{Q:Env->Heap->Prop}(ho:bK ops i=some ⟨dst,op,g⟩)(c:bK bf i=some mask)(b:bD e (cA ⟨dst,op,g⟩)=a)(f:bA a g=some false)
 (H:WD T base ops bf Q is (⟨i,⟨dst,op,g⟩,a, .tuple #[], .skip⟩::rs) (bN e dst (.tuple #[])) h):WD T base ops bf Q (i::is) rs e h:=by
 subst b;exact tG ⟨0,λn _ r d=>by simp only[dU,ho,c,f];exact d⟩ H
theorem aO{Q:Env->Heap->Prop}(ho:bK ops i=some ⟨dst,op,g⟩)(f:bK bf i=some mask)(d:bD e (cA ⟨dst,op,g⟩)=a)(m:bA a g=some true)
 (k:jb op=true)(j:dF op=false)(b:aop h base a op=some (.val v h))(H:WD T base ops bf Q is (⟨i,⟨dst,op,g⟩,a,v, .quiet⟩::rs) (bN e dst v) h):WD T base ops bf Q (i::is) rs e h:=by
 subst d;have c:Nat.beq h.next h.next=true:=by rw[beq_eq];simp
 exact tG ⟨0,λn _ r l=>by simp only[dU,ho,f,m,k,b,j,c,cond_true,cond_false];exact l⟩ H
theorem BO{Q:Env->Heap->Prop}(ho:bK ops i=some ⟨dst,op,g⟩)(f:bK bf i=some mask)(d:bD e (cA ⟨dst,op,g⟩)=a)(m:bA a g=some true)
 (k:jb op=true)(j:dF op=true)(b:aop h base a op=some (.val v h'))(c:mS h' base rs=true)(H:WD T base ops bf Q is (⟨i,⟨dst,op,g⟩,a,v, .made h.next⟩::rs) (bN e dst v) h'):WD T base ops bf Q (i::is) rs e h:=by
 subst d;exact tG ⟨0,λn _ r l=>by simp only[dU,ho,f,m,k,b,j,c,cond_true];exact l⟩ H
theorem TD{b:List Rec}{Q:Env->Heap->Prop}{c:Env}{a:Heap}(ho:bK ops i=some ⟨dst,op,g⟩)(k:bK bf i=some mask)(j:bD e (cA ⟨dst,op,g⟩)=c)(o:bA c g=some true)
 (l:jb op=false)(d:aop {h with log:=[]} h.next c op=some (.val v a))(f:br {a with log:=aB base h.log a.log} base a.log mask rs=some b)
 (H:WD T base ops bf Q is b (bN e dst v) {a with log:=aB base h.log a.log}):WD T base ops bf Q (i::is) rs e h:=by
 subst j;exact tG ⟨0,λn _ r m=>by simp only[dU,ho,k,o,l,d,f,cond_false];exact m⟩ H
theorem Qn{Q:Env->Heap->Prop}{c:Heap}(ho:bK ops i=some ⟨dst,op,g⟩)(j:bK bf i=some mask)(d:bD e (cA ⟨dst,op,g⟩)=a)(o:bA a g=some true)
 (l:jb op=false)(b:aop {h with log:=[]} h.next a op=some (.call fn args c))(H:FW T fn args {h with log:=[]} (KD (WD T base ops bf Q is) base mask rs dst e h.log)):WD T base ops bf Q (i::is) rs e h:=by
 subst d;obtain⟨r,q,⟨p,f⟩,⟨H⟩⟩:=H;unfold kD at H;split at H
 ·split at H
  ·rename_i rs' hrs;exact tG ⟨p,λn k r m=>by simp only[dU,ho,j,o,l,b,f n k,hrs,cond_false];exact m⟩ H
  ·exact H.elim
 ·exact H.elim
variable{r:bk×Env×Dfs×Heap}
theorem jJ{N:Nat}{a:Dfs}(H:∀n,(pF T (n+N)).exec base rnd c e a h=some r):Ev T base rnd c e a h r:=
 ⟨N,λn b=>by
  have:=H (n-N);rw[F4,J8,show n-N+N=n by omega]at this;exact this⟩
theorem j7{b a:Dfs}(g:c= .seq (cL c) (cR c))(d:Ev T base rnd (cL c) e b h (.normal,e1,a,h1))(f:Ev T base rnd (cR c) e1 a h1 r):Ev T base rnd c e b h r:=by
 obtain⟨i,l⟩:=d;obtain⟨j,m⟩:=f;refine⟨i+j+1,λn o=> ?_⟩;obtain⟨k,rfl⟩:∃k,n=k+1:=⟨n-1,by omega⟩;rw[g];simp only[cC,l k (by omega)];exact m k (by omega)
theorem CW.XS{f:Nat}{Q:Res->Heap->Prop}{rs:List (Nat×Option (Option Nat))}{x:bk}{a:Dfs}(b:T f=some (.code c rs))(H:Ev T h.next none c (dM 0 args) [] h (x,e,a,h1))(d:vg rs h Q x e a h1):CW T f args h Q:=
 CW.code b ⟨x,e,a,h1,H,d⟩
theorem R.none{P:Program}{w:World}{n:Nat}(a:P.globals.size<=n):R P (λ_=>none) ⟨[],n,[]⟩ w:=
 {big:=a
  lR:=λg o _ h=>by cases h
  obj:=λb o h=>by cases h
  lt:=λb o h=>by cases h
  dom:=λb k h=>by cases h
  kT:=λb c o e k d _ h=>by cases h}
end Go.A
end
section
namespace Go.A
variable {T:Nat->Option aq} {base:Nat} {rnd:Option Nat} {Q:XQ} {e:Env} {ds:Dfs} {h:Heap}
theorem Heap.gX(h:Heap)(o:bM):(h.push o).get h.next=some o:=by rw[Heap.dH,if_pos rfl]
theorem Heap.eE{o:bM}{x:Nat}(a:x<h.next):(h.push o).get x=h.get x:=by rw[Heap.dH,if_neg (by omega)]
theorem Heap.aI{b:Nat}{o o':bM}(hb:h.get b=some o'):(h.wr base b o).get b=some o:=by rw[Heap.mA,if_pos rfl,hb];rfl
theorem Heap.CN(h:Heap)(base b:Nat)(o:bM):(h.wr base b o).get b=(h.get b).map λ_=>o:=by rw[Heap.mA,if_pos rfl]
theorem Heap.ef{b:Nat}{o:bM}{x:Nat}(a:x≠b):(h.wr base b o).get x=h.get x:=by rw[Heap.mA,if_neg a]
theorem Heap.wO(h:Heap)(o:bM):(h.push o).log=h.log:=rfl
theorem Heap.aD{b:Nat}{o:bM}(hb:base<=b):(h.wr base b o).log=h.log:=by
 simp only[Heap.wr,blt_eq];rw[decide_eq_false (by omega)];rfl
variable{x:Operand}{v:Value}
theorem dD(a:ev h e x=some v):aop h base e (.mov x)=some (.val v h):=by simp only[aop,a,cO]
theorem vn{c a b:Operand}(d:ev h e c=some (.bool true))(f:ev h e a=some v):aop h base e (.pick c a b)=some (.val v h):=by simp only[aop,d,f,cO]
theorem Au{c a b:Operand}(d:ev h e c=some (.bool false))(f:ev h e b=some v):aop h base e (.pick c a b)=some (.val v h):=by simp only[aop,d,f,cO]
variable{z:List Value}
theorem uG:aop h base e (.new z)=some (.val (.pointer (some ⟨h.next,0,none⟩)) (h.push (.cells z true 1))):=rfl
variable{vs:List Value}
theorem TY(b:ev h e x=some v)(a:cellsOf v=vs):aop h base e (.box x)=some (.val (.pointer (some ⟨h.next,0,none⟩)) (h.push (.cells vs true 1))):=by simp only[aop,b,cO,a]
theorem qn{cs:List Value}{ps:List (Nat×Nat×Operand)}(a:je h e z ps=some cs):aop h base e (.build z ps)=some (.val (.agg cs.toArray) h):=by simp only[aop,a]
variable{m:Nat}
theorem iu{cs:List Value}{n:Nat}{ps:List (Nat×Nat×Operand)}(a:je h e (eW n z) ps=some cs)(b:cF z=m):aop h base e (.dw z n ps)=some (.val (.slice (some ⟨h.next,0,none⟩) n n) (h.push (.cells cs true m))):=by simp only[aop,a,b]
variable{sz:Nat}{own:Bool}
theorem bJ{b o:Nat}(c:ev h e x=some (.pointer (some ⟨b,o,none⟩)))(hb:h.get b=some (.cells vs own sz))(a:bK vs o=some v):aop h base e (.load none x)=some (.val v h):=by
 simp only[aop,c,cO,pP,hb,a]
theorem di{n b o:Nat}{l:List Value}(d:ev h e x=some (.pointer (some ⟨b,o,none⟩)))(hb:h.get b=some (.cells vs own sz))(c:cG n (cw o vs)=l)(a:Nat.beq (cF l) n=true):
 aop h base e (.load (some n) x)=some (.val (.agg l.toArray) h):=by
 simp only[aop,d,cO,pP,hb,c,a,cond_true]
variable{y:Operand}
theorem iV{n b o:Nat}{ws:List Value}(d:ev h e x=some (.pointer (some ⟨b,o,none⟩)))(f:ev h e y=some v)(hb:h.get b=some (.cells vs true sz))
 (a:(Nat.beq (cF (cellsOf v)) n&&Nat.ble (o+n) (cF vs)&&eC (cellsOf v))=true)(c:cW vs o (cellsOf v)=ws):aop h base e (.store n x y)=some (.val (.tuple #[]) (h.wr base b (.cells ws true sz))):=by
 simp only[aop,d,f,cO,sB,hb,a,c,cond_true]
theorem zk{op:BinOp}{a b:Value}(d:ev h e x=some a)(f:ev h e y=some b)(c:an op a b=some v):aop h base e (.bin (.num op) x y)=some (.val v h):=by simp only[aop,d,f,cO,c]
variable{u:Value}
theorem BZ{k:NK}{a b:Bool}(d:ev h e x=some v)(f:ev h e y=some u)(c:pS k v u=some b):aop h base e (.bin (.nil k a) x y)=some (.val (.bool (bif a then !b else b)) h):=by simp only[aop,d,f,cO,c]
theorem TX{a b:Bool}{c:List dZ}{xs d:Array Value}(g:ev h e x=some (.agg xs))(i:ev h e y=some (.agg d))(f:bF c xs.toList d.toList=some b):aop h base e (.bin (.agg a c) x y)=some (.val (.bool (bif a then !b else b)) h):=by
 simp only[aop,g,i,cO,f]
theorem sL{b:Bool}(a:ev h e x=some (.bool b)):aop h base e (.un .not x)=some (.val (.bool !b) h):=by simp only[aop,a,cO,yp]
theorem cN{off b o:Nat}(a:ev h e x=some (.pointer (some ⟨b,o,none⟩))):aop h base e (.dz off x)=some (.val (.pointer (some ⟨b,o+off,none⟩)) h):=by simp only[aop,a]
variable{i size:Nat}{k:IntKind}
theorem fW{b o len cap:Nat}(c:ev h e x=some (.slice (some ⟨b,o,none⟩) len cap))(a:ev h e y=some (.int k (i:Nat)))(hi:i<len):aop h base e (.aQ size x y)=some (.val (.pointer (some ⟨b,o+i*size,none⟩)) h):=by
 have:(.int k (i:Nat):Value)= .int k (Int.ofNat i):=rfl;rw[this]at a;simp only[aop,c,a,blt_eq,decide_eq_true hi,cond_true]
theorem qp{vs:Array Value}(b:ev h e x=some (.tuple vs))(a:bK vs.toList i=some v):aop h base e (.extract x i)=some (.val v h):=by simp only[aop,b,cO,a]
theorem jE{a:Option Addr}{n c:Nat}(b:ev h e x=some (.slice a n c)):aop h base e (.len 1 x)=some (.val (.int .i64 n) h):=by simp only[aop,b]
variable{fn:Fn}
theorem Jk{a cs:List Operand}{as bs:List Value}(h1:evs h e a=some as)(b:evs h e cs=some bs):aop h base e (.dV fn a cs)=some (.val (.func fn as.toArray bs.toArray) h):=by simp only[aop,h1,b]
theorem iw{b o:Nat}(a:ev h e x=some (.pointer (some ⟨b,o,none⟩))):aop h base e (.cg x)=some (.val (.pointer (some ⟨b,o,none⟩)) h):=by simp only[aop,a,cO]
variable{g:Nat}{first:Array Value}
theorem rB{f:Operand}{args:List Operand}{a:Value}{as:List Value}{cap:Array Value}{all:List Value}(c:ev h e f=some a)(b:evs h e args=some as)(i:a= .func (.func g) first cap)(d:dP first.toList (dP as cap.toList)=all):
 aop h base e (.call f args)=some (.call (.func g) all h):=by subst i;simp only[aop,c,b,pG,d]
theorem bO{n:Int}(h1: -9223372036854775808<=n)(a:n<9223372036854775808):fE .i64 n=n:=by
 rw[tJ,IntKind.wrap_i64];omega
variable{a:Int}
theorem Rj{b:Int}:an .lss (.int k a) (.int k b)=some (.bool (decide (a<b))):=by simp[an,arith,ni]
theorem Ri{b:Int}:an .leq (.int k a) (.int k b)=some (.bool (decide (a<=b))):=by simp[an,arith,ni]
theorem Ge{b:Int}:an .gtr (.int k a) (.int k b)=some (.bool (decide (b<a))):=by simp[an,arith,ni]
theorem tg{b:Int}:an .geq (.int k a) (.int k b)=some (.bool (decide (b<=a))):=by simp[an,arith,ni]
theorem K0{b:Int}:an .eql (.int k a) (.int k b)=some (.bool (a==b)):=by simp[an,arith,ni]
theorem Gf{b:Int}:an .neq (.int k a) (.int k b)=some (.bool (a !=b)):=by simp[an,arith,ni]
theorem jM{b c:Int}(d:fE k (a+b)=c):an .add (.int k a) (.int k b)=some (.int k c):=by simp[an,arith,d]
theorem mQ{b c:Int}(d:fE k (a-b)=c):an .sub (.int k a) (.int k b)=some (.int k c):=by simp[an,arith,d]
theorem Vx{n:Nat}(a:n<9223372036854775807):an .add (.int .i64 n) (.int .i64 1)=some (.int .i64 (n+1:Nat)):=jM (by rw[bO]<;>omega)
theorem Ry{l m:List (Nat×bM)}(a:l.map (·.1)=m.map (·.1))(c:(m.map (·.1)).Nodup)(h:∀b,b∈m.map (·.1)->fA l b=fA m b):l=m:=by
 induction m generalizing l with
 |nil=>simpa using a
 |cons p m ih=>
  obtain⟨k,o⟩:=p;cases l with
  |nil=>simp at a
  |cons q l=>
   obtain⟨i,s⟩:=q;simp only[pD,List.cons.injEq]at a;obtain⟨j,n⟩:=a;subst j;simp only[pD,At]at c;have f:=h i (by simp);simp only[fA,cond_eq_ite,beq_eq,decide_true,if_true]at f;cases f;congr 1;refine ih n c.2 λb g=> ?_;have r:=h b (by simp[g]);have d:i≠b:=λe=>c.1 (e▸g);simpa only[fA,cond_eq_ite,beq_eq,decide_eq_true_eq,if_neg d]using r
structure WF (h:Heap):Prop where
 nodup:(h.cm.map (·.1)).Nodup
 lt:∀b,b∈h.cm.map (·.1)->b<h.next
theorem rG{a n b:Nat}:b∈dA a n↔a<=b/\b<a+n:=by
 induction n with
 |zero=>simp[dA]
 |succ n ih=>simp[dA,ih];omega
theorem AE(a n:Nat):(dA a n).Nodup:=by
 induction n with
 |zero=>simp[dA]
 |succ n ih=>simp only[dA,At,rG];exact⟨by omega,ih⟩
variable{h':Heap}
theorem WF.as(e:WF h)(d:AS base h h'):WF h' where
 nodup:=by
  rw[d.keys,List.nodup_append];refine⟨AE _ _,e.nodup,λa f b c=> ?_⟩;rw[rG]at f;have:=e.lt b c;omega
 lt:=λb c=>by
  rw[d.keys,wp]at c;have:=d.next
  rcases c with c|c
  ·rw[rG]at c;omega
  ·have:=e.lt b c;omega
theorem WF.log(a:WF h)(l:List Nat):WF {h with log:=l}:=⟨a.nodup,a.lt⟩
theorem WF.push{h:Heap}(a:WF h)(o:bM):WF (h.push o):=a.as (AS.push 0 h o)
structure Ext (h h':Heap):Prop where
 next:h.next<=h'.next
 log:h'.log=h.log
 old:∀b,b<h.next->h'.get b=h.get b
 wf:WF h->WF h'
theorem Ext.refl(h:Heap):Ext h h:=⟨bl _,rfl,λ_ _=>rfl,id⟩
theorem Ext.trans{a b c:Heap}(h:Ext a b)(g:Ext b c):Ext a c:=⟨gd h.next g.next,g.log.trans h.log,λx d=>(g.old x (hK d h.next)).trans (h.old x d),λw=>g.wf (h.wf w)⟩
theorem Ext.push{a b:Heap}(h:Ext a b)(o:bM):Ext a (b.push o):=⟨xa h.next,h.log,λx c=>(Heap.eE (hK c h.next)).trans (h.old x c),λw=>(h.wf w).push o⟩
theorem Ext.wr{a b:Heap}(h:Ext a b){base x:Nat}{o:bM}(d:a.next<=x)(hb:base<=x):Ext a (b.wr base x o):=⟨h.next,(Heap.aD hb).trans h.log,λy c=>(Heap.ef (by omega)).trans (h.old y c),λw=>(h.wf w).as (AS.wr base b x o)⟩
theorem Hv{l:List (Nat×bM)}{b:Nat}(hb:b ∉ l.map (·.1)):fA l b=none:=by
 induction l with
 |nil=>rfl
 |cons p l ih=>
  obtain⟨k,o⟩:=p;simp only[pD,ui,not_or]at hb;simp only[fA,cond_eq_ite,beq_eq,decide_eq_true_eq];rw[if_neg (Ne.symm hb.1)];exact ih hb.2
variable{h1:Heap}
theorem AI(l:WF h)(i:AS h.next h h1)(j:h1.log=h.log)(f:h.log=[])(q:cE v=true):gcA h h1 v=h:=by
 have d:=i.keys;have e:cw (h1.next-h.next) h1.cm=h.cm:=by
  rw[aW];have k:(dA h.next (h1.next-h.next)).length=h1.next-h.next:=by
   generalize h1.next-h.next=n
   induction n with
   |zero=>rfl
   |succ n ih=>simp[dA,ih]
  have o:(h1.cm.drop (h1.next-h.next)).map (·.1)=h.cm.map (·.1):=by
   rw[List.map_drop,d,sy (by omega),pA (by omega),vd]
  refine Ry o l.nodup λb m=> ?_;have c:=l.lt b m;have p:=i.same b c c (by rw[j,f];rfl);have a:h1.cm=h1.cm.take (h1.next-h.next)++h1.cm.drop (h1.next-h.next):=(rv _ _).symm;have g:(h1.cm.take (h1.next-h.next)).map (·.1)=dA h.next (h1.next-h.next):=by
   rw[GT,d,j3 (by omega),gk (by omega)]
  have:=lX _ h.next _ (h1.cm.drop (h1.next-h.next)) g b c
  rw[←a]at this;exact this.symm.trans p
 simp only[gcA,q,j,f,fI,xf,cond_true,nH,e];cases h;simp at f⊢;exact f
structure Rdy (h:Heap):Prop where
 wf:WF h
 log:h.log=[]
def Pu(T:Nat->Option aq)(f:Nat)(args:List Value)(h:Heap)(v:Value):Prop:=CW T f args h λr h'=>r= .ret v/\h'=h
structure Oh (rs:List (Nat×Option (Option Nat))) (v0:Value) (x:bk) (e:Env) (ds:Dfs) (h1:Heap):Prop where
 ok:(x= .normal∨x= .ret)/\ds=[]/\h1.log=[]/\∃vs,bL h1 e rs=some vs/\dO vs=v0
variable{rs:List (Nat×Option (Option Nat))}{v0:Value}
theorem au(a:h.log=[])(hr:bL h e rs=some vs)(b:dO vs=v0):Oh rs v0 .ret e [] h:=⟨⟨.inr rfl,rfl,a,vs,hr,b⟩⟩
variable{f:Nat}{args:List Value}
theorem Pu.of(l:aF T){c:aN}(j:T f=some (.code c rs))(hr:Rdy h)(n:cE v0=true)(H:WE T h.next none c (Oh rs v0) (dM 0 args) [] h):Pu T f args h v0:=by
 obtain⟨x,e,ds,g,⟨m,d⟩,⟨o,rfl,k,p,a,rfl⟩⟩:=H.ok;have i:=(eO.all l m).exec _ _ _ _ _ _ _ _ _ _ (d m (bl _)) (bl _);refine CW.code j ⟨x,e,[],g,⟨m,d⟩,?_⟩;unfold vg;have b:=AI hr.wf i (k.trans hr.log.symm) hr.log n;rcases o with rfl|rfl
 ·simp only[a,b];exact⟨trivial,trivial⟩
 ·simp only[a,b];exact⟨trivial,trivial⟩
variable{dst:Option Nat}
theorem FW.pu{K:Env->Dfs->Heap->Prop}(H:Pu T f args {h with log:=[]} v)(a:K (bN e dst v) ds h):FW T (.func f) args {h with log:=[]} (KO K Q base dst e ds h.log):=by
 refine .func (CW.mono H ?_);rintro r b ⟨rfl,rfl⟩;exact⟨a⟩
theorem Rdy.of(a:WF h):Rdy {h with log:=[]}:=⟨a.log [],rfl⟩
variable{mask:Nat}
theorem FW.puD{K:List Rec->Env->Heap->Prop}{rs a:List Rec}(H:Pu T f args {h with log:=[]} v)(b:br h base [] mask rs=some a)(c:K a (bN e dst v) h):
 FW T (.func f) args {h with log:=[]} (KD K base mask rs dst e h.log):=by
 refine .func (CW.mono H ?_);rintro r d ⟨rfl,rfl⟩;refine⟨?_⟩;show(match br {h with log:=aB base h.log []} base [] mask rs with
  |some a=>K a (bN e dst v) {h with log:=aB base h.log []}
  |none=>False)
 have:({h with log:=aB base h.log []}:Heap)=h:=rfl;rw[this,b];exact c
structure sJ (h:Heap) (b o n sz:Nat) (cs:List Value):Prop where
 lt:b<h.next
 obj:∃vs own s,h.get b=some (.cells vs own s)/\cG (n*sz) (cw o vs)=cs
 len:cs.length=n*sz
inductive aJ (h:Heap) (sz:Nat):Value->Nat->List Value->Prop
 |nil {c}:aJ h sz (.slice none 0 c) 0 []
 |mem {b o n cap cs}:sJ h b o n sz cs->n<=cap->aJ h sz (.slice (some ⟨b,o,none⟩) n cap) n cs
theorem sJ.ext{b o n:Nat}{cs:List Value}(s:sJ h b o n sz cs)(x:Ext h h'):sJ h' b o n sz cs:=by
 obtain⟨e,a,t,c,d⟩:=s.obj;exact⟨hK s.lt x.next,⟨e,a,t,(x.old _ s.lt).trans c,d⟩,s.len⟩
theorem aJ.ext{h h':Heap}{sz n:Nat}{v:Value}{cs:List Value}(s:aJ h sz v n cs)(x:Ext h h'):aJ h' sz v n cs:=by
 cases s with
 |nil=>exact .nil
 |mem s hc=>exact .mem (s.ext x) hc
theorem aJ.form{n:Nat}{cs:List Value}(s:aJ h sz v n cs):∃a c,v= .slice a n c:=by
 cases s<;>exact⟨_,_,rfl⟩
theorem aJ.log{n:Nat}{cs:List Value}(s:aJ h sz v n cs)(l:List Nat):aJ {h with log:=l} sz v n cs:=by
 cases s with
 |nil=>exact .nil
 |mem s hc=>exact .mem ⟨s.lt,s.obj,s.len⟩ hc
theorem aJ.inv{n:Nat}{cs:List Value}(s:aJ h sz v n cs):(∃c,v= .slice none 0 c/\n=0/\cs=[])∨∃b o cap,v= .slice (some ⟨b,o,none⟩) n cap/\sJ h b o n sz cs/\n<=cap:=by
 cases s with
 |nil=>exact .inl ⟨_,rfl,rfl,rfl⟩
 |mem s hc=>exact .inr ⟨_,_,_,rfl,s,hc⟩
theorem aJ.len{h:Heap}{sz n:Nat}{v:Value}{cs:List Value}(s:aJ h sz v n cs):cs.length=n*sz:=by
 cases s with
 |nil=>simp
 |mem s _=>exact s.len
theorem wQ{b:Int}(h:b<=a):an .geq (.int k a) (.int k b)=some (.bool true):=by rw[tg,decide_eq_true h]
theorem ue{b:Int}(h:a<b):an .geq (.int k a) (.int k b)=some (.bool false):=by rw[tg,decide_eq_false (by omega)]
theorem fq{b:Int}(h:a<=b):an .leq (.int k a) (.int k b)=some (.bool true):=by rw[Ri,decide_eq_true h]
theorem eS{b:Int}(h:b<a):an .leq (.int k a) (.int k b)=some (.bool false):=by rw[Ri,decide_eq_false (by omega)]
theorem dY{b:Int}(h:a<b):an .lss (.int k a) (.int k b)=some (.bool true):=by rw[Rj,decide_eq_true h]
theorem eM{b:Int}(h:b<=a):an .lss (.int k a) (.int k b)=some (.bool false):=by rw[Rj,decide_eq_false (by omega)]
theorem fM{b:Int}(h:b<a):an .gtr (.int k a) (.int k b)=some (.bool true):=by rw[Ge,decide_eq_true h]
theorem gZ{b:Int}(h:a<=b):an .gtr (.int k a) (.int k b)=some (.bool false):=by rw[Ge,decide_eq_false (by omega)]
theorem mD{b:Int}(h:a=b):an .eql (.int k a) (.int k b)=some (.bool true):=by rw[K0];simp[h]
theorem iH{b:Int}(h:a≠b):an .eql (.int k a) (.int k b)=some (.bool false):=by rw[K0];simp[h]
theorem jc{b:Int}(h:a≠b):an .neq (.int k a) (.int k b)=some (.bool true):=by rw[Gf];simp[h]
theorem oD{b:Int}(h:a=b):an .neq (.int k a) (.int k b)=some (.bool false):=by rw[Gf];simp[h]
def Al(T:Nat->Option aq)(f:Nat)(args:List Value)(h:Heap)(Q:Value->Heap->Prop):Prop:=CW T f args h λr h'=>Ext h h'∧∃v,r= .ret v/\Q v h'
structure U7 (rs:List (Nat×Option (Option Nat))) (Q:Value->Heap->Prop) (x:bk) (e:Env) (ds:Dfs) (h1:Heap):Prop where
 ok:(x= .normal∨x= .ret)/\ds=[]/\h1.log=[]/\∃vs,bL h1 e rs=some vs/\Q (dO vs) h1
theorem dG{Q:Value->Heap->Prop}(a:h.log=[])(hr:bL h e rs=some vs)(b:Q (dO vs) h):U7 rs Q .ret e [] h:=⟨⟨.inr rfl,rfl,a,vs,hr,b⟩⟩
theorem Ext.lK(hr:Rdy h)(a:AS h.next h h1)(d:h1.log=[]):Ext h h1:=
 ⟨a.next,d.trans hr.log.symm,λb c=>a.same b c c (by rw[d];rfl),λw=>w.as a⟩
theorem Al.of(p:aF T){c:aN}{Q:Value->Heap->Prop}(o:T f=some (.code c rs))(hr:Rdy h)(n:∀v b,cE v=true->Q v b->Q v h)(H:WE T h.next none c (U7 rs Q) (dM 0 args) [] h):Al T f args h Q:=by
 obtain⟨x,e,ds,b,⟨m,k⟩,⟨q,rfl,j,g,d,l⟩⟩:=H.ok;have i:=(eO.all p m).exec _ _ _ _ _ _ _ _ _ _ (k m (bl _)) (bl _);refine CW.code o ⟨x,e,[],b,⟨m,k⟩,?_⟩;have a:Ext h (gcA h b (dO g))/\Q (dO g) (gcA h b (dO g)):=by
  cases hv:cE (dO g)with
  |true=>
   rw[AI hr.wf i (j.trans hr.log.symm) hr.log hv];exact⟨.refl _,n _ _ hv l⟩
  |false=>
   have:gcA h b (dO g)=b:=by simp[gcA,hv]
   rw[this];exact⟨.lK hr i j,l⟩
 unfold vg;rcases q with rfl|rfl
 ·simp only[d];exact⟨a.1,_,rfl,a.2⟩
 ·simp only[d];exact⟨a.1,_,rfl,a.2⟩
theorem Ext.KT(x:Ext {h with log:=[]} h'):Ext h {h' with log:=aB base h.log h'.log}:=by
 have:h'.log=[]:=x.log;refine⟨x.next,by rw[this];rfl,x.old,λw=>(x.wf (w.log [])).log _⟩
theorem FW.al{b:Value->Heap->Prop}{K:Env->Dfs->Heap->Prop}(H:Al T f args {h with log:=[]} b)(a:∀v (h':Heap) l,b v h'→b v {h' with log:=l})
 (c:∀v h',Ext h h'→b v h'→K (bN e dst v) ds h'):FW T (.func f) args {h with log:=[]} (KO K Q base dst e ds h.log):=by
 refine .func (CW.mono H ?_);rintro r h' ⟨g,v,rfl,d⟩;exact⟨c v _ g.KT (a v h' _ d)⟩
theorem FW.alD{c:Value->Heap->Prop}{K:List Rec->Env->Heap->Prop}{rs:List Rec}(H:Al T f args {h with log:=[]} c)(b:∀v (h':Heap) l,c v h'→c v {h' with log:=l})
 (j:∀v h',Ext h h'→c v h'→∃a,br h' base [] mask rs=some a∧K a (bN e dst v) h'):FW T (.func f) args {h with log:=[]} (KD K base mask rs dst e h.log):=by
 refine .func (CW.mono H ?_);rintro r h' ⟨i,v,rfl,m⟩;refine⟨?_⟩;obtain⟨a,d,g⟩:=j v _ (i.KT (base:=base)) (b v h' _ m);show(match br {h' with log:=aB base h.log h'.log} base h'.log mask rs with
  |some a=>K a (bN e dst v) {h' with log:=aB base h.log h'.log}
  |none=>False)
 have k:h'.log=[]:=i.log;rw[k]at d g⊢;rw[d];exact g
theorem Bu:bL h e []=some []:=rfl
variable{t:Nat}
theorem tC(a:geT e t=some v)(hr:bL h e rs=some vs):bL h e ((t,none)::rs)=some (v::vs):=by simp only[bL,a,hr]
variable{s:Nat}
theorem dW{n b o:Nat}{ws l:List Value}(d:geT e t=some (.pointer (some ⟨b,o,none⟩)))(hb:h.get b=some (.cells ws own s))(a:cG n (cw o ws)=l)(c:Nat.beq (cF l) n=true)(hr:bL h e rs=some vs):
 bL h e ((t,some (some n))::rs)=some (.agg l.toArray::vs):=by simp only[bL,d,pP,hb,a,c,cond_true,hr]
theorem p9{b o:Nat}{ws:List Value}(c:geT e t=some (.pointer (some ⟨b,o,none⟩)))(hb:h.get b=some (.cells ws own s))(a:bK ws o=some v)(hr:bL h e rs=some vs):
 bL h e ((t,some none)::rs)=some (v::vs):=by simp only[bL,c,pP,hb,a,hr]
theorem aY{log:List Nat}:br h base log mask []=some []:=rfl
variable{r:Rec}
theorem PG{log:List Nat}{rs a:List Rec}(hb:Nat.testBit mask r.i=true)(H:br h base log mask rs=some a):br h base log mask (r::rs)=some a:=by
 simp only[br,hb,cond_true,H]
theorem PI{log:List Nat}{rs a:List Rec}(hb:Nat.testBit mask r.i=false)(c:si h base r=true)(b:It log r=true)(H:br h base log mask rs=some a):br h base log mask (r::rs)=some (r::a):=by
 simp only[br,hb,c,b,xf,cond_true,cond_false,H]
theorem PO{b:Nat}(a:r.k= .made b):si h base r=true:=by simp only[si,a]
theorem af(b:r.k= .quiet)(d:aop h base r.e r.o.op=some (.val r.v h))(c:iL r.v r.v=true):si h base r=true:=by
 have a:Nat.beq h.next h.next=true:=by rw[beq_eq];simp
 simp only[si,b,d,c,a,zE]
theorem Bz:mS h base []=true:=rfl
theorem ff{rs:List Rec}(h1:si h base r=true)(a:mS h base rs=true):mS h base (r::rs)=true:=by simp only[mS,h1,cond_true,a]
theorem aV(a:Option Addr):iL (.pointer a) (.pointer a)=true:=by simp[iL,jw]
theorem bY(k:IntKind)(n:Int):iL (.int k n) (.int k n)=true:=by simp[iL,jw]
theorem GK(b:Bool):iL (.bool b) (.bool b)=true:=by simp[iL,jw]
theorem eH(a:Option Addr)(n c:Nat):iL (.slice a n c) (.slice a n c)=true:=by simp[iL,jw]
theorem lH{c:Array Value}(h:jX c.toList c.toList=true):iL (.agg c) (.agg c)=true:=h
theorem gI:jX [] []=true:=rfl
theorem bI{l:List Value}(h1:jw v v=true)(a:jX l l=true):jX (v::l) (v::l)=true:=by simp only[jX,h1,cond_true,a]
theorem dL(a:Option Addr):jw (.pointer a) (.pointer a)=true:=by simp[jw]
theorem iI(k:IntKind)(n:Int):jw (.int k n) (.int k n)=true:=by simp[jw]
theorem ML(a:Option Addr)(n c:Nat):jw (.slice a n c) (.slice a n c)=true:=by simp[jw]
theorem jy{b o n c:Nat}{cs:List Value}(hb:h.get b=some (.cells vs own s))(a:cG (n*size) (cw o vs)=cs)(d:cs.length=n*size):dn h size (.slice (some ⟨b,o,none⟩) n c)=some (cs,n):=by
 simp only[dn,hb,a,bX,d,beq_eq,decide_true,cond_true]
theorem BI{n:Nat}{cs:List Value}(s:aJ h size v n cs):dn h size v=some (cs,n):=by
 cases s with
 |nil=>rfl
 |mem s _=>
  obtain⟨d,c,t,a,b⟩:=s.obj;exact jy a b s.len
theorem nD{a n c:Nat}{cs:List Value}(j:ev h e x=some (.slice none 0 0))(k:ev h e y=some v)(i:dn h size v=some (cs,n))(g:n≠0)(hb:(2*(0+n)+768)*a<=281474976710656)(f:c=UNK):
 aop h base e (.append size a x y)=some (.val (.slice (some ⟨h.next,0,none⟩) n c) (h.push (.cells cs true size))):=by
 have b:Nat.beq n 0=false:=by rw[beq_eq];simpa using g
 have d:Nat.ble ((2*(0+n)+768)*a) 281474976710656=true:=by rw[ble_eq];simpa using hb
 subst f;simp only[aop,j,k,i,jj,b,d,cond_true,cond_false,Nat.beq,zE,fH]
theorem jZ{a len n q:Nat}{cs ws:List Value}(r:ev h e x=some (.slice (some ⟨q,0,none⟩) len UNK))(s:ev h e y=some v)(o:dn h size v=some (cs,n))(d:n≠0)(m:h.get q=some (.cells vs true size))(c:vs.length=len*size)
 (b:0<size)(h1:eC cs=true)(hb:(2*(len+n)+768)*a<=281474976710656)(p:dP vs cs=ws):
 aop h base e (.append size a x y)=some (.val (.slice (some ⟨h.next,0,none⟩) (len+n) UNK) ((h.wr base q .dead).push (.cells ws true size))):=by
 have f:Nat.beq n 0=false:=by rw[beq_eq];simpa using d
 have g:Nat.ble ((2*(len+n)+768)*a) 281474976710656=true:=by rw[ble_eq];simpa using hb
 have i:Nat.beq UNK UNK=true:=by rw[beq_eq];simp
 have j:Nat.beq size size=true:=by rw[beq_eq];simp
 have k:Nat.ble (0+(len+n)*size) (cF vs)=false:=by
  rw[ble_eq,bX,c,sx];have:0<n*size:=Nat.mul_pos (tx d) b;simp;omega
 have l:Nat.beq (len*size) (cF vs)=true:=by rw[beq_eq,bX,c];simp
 simp only[aop,r,s,o,jj,f,g,m,i,j,k,l,h1,xf,zd,cond_true,cond_false,p,fH,Nat.beq]
theorem vM{a len n q o c:Nat}{cs ws:List Value}(r:ev h e x=some (.slice (some ⟨q,o,none⟩) len c))(t:ev h e y=some v)(m:dn h size v=some (cs,n))(k:n≠0)(u:c<len+n)(w:c<UNK)
 (l:h.get q=some (.cells vs own s))(j:o+len*size<=vs.length)(hb:(2*(len+n)+768)*a<=281474976710656)(p:dP (cG (len*size) (cw o vs)) cs=ws):
 aop h base e (.append size a x y)=some (.val (.slice (some ⟨h.next,0,none⟩) (len+n) UNK) (h.push (.cells ws true size))):=by
 have b:Nat.beq n 0=false:=by rw[beq_eq];simpa using k
 have d:Nat.ble ((2*(len+n)+768)*a) 281474976710656=true:=by rw[ble_eq];simpa using hb
 have f:Nat.beq c UNK=false:=by rw[beq_eq];simp;omega
 have g:Nat.ble (len+n) c=false:=by rw[ble_eq];simp;omega
 have i:Nat.ble (o+len*size) (cF vs)=true:=by rw[ble_eq,bX];simpa using j
 simp only[aop,r,t,m,jj,b,d,l,f,g,i,cond_true,cond_false,p,fH]
theorem vN{b len c:Nat}{a:Option Addr}(i:ev h e x=some (.slice a len c))(j:ev h e y=some v)(g:dn h size v=some ([],0))(f:len<=c):aop h base e (.append size b x y)=some (.val (.slice a len c) h):=by
 have d:Nat.ble len c=true:=by rw[ble_eq];simpa using f
 simp only[aop,i,j,g,jj,d,cond_true,Nat.beq,fH]
variable{ops:List aP}{bf is:List Nat}{op:AOp}
theorem lV{rs a:List Rec}{Q:Env->Heap->Prop}{g:Option (Nat×Bool)}{c:Env}{b d:Heap}{m:List Nat}(ho:bK ops i=some ⟨dst,op,g⟩)(o:bK bf i=some mask)
 (n:bD e (cA ⟨dst,op,g⟩)=c)(q:bA c g=some true)(p:jb op=false)(k:aop {h with log:=[]} h.next c op=some (.val v b))(f:({b with log:=aB base h.log b.log}:Heap)=d)(j:b.log=m)
 (l:br d base m mask rs=some a)(H:WD T base ops bf Q is a (bN e dst v) d):WD T base ops bf Q (i::is) rs e h:=by
 subst f;subst j;exact TD ho o n q p k l H
theorem OI(o:bM):(({h with log:=[]}:Heap).push o).log=[]:=rfl
theorem rj{b:Nat}(hb:b<h.next)(o:bM):(({h with log:=[]}:Heap).wr h.next b o).log=[b]:=by
 simp[Heap.wr,blt_eq,hb,fF]
theorem Oi(o:bM):({({h with log:=[]}:Heap).push o with log:=aB base h.log (({h with log:=[]}:Heap).push o).log}:Heap)=h.push o:=rfl
theorem F3{b:Nat}(hb:b<h.next)(c:base<=b)(o:bM):({({h with log:=[]}:Heap).wr h.next b o with log:=aB base h.log (({h with log:=[]}:Heap).wr h.next b o).log}:Heap)=h.wr base b o:=by
 rw[rj hb];have a:Nat.blt b base=false:=by rw[blt_eq];simp;omega
 simp only[Heap.wr,aB,a,cond_false]
theorem yG{rs c:List Rec}{Q:Env->Heap->Prop}{n b o:Nat}{ws:List Value}{g:Option (Nat×Bool)}{d:Env}(ho:bK ops i=some ⟨dst, .store n x y,g⟩)(p:bK bf i=some mask)
 (m:bD e (cA ⟨dst, .store n x y,g⟩)=d)(q:bA d g=some true)(r:ev {h with log:=[]} d x=some (.pointer (some ⟨b,o,none⟩)))(s:ev {h with log:=[]} d y=some v)(hb:h.get b=some (.cells vs true sz))
 (l:(Nat.beq (cF (cellsOf v)) n&&Nat.ble (o+n) (cF vs)&&eC (cellsOf v))=true)(k:cW vs o (cellsOf v)=ws)(a:b<h.next)(f:base<=b)(j:br (h.wr base b (.cells ws true sz)) base [b] mask rs=some c)
 (H:WD T base ops bf Q is c (bN e dst (.tuple #[])) (h.wr base b (.cells ws true sz))):WD T base ops bf Q (i::is) rs e h:=
 lV ho p m q rfl (iV (h:={h with log:=[]}) r s hb l k) (F3 a f _) (rj a _) j H
theorem yz{rs b:List Rec}{Q:Env->Heap->Prop}{g:Option (Nat×Bool)}{c:Env}{a n:Nat}{cs:List Value}
 (ho:bK ops i=some ⟨dst, .append size a x y,g⟩)(k:bK bf i=some mask)(j:bD e (cA ⟨dst, .append size a x y,g⟩)=c)(f:bA c g=some true)
 (o:ev {h with log:=[]} c x=some (.slice none 0 0))(p:ev {h with log:=[]} c y=some v)(m:dn {h with log:=[]} size v=some (cs,n))(l:n≠0)(hb:(2*(0+n)+768)*a<=281474976710656)
 (d:br (h.push (.cells cs true size)) base [] mask rs=some b)(H:WD T base ops bf Q is b (bN e dst (.slice (some ⟨h.next,0,none⟩) n UNK)) (h.push (.cells cs true size))):WD T base ops bf Q (i::is) rs e h:=
 lV ho k j f rfl (nD (h:={h with log:=[]}) o p m l hb rfl) (Oi _) (OI _) d H
theorem Heap.CM{o:bM}{x:Nat}(h1:x<=h.next)(a:h.next<=x):(h.push o).get x=some o:=by rw[Heap.dH,if_pos (Nat.le_antisymm h1 a)]
theorem Heap.Hw{b:Nat}{o:bM}{x:Nat}(h1:x<=b)(a:b<=x):(h.wr base b o).get x=(h.get x).map λ_=>o:=by rw[Heap.mA,if_pos (Nat.le_antisymm h1 a),Nat.le_antisymm h1 a]
theorem aC{log:List Nat}{o:aP}{k:Rk}{rs a:List Rec}(hb:Nat.testBit mask i=true)(H:br h base log mask rs=some a):br h base log mask (⟨i,o,e,v,k⟩::rs)=some a:=PG hb H
theorem ah{log:List Nat}{o:aP}{k:Rk}{rs a:List Rec}(hb:Nat.testBit mask i=false)(c:si h base ⟨i,o,e,v,k⟩=true)(b:It log ⟨i,o,e,v,k⟩=true)(H:br h base log mask rs=some a):
 br h base log mask (⟨i,o,e,v,k⟩::rs)=some (⟨i,o,e,v,k⟩::a):=PI hb c b H
theorem vE{n:Nat}{cs:List Value}{l:List Nat}(a:dn h size v=some (cs,n)):dn {h with log:=l} size v=some (cs,n):=by
 have:dn {h with log:=l} size v=dn h size v:=by unfold dn;rfl
 rw[this];exact a
variable{d:Nat}
theorem Cj{n:Nat}(a:ev h e x=some (.int k (n:Nat))):bnd h e d (some x)=some n:=by
 have:(.int k (n:Nat):Value)= .int k (Int.ofNat n):=rfl;rw[this]at a;simp only[bnd,a,pQ]
theorem Ci:bnd h e d none=some d:=rfl
theorem uh(n:Nat):Nat.beq n n=true:=by rw[beq_eq];simp
theorem gL{a b:Nat}(h:a<=b):Nat.ble a b=true:=by rw[ble_eq];simpa using h
theorem gM{a b:Nat}(h:a<b):Nat.blt a b=true:=by rw[blt_eq];simpa using h
theorem tq{a b:Nat}(h:¬a<b):Nat.blt a b=false:=by rw[blt_eq];simpa using h
theorem pR{a b:Nat}(h:a≠b):Nat.beq a b=false:=by rw[beq_eq];simpa using h
theorem vQ{b o n:Nat}(c:ev h e x=some (.slice (some ⟨b,o,none⟩) n UNK))(d:ev h e y=some (.int k (i:Nat)))(hb:h.get b=some (.cells vs own size))(hi:i<=n)(a:0<n):
 aop h base e (.slice (.sl size) x none (some y) none)=some (.val (.slice (some ⟨b,o,none⟩) i UNK) h):=by
 simp only[aop,c,iM,Cj d,Ci,hb,uh,gL (md _),gL hi,gM a,Bool.true_or,xf,cond_true,fH,vx,ww,Nat.sub_zero]
theorem rD{b o n:Nat}(a:ev h e x=some (.slice (some ⟨b,o,none⟩) n UNK))(c:ev h e y=some (.int k (i:Nat)))(hb:h.get b=some (.cells vs own size))(hi:i<n):
 aop h base e (.slice (.sl size) x (some y) none none)=some (.val (.slice (some ⟨b,o+i*size,none⟩) (n-i) UNK) h):=by
 simp only[aop,a,iM,Cj c,Ci,hb,uh,gL (Nat.le_of_lt hi),gL (bl n),gM hi,Bool.true_or,xf,cond_true,fH]
theorem FN{ws:List Value}{b o n c:Nat}(i:ev h e x=some (.slice (some ⟨b,o,none⟩) n c))(f:n≠0)(hb:h.get b=some (.cells vs true sz))(d:o+(eW n z).length<=vs.length)(h1:eC (eW n z)=true)(g:cW vs o (eW n z)=ws):
 aop h base e (.clear z x)=some (.val (.tuple #[]) (h.wr base b (.cells ws true sz))):=by
 have a:Nat.ble (o+cF (eW n z)) (cF vs)=true:=by rw[bX,bX];exact gL d
 simp only[aop,i,pR f,hb,a,h1,xf,cond_true,cond_false,g]
theorem Eo{b:Nat}(hb:b<h.next)(o:bM):({({h with log:=[]}:Heap).wr h.next b o with log:=aB base h.log (({h with log:=[]}:Heap).wr h.next b o).log}:Heap)=h.wr base b o:=by
 rw[rj hb];rfl
variable{α:Type}
theorem eY{l m:List α}{o:Nat}(ho:o+m.length<=l.length):cW l o m=l.take o++m++l.drop (o+m.length):=by
 apply u3;intro i;rw[nN m l o i ho];by_cases h1:o<=i/\i<o+m.length
 ·rw[if_pos h1,hG (by simp;omega),gK (by simp;omega)];congr 1;simp;omega
 ·rw[if_neg h1];by_cases h2:i<o
  ·rw[hG (by simp;omega),hG (by simp;omega),gS h2]
  ·rw[gK (by simp;omega),me];congr 1;simp;omega
structure Upd (h h':Heap) (b:Nat) (o:bM):Prop where
 next:h.next<=h'.next
 log:h'.log=[b]
 old:∀x,x<h.next->x≠b->h'.get x=h.get x
 obj:h'.get b=some o
 wf:WF h->WF h'
theorem z1(h:Heap)(o:bM):(h.push o).next=h.next+1:=rfl
theorem z2(h:Heap)(base b:Nat)(o:bM):(h.wr base b o).next=h.next:=rfl
theorem z3(h:Heap)(o:bM):(h.push o).get h.next=some o:=Heap.gX h o
theorem z4{o:bM}{x:Nat}(a:x<h.next):(h.push o).get x=h.get x:=Heap.eE a
theorem z5{b:Nat}{o:bM}{x:Nat}(a:x≠b):(h.wr base b o).get x=h.get x:=Heap.ef a
theorem z6(h:Heap)(base b:Nat)(o:bM):(h.wr base b o).get b=(h.get b).map λ_=>o:=Heap.CN h base b o
theorem z7{β:Type}(f:α->β)(a:α):Option.map f (some a)=some (f a):=rfl
theorem z8{o:bM}{x:Nat}(h1:x<=h.next)(a:h.next<=x):(h.push o).get x=some o:=Heap.CM h1 a
theorem z9{b:Nat}{o:bM}{x:Nat}(h1:x<=b)(a:b<=x):(h.wr base b o).get x=(h.get x).map λ_=>o:=Heap.Hw h1 a
def eR(lo:Nat)(l:List Nat):Prop:=∀x∈l,lo<=x
theorem eR.nil(lo:Nat):eR lo []:=λx a=>by cases a
theorem eR.merge{lo base:Nat}:∀{m l:List Nat},eR lo l->eR lo m->eR lo (aB base l m)
 |[],l,h1,_=>h1
 |b::m,l,h1,h2=>by
  simp only[aB];refine eR.merge ?_ λx a=>h2 x (bz _ a);have hb:=h2 b (b6 ..);simp only[cond_eq_ite];split
  ·split
   ·exact h1
   ·intro x a;rcases List.mem_cons.1 a with rfl|a
    ·exact hb
    ·exact h1 x a
  ·exact h1
structure Lk (lo:Nat) (h h':Heap):Prop where
 next:h.next<=h'.next
 log:eR lo h.log->eR lo h'.log
 old:∀x,x<lo->h'.get x=h.get x
 wf:WF h->WF h'
theorem Lk.refl(lo:Nat)(h:Heap):Lk lo h h:=⟨bl _,id,λ_ _=>rfl,id⟩
theorem Lk.trans{lo:Nat}{a b c:Heap}(x:Lk lo a b)(y:Lk lo b c):Lk lo a c:=⟨gd x.next y.next,λh=>y.log (x.log h),λz d=>(y.old z d).trans (x.old z d),λw=>y.wf (x.wf w)⟩
theorem Lk.push{lo:Nat}{a b:Heap}(x:Lk lo a b)(c:lo<=b.next)(o:bM):Lk lo a (b.push o):=x.trans ⟨ti _,id,λz d=>Heap.eE (by omega),λw=>w.push o⟩
theorem Lk.wr{lo:Nat}{a b:Heap}(x:Lk lo a b){base y:Nat}{o:bM}(e:lo<=y):Lk lo a (b.wr base y o):=
 x.trans ⟨bl _,λd=>by
  simp only[Heap.wr,cond_eq_ite];split
  ·split
   ·exact d
   ·intro z c;rcases List.mem_cons.1 c with rfl|c
    ·exact e
    ·exact d z c
  ·exact d,λz c=>Heap.ef (by omega),λw=>w.as (AS.wr _ _ _ _)⟩
variable{lo:Nat}
theorem Ext.lk{a b:Heap}(x:Ext a b)(c:lo<=a.next):Lk lo a b:=⟨x.next,λh=>by rw[x.log];exact h,λz d=>x.old z (by omega),x.wf⟩
theorem rR{l:List Nat}{x:Nat}(h:x ∉ l):fF l x=false:=by
 cases e:fF l x with
 |false=>rfl
 |true=>exact(h (jh.1 e)).elim
theorem Lk.lK(a:AS h.next h h')(c:lo<=h.next)(b:eR lo h'.log):Lk lo h h':=
 ⟨a.next,λ_=>b,λx e=>a.same x (by omega) (by omega) (rR λd=>by have:=b x d;omega),λw=>w.as a⟩
theorem Lk.call{a:Heap}(x:Lk lo {h with log:=[]} a):Lk lo h {a with log:=aB base h.log a.log}:=
 ⟨x.next,λb=>b.merge (x.log (eR.nil _)),x.old,λw=>(x.wf (w.log [])).log _⟩
def Gr(T:Nat->Option aq)(f:Nat)(args:List Value)(h:Heap)(lo:Nat)(Q:Value->Heap->Prop):Prop:=CW T f args h λr h'=>Lk lo h h'∧∃v,r= .ret v/\Q v h'
structure RR (rs:List (Nat×Option (Option Nat))) (lo:Nat) (Q:Value->Heap->Prop) (x:bk) (e:Env) (ds:Dfs) (h1:Heap):Prop where
 ok:(x= .normal∨x= .ret)/\ds=[]/\eR lo h1.log/\∃vs,bL h1 e rs=some vs/\Q (dO vs) h1
theorem CB{Q:Value->Heap->Prop}(a:eR lo h.log)(hr:bL h e rs=some vs)(b:Q (dO vs) h):RR rs lo Q .ret e [] h:=⟨⟨.inr rfl,rfl,a,vs,hr,b⟩⟩
theorem CA{Q:Value->Heap->Prop}(a:eR lo h.log)(hr:bL h e rs=some vs)(b:Q (dO vs) h):RR rs lo Q .normal e [] h:=⟨⟨.inl rfl,rfl,a,vs,hr,b⟩⟩
theorem kW(c:AS h.next h h1):(∀x,x<h.next->(gcA h h1 v).get x=h1.get x)/\h.next<=(gcA h h1 v).next/\(gcA h h1 v).log=h1.log/\(cE v=false->gcA h h1 v=h1):=by
 unfold gcA;cases hc:(cE v&&fI h1 h.next h1.log)with
 |false=>exact⟨λ_ _=>rfl,c.next,rfl,λ_=>rfl⟩
 |true=>
  refine⟨λx f=> ?_,bl _,rfl,λe=>by rw[e]at hc;cases hc⟩;have a:=c.keys;have d:(dA h.next (h1.next-h.next)).length=h1.next-h.next:=by
   generalize h1.next-h.next=n
   induction n with
   |zero=>rfl
   |succ n ih=>simp[dA,ih]
  have b:(h1.cm.take (h1.next-h.next)).map (·.1)=dA h.next (h1.next-h.next):=by
   rw[GT,a,j3 (by omega),gk (by omega)]
  have:=lX _ h.next _ (h1.cm.drop (h1.next-h.next)) b x f
  rw[rv]at this;show fA (cw (h1.next-h.next) h1.cm) x=fA h1.cm x;rw[aW];exact this.symm
theorem wr0(l:Nat)(o:bM):({h with cm:=iS h.cm l o}:Heap)=h.wr 0 l o:=rfl
def busy:bM->Bool
 | .loop _ _ _ _ 1 _=>true
 |_=>false
variable{ps:List Nat}{asg body:aN}
theorem tH{f:Operand}{cap:Array Value}(hr:nr h rnd=true)(p:ev h e f=some (.func (.func g) first cap))(c:gw (T g)=false)
 (H:CW T g (dP first.toList (dP [.func (.yield h.next) #[] #[]] cap.toList)) {h.push (.loop e ps asg body 0 .normal)with log:=[]} fun r b=>∃v,r= .ret v∧∃o a j l i iN,b.get h.next=some (.loop o a j l i iN)∧Nat.beq i 1=false∧
   Q iN e ds (({b with log:=aB base h.log b.log}:Heap).wr base h.next .dead)):WE T base rnd (.rangeFunc f ps asg body) Q e ds h:=by
 obtain⟨r,b,⟨m,s⟩,v,rfl,o,a,j,l,i,iN,q,d,t⟩:=H;refine⟨⟨iN,e,ds,_,⟨m+1,λn u=> ?_⟩,t⟩⟩;obtain⟨k,rfl⟩:∃k,n=k+1:=⟨n-1,by omega⟩;simp only[cC,hr,p,c,cond_true,cond_false,s k (by omega),q,d]
theorem FW.BP(d:aF T){Q:Res->Heap->Prop}(H:FW T fn args h Q)(c:h.log=[]):FW T fn args h λr a=>AS h.next h a∧Q r a:=by
 obtain⟨r,a,⟨m,b⟩,e⟩:=H;exact⟨r,a,⟨m,b⟩,(eO.all d m).iZ _ _ _ _ _ (b m (bl _)) c,e⟩
theorem FW.mono'{Q a:Res->Heap->Prop}(H:FW T fn args h Q)(b:∀r h',Q r h'→a r h'):FW T fn args h a:=
 let⟨r,h',h1,h2⟩:=H;⟨r,h',h1,b _ _ h2⟩
theorem AS.zero(a:AS base h h'):AS 0 h h':=⟨a.next,a.keys,λb c=>by omega,λb c=>by omega⟩
theorem zI(c:AS 0 h h1):(∀x,x<h.next->(gcA h h1 v).get x=h1.get x)/\h.next<=(gcA h h1 v).next/\(gcA h h1 v).log=h1.log:=by
 unfold gcA;cases hc:(cE v&&fI h1 h.next h1.log)with
 |false=>exact⟨λ_ _=>rfl,c.next,rfl⟩
 |true=>
  refine⟨λx e=> ?_,bl _,rfl⟩;have a:=c.keys;have d:(dA h.next (h1.next-h.next)).length=h1.next-h.next:=by
   generalize h1.next-h.next=n
   induction n with
   |zero=>rfl
   |succ n ih=>simp[dA,ih]
  have b:(h1.cm.take (h1.next-h.next)).map (·.1)=dA h.next (h1.next-h.next):=by
   rw[GT,a,j3 (by omega),gk (by omega)]
  have:=lX _ h.next _ (h1.cm.drop (h1.next-h.next)) b x e
  rw[rv]at this;show fA (cw (h1.next-h.next) h1.cm) x=fA h1.cm x;rw[aW];exact this.symm
structure PW (l wb:Nat) (H0:Heap) (L:bM) (O:List (Nat×Nat)->bM) (done:List (Nat×Nat)) (H:Heap):Prop where
 old:∀x,x<l->x≠wb->H.get x=H0.get x
 obj:H.get wb=some (O done)
 loop:H.get l=some L
 nx:l<H.next
inductive Own (lo:Nat) (h:Heap) (sz:Nat):Value->Nat->List Value->Prop
 |nil:Own lo h sz (.slice none 0 0) 0 []
 |full {q n cs}:lo<=q->q<h.next->h.get q=some (.cells cs true sz)->cs.length=n*sz->n≠0->Own lo h sz (.slice (some ⟨q,0,none⟩) n UNK) n cs
theorem Own.slice{n:Nat}{cs:List Value}(s:Own lo h sz v n cs)(a:n<4000000):aJ h sz v n cs:=by
 cases s with
 |nil=>exact .nil
 |full h1 h2 h3 h4 h5=>
  refine .mem ⟨h2,⟨_,_,_,h3,?_⟩,h4⟩ (by unfold UNK;omega);rw[bQ,aW,py,gk (by omega)]
theorem Own.keep{n:Nat}{cs:List Value}(s:Own lo h sz v n cs)(b:h.next<=h'.next)(a:∀z,lo<=z->z<h.next->h'.get z=h.get z):Own lo h' sz v n cs:=by
 cases s with
 |nil=>exact .nil
 |full h1 h2 h3 h4 h5=>exact .full h1 (by omega) ((a _ h1 h2).trans h3) h4 h5
theorem Own.ext{n:Nat}{cs:List Value}(s:Own lo h sz v n cs)(x:Ext h h'):Own lo h' sz v n cs:=s.keep x.next λz _ a=>x.old z a
theorem Own.log{n:Nat}{cs:List Value}(s:Own lo h sz v n cs)(m:List Nat):Own lo {h with log:=m} sz v n cs:=s.keep (h':={h with log:=m}) (bl _) λ_ _ _=>rfl
theorem Own.low{a n:Nat}{cs:List Value}(s:Own lo h sz v n cs)(b:a≤lo):Own a h sz v n cs:=by
 cases s with
 |nil=>exact .nil
 |full h1 h2 h3 h4 h5=>exact .full (by omega) h2 h3 h4 h5
structure Lx (lo:Nat) (h h':Heap):Prop where
 next:h.next<=h'.next
 log:h'.log=h.log
 old:∀z,z<lo->h'.get z=h.get z
 wf:WF h->WF h'
theorem Lx.refl(lo:Nat)(h:Heap):Lx lo h h:=⟨bl _,rfl,λ_ _=>rfl,id⟩
theorem Lx.trans{lo:Nat}{a b c:Heap}(x:Lx lo a b)(y:Lx lo b c):Lx lo a c:=⟨gd x.next y.next,y.log.trans x.log,λz d=>(y.old z d).trans (x.old z d),λw=>y.wf (x.wf w)⟩
theorem Lx.push{lo:Nat}{a b:Heap}(x:Lx lo a b)(c:lo<=b.next)(o:bM):Lx lo a (b.push o):=x.trans ⟨ti _,rfl,λz d=>Heap.eE (by omega),λw=>w.push o⟩
theorem Lx.wr{lo:Nat}{a b:Heap}(x:Lx lo a b){base y:Nat}{o:bM}(c:lo<=y)(hb:base<=y):Lx lo a (b.wr base y o):=x.trans ⟨bl _,Heap.aD hb,λz d=>Heap.ef (by omega),λw=>w.as (AS.wr _ _ _ _)⟩
variable{os:List aP}
theorem Qu{a n:Nat}{cs c1:List Value}(s:Own lo h sz v n cs)(m:n<1000000)(g:0<sz)(hb:a<=100000)(b:lo<=h.next)(d:base<=lo)
 (k:ev h e x=some v)(l:ev h e y=some u)(j:dn h sz u=some (c1,1))(f:c1.length=sz)(h1:eC c1=true)
 (i:∀v' h',Own lo h' sz v' (n+1) (cs++c1)->Lx lo h h'→WO T base rnd Q os (bN e dst v') ds h'):WO T base rnd Q (⟨dst, .append sz a x y,none⟩::os) e ds h:=by
 have c:(2*(n+1)+768)*a<=281474976710656:=by
  have:(2*(n+1)+768)*a<=2000768*100000:=Do (by omega) hb;omega
 cases s with
 |nil=>
  refine aG (nD (n:=1) k l j (by omega) (by simpa using c) rfl) ?_;refine i _ _ ?_ ((Lx.refl lo h).push b _);have:=Own.full (lo:=lo) (h:=h.push (.cells c1 true sz)) (sz:=sz) (q:=h.next) (n:=1) (cs:=c1) b (go _) (Heap.gX _ _) (by omega) (by omega);exact this
 | @full q _ _ q1 q2 q3 q4 q5=>
   refine aG (jZ (n:=1) (vs:=cs) (ws:=cs++c1) k l j (by omega) q3 q4 g h1 c (dI _ _)) ?_;refine i _ _ ?_ (((Lx.refl lo h).wr q1 (by omega)).push b _);refine .full b (go _) ?_ (by rw[ec,q4,f,sx,A3]) (by omega);exact Heap.gX _ _
theorem bS{c:Dfs}{b:Bool}{vs:Array Value}(j:geT e t=some (.tuple vs))(H:WO T base rnd Q os (bN e dst (.tuple #[])) c h):WO T base rnd Q (⟨dst,op,some (t,b)⟩::os) e c h:=by
 obtain⟨l,d,a,f,⟨m,g⟩,i⟩:=H.ok;exact⟨l,d,a,f,⟨m+1,λn o=>by
  obtain⟨k,rfl⟩:∃k,n=k+1:=⟨n-1,by omega⟩;simp only[fZ,bA,j];exact g k (by omega)⟩,i⟩
structure Ws (S:Nat->Prop) (h h':Heap):Prop where
 next:h.next<=h'.next
 log:∀z∈h'.log,z∈h.log∨S z
 old:∀z,z<h.next->¬S z->h'.get z=h.get z
 wf:WF h->WF h'
variable{S:Nat->Prop}
theorem Ws.lK(b:AS h.next h h')(c:∀z∈h'.log,S z):Ws S h h':=
 ⟨b.next,λz a=> .inr (c z a),λz a e=>b.same z a a (rR λd=>e (c z d)),λw=>w.as b⟩
theorem qA{base z:Nat}:∀{m l:List Nat},z∈aB base l m->z∈l∨z∈m
 |[],l,h=> .inl h
 |b::m,l,h=>by
  simp only[aB]at h;rcases qA (m:=m) h with h|h
  ·revert h;rw[cond_eq_ite,cond_eq_ite];split
   ·split
    ·exact .inl
    ·intro h;rcases List.mem_cons.1 h with rfl|h
     ·exact .inr (b6 ..)
     ·exact .inl h
   ·exact .inl
  ·exact .inr (bz _ h)
theorem Ws.call{a:Heap}(x:Ws S {h with log:=[]} a):Ws S h {a with log:=aB base h.log a.log}:=
 ⟨x.next,λz b=>(qA b).imp id λq=>(x.log z q).elim (λq=>by cases q) id,x.old,λw=>(x.wf (w.log [])).log _⟩
def Gs(T:Nat->Option aq)(f:Nat)(args:List Value)(h:Heap)(S:Nat->Prop)(Q:Value->Heap->Prop):Prop:=CW T f args h λr h'=>Ws S h h'∧∃v,r= .ret v/\Q v h'
structure U8 (rs:List (Nat×Option (Option Nat))) (S:Nat->Prop) (Q:Value->Heap->Prop) (x:bk) (e:Env) (ds:Dfs) (h1:Heap):Prop where
 ok:(x= .normal∨x= .ret)/\ds=[]/\(∀z∈h1.log,S z)/\∃vs,bL h1 e rs=some vs/\Q (dO vs) h1
theorem iy{Q:Value->Heap->Prop}(a:∀z∈h.log,S z)(hr:bL h e rs=some vs)(b:Q (dO vs) h):U8 rs S Q .ret e [] h:=⟨⟨.inr rfl,rfl,a,vs,hr,b⟩⟩
theorem Gs.of(t:aF T){c:aN}{Q:Value->Heap->Prop}(r:T f=some (.code c rs))
 (q:∀v a h2,cE v=true->h.next<=h2.next->(∀x,x<h.next->h2.get x=a.get x)->Q v a->Q v h2)(H:WE T h.next none c (U8 rs S Q) (dM 0 args) [] h):Gs T f args h S Q:=by
 obtain⟨x,e,ds,a,⟨m,j⟩,⟨u,rfl,s,b,d,k⟩⟩:=H.ok;have i:=(eO.all t m).exec _ _ _ _ _ _ _ _ _ _ (j m (bl _)) (bl _);obtain⟨l,n,o,p⟩:=kW (v:=dO b) i;have g:Ws S h (gcA h a (dO b))/\∃v,Res.ret (dO b)= .ret v/\Q v (gcA h a (dO b)):=by
  refine⟨Ws.lK (i.gc' _) (by rw[o];exact s),_,rfl,?_⟩;cases hv:cE (dO b)with
  |true=>exact q _ _ _ hv n l k
  |false=>rw[p hv];exact k
 refine CW.code r ⟨x,e,[],a,⟨m,j⟩,?_⟩;unfold vg;rcases u with rfl|rfl<;>(simp only[d];exact g)
theorem FW.gs{b:Value->Heap->Prop}{K:Env->Dfs->Heap->Prop}(H:Gs T f args {h with log:=[]} S b)(a:∀v (h':Heap) l,b v h'→b v {h' with log:=l})(d:∀v h',Ws S h h'→b v h'→K (bN e dst v) ds h'):
 FW T (.func f) args {h with log:=[]} (KO K Q base dst e ds h.log):=by
 refine .func (CW.mono H ?_);rintro r c ⟨i,v,rfl,g⟩;exact⟨d v _ i.call (a v c _ g)⟩
theorem FW.gsD{d:Value->Heap->Prop}{K:List Rec->Env->Heap->Prop}{rs:List Rec}(H:Gs T f args {h with log:=[]} S d)(c:∀v (h':Heap) l,d v h'→d v {h' with log:=l})
 (i:∀v h' lg,Ws S h h'→(∀z∈lg,S z)->d v h'→∃a,br h' base lg mask rs=some a∧K a (bN e dst v) h'):FW T (.func f) args {h with log:=[]} (KD K base mask rs dst e h.log):=by
 refine .func (CW.mono H ?_);rintro r b ⟨g,v,rfl,j⟩;obtain⟨a,m,n⟩:=i v {b with log:=aB base h.log b.log} b.log g.call (λz k=>(g.log z k).elim (λq=>by cases q) id) (c v b _ j);refine⟨?_⟩;show kD K base mask rs dst e h.log (.ret v) b;unfold kD;simp only[m];exact n
theorem uB{b:Nat}{o:bM}(c:∀z∈h.log,S z)(hb:S b):∀z∈(h.wr base b o).log,S z:=by
 intro z a;simp only[Heap.wr,cond_eq_ite]at a;split at a
 ·split at a
  ·exact c z a
  ·rcases List.mem_cons.1 a with rfl|a
   ·exact hb
   ·exact c z a
 ·exact c z a
theorem Ws.trans{S:Nat->Prop}{a b c:Heap}(x:Ws S a b)(y:Ws S b c):Ws S a c:=
 ⟨gd x.next y.next,λz d=>(y.log z d).elim (x.log z) .inr,λz d e=>(y.old z (hK d x.next) e).trans (x.old z d e),λw=>y.wf (x.wf w)⟩
theorem Ext.ws{a b:Heap}(x:Ext a b):Ws S a b:=⟨x.next,λz c=> .inl (x.log▸c),λz c _=>x.old z c,x.wf⟩
theorem vO{k':IntKind}{n m:Int}(b:ev h e x=some (.int k' n))(a:fE k n=m):aop h base e (.conv (.int k) x)=some (.val (.int k m) h):=by
 subst a;simp only[aop,b,cO,qZ,fH]
theorem Rz{b o n c s k:Nat}{l ws:List Value}(j:ev h e x=some (.slice (some ⟨b,o,none⟩) n c))(p:ev h e y=some u)(g:dn h size u=some (l,m))(hb:h.get b=some (.cells vs true sz))(f:Nat.min m n=k)(a:o+k*size<=vs.length)
 (h1:eC (cG (k*size) l)=true)(i:cW vs o (cG (k*size) l)=ws):aop h base e (.copy size x y)=some (.val (.int .i64 k) (h.wr base b (.cells ws true sz))):=by
 subst f;have d:Nat.ble (o+Nat.min m n*size) (cF vs)=true:=by rw[bX];exact gL a
 simp only[aop,j,p,g,hb,d,h1,zE,cond_true,i]
theorem GO{rs d:List Rec}{Q:Env->Heap->Prop}{g:Option (Nat×Bool)}{f:Env}{b o n c k:Nat}{l ws:List Value}
 (ho:bK ops i=some ⟨dst, .copy size x y,g⟩)(w:bK bf i=some mask)(t:bD e (cA ⟨dst, .copy size x y,g⟩)=f)(r:bA f g=some true)
 (B:ev {h with log:=[]} f x=some (.slice (some ⟨b,o,none⟩) n c))(C:ev {h with log:=[]} f y=some u)(z:dn {h with log:=[]} size u=some (l,m))(hb:h.get b=some (.cells vs true sz))(v:Nat.min m n=k)(p:o+k*size<=vs.length)
 (h1:eC (cG (k*size) l)=true)(A:cW vs o (cG (k*size) l)=ws)(a:b<h.next)(j:base<=b)(q:br (h.wr base b (.cells ws true sz)) base [b] mask rs=some d)
 (H:WD T base ops bf Q is d (bN e dst (.int .i64 k)) (h.wr base b (.cells ws true sz))):WD T base ops bf Q (i::is) rs e h:=
 lV ho w t r rfl (Rz (h:={h with log:=[]}) (s:=0) B C z hb v p h1 A) (F3 a j _) (rj a _) q H
theorem Ar{len:Nat}{cs:Array Value}(c:ev h e x=some (.agg cs))(a:ev h e y=some (.int k (i:Nat)))(hi:i<len)(b:bK cs.toList (i*size)=some v):aop h base e (.rL len size none x y)=some (.val v h):=by
 have:(.int k (i:Nat):Value)= .int k (Int.ofNat i):=rfl;rw[this]at a;simp only[aop,c,a,gM hi,cond_true,b,cO]
def mi(a b:Int):Int:=if b<a then b else a
theorem rC{b:Int}(c:ev h e x=some (.int .i64 a))(d:ev h e y=some (.int .i64 b)):aop h base e (.eF false [x,y])=some (.val (.int .i64 (mi a b)) h):=by
 simp only[aop,evs,c,d,mmA,if_true,cO,mi];rfl
theorem nX{n:Nat}(b:n<18446744073709551616):fE .u64 (n:Int)=n:=by
 have a:((n:Nat):Int)=Int.ofNat n:=rfl;rw[a];simp only[fE,gM b,cond_true]
theorem Vy{a b:Nat}(d:a<18446744073709551616)(hb:b<18446744073709551616):an .or (.int .u64 a) (.int .u64 b)=some (.int .u64 ((Nat.lor a b:Nat):Int)):=by
 have c:((a:Nat):Int)=Int.ofNat a:=rfl;have e2:((b:Nat):Int)=Int.ofNat b:=rfl;rw[c,e2];simp only[an,arith,og,gM d,gM hb,zE,cond_true,if_true];rfl
theorem tf{a b:Nat}(d:a<18446744073709551616)(hb:b<18446744073709551616):an .and (.int .u64 a) (.int .u64 b)=some (.int .u64 ((Nat.land a b:Nat):Int)):=by
 have c:((a:Nat):Int)=Int.ofNat a:=rfl;have e2:((b:Nat):Int)=Int.ofNat b:=rfl;rw[c,e2];simp only[an,arith,og,gM d,gM hb,zE,cond_true,if_true];rfl
theorem uS{a n:Nat}(c:n<=64):an .shr (.int .u64 a) (.int k n)=some (.int .u64 ((Nat.shiftRight a n:Nat):Int)):=by
 have b:((a:Nat):Int)=Int.ofNat a:=rfl;have e2:((n:Nat):Int)=Int.ofNat n:=rfl;rw[b,e2];simp only[an,oK,tp c];rfl
theorem ud{a b:Nat}(h:a+b<18446744073709551616):an .add (.int .u64 a) (.int .u64 b)=some (.int .u64 ((a+b:Nat):Int)):=jM (by rw[←Int.natCast_add];exact nX h)
theorem Sj{a:Nat}:an .rem (.int .i64 a) (.int .i64 8)=some (.int .i64 ((a % 8:Nat):Int)):=by
 have e:(a:Int).tmod 8=((a % 8:Nat):Int):=by rw[Int.tmod_eq_emod_of_nonneg (by omega)];omega
 simp[an,arith,e]
theorem Sh{a:Nat}(h1:a<9223372036854775808):an .quo (.int .i64 a) (.int .i64 8)=some (.int .i64 ((a / 8:Nat):Int)):=by
 have e:fE .i64 ((a:Int).tdiv 8)=((a / 8:Nat):Int):=by
  rw[Int.tdiv_eq_ediv_of_nonneg (by omega),bO (by omega) (by omega)];omega
 have e2:an .quo (.int .i64 a) (.int .i64 8)=some (.int .i64 (fE .i64 ((a:Int).tdiv 8))):=rfl;rw[e2,e]
theorem rU{z:Nat}:∀{m l:List Nat},z∈l->z∈aB base l m
 |[],l,h=>h
 |b::m,l,h=>by
  simp only[aB];refine rU (m:=m) ?_;rw[cond_eq_ite,cond_eq_ite];split
  ·split
   ·exact h
   ·exact bz _ h
  ·exact h
theorem mem_merge{z:Nat}(a:z<base):∀{m l:List Nat},z∈m->z∈aB base l m
 |b::m,l,h=>by
  simp only[aB];rcases List.mem_cons.1 h with rfl|h
  ·refine rU ?_;rw[gM a,cond_true,cond_eq_ite];split
   ·rename_i hh;exact jh.1 hh
   ·exact b6 ..
  ·exact mem_merge a h
theorem we{l:Nat}{a:Env}{b:List Nat}{c d:aN}{st:Nat}{p:bk}(g:h.get l=some (.loop a b c d st p))(hb:l<base):∀{e:List Nat},l∈e->fI h base e=false
 |x::e,hm=>by
  have ih:l∈e->fI h base e=false:=we g hb;by_cases hx:x=l
  ·subst hx;simp only[fI,gM hb,cond_true,g]
  ·have f:l∈e:=by rcases List.mem_cons.1 hm with h1|h1;exact absurd h1.symm hx;exact h1
   simp only[fI,cond_eq_ite,ih f];split
   ·split<;>simp
   ·rfl
variable{l:Nat}
theorem F7{a:Env}{b:List Nat}{c d:aN}{st:Nat}{p:bk}(e:h1.get l=some (.loop a b c d st p))(hb:l<h.next)(f:l∈h1.log):gcA h h1 v=h1:=by
 unfold gcA;rw[we e hb f,Bool.and_false,cond_false]
theorem Ao{b:Nat}{o:bM}(hb:b<base):(h.wr base b o).log=if fF h.log b=true then h.log else b::h.log:=by
 unfold Heap.wr;rw[gM hb];simp only[cond_eq_ite,if_true]
theorem dy{b z:Nat}{o:bM}(a:z∈(h.wr base b o).log):z=b∨z∈h.log:=by
 by_cases hb:b<base
 ·rw[Ao hb]at a;by_cases hh:fF h.log b=true
  ·rw[if_pos hh]at a;exact .inr a
  ·rw[if_neg hh]at a;exact List.mem_cons.1 a
 ·rw[Heap.aD (by omega)]at a;exact .inr a
theorem oP{b:Nat}{o:bM}(hb:b<base):b∈(h.wr base b o).log:=by
 rw[Ao hb];by_cases hh:fF h.log b=true
 ·rw[if_pos hh];exact jh.1 hh
 ·rw[if_neg hh];exact b6 ..
structure YQX (l:Nat) (L LX:bM) (lo N n:Nat) (R S:Heap->Prop) (x:bk) (e:Env) (ds:Dfs) (h3:Heap):Prop where
 busy:∃o,h3.get l=some o/\busy o=true
 log:∀z∈h3.log,lo<=z/\z<N
 rel:(x= .normal/\∀h5:Heap,n<=h5.next->(∀z,z<n->z≠l->h5.get z=h3.get z)->h5.get l=some L->R h5)∨(x= .ret/\∀h5:Heap,h5.next=h3.next->(∀z,z≠l->h5.get z=h3.get z)->h5.get l=some LX->S h5)
structure YAX (T:Nat->Option aq) (l:Nat) (e:Env) (ps:List Nat) (asg body:aN) (lo N n:Nat) (R S:Heap->Prop) (x:bk) (e2:Env) (ds2:Dfs) (h2:Heap):Prop where
 x:x= .normal
 loop:h2.get l=some (.loop e ps asg body 0 .normal)
 body:WE T n (some l) body (YQX l (.loop e ps asg body 0 .normal) (.loop e ps asg body 2 .ret) lo N n R S) e2 ds2 (h2.wr 0 l (.loop e ps asg body 1 .normal))
variable{N:Nat}{e1:Env}
theorem FW.NL(P:aF T){R S:Heap->Prop}(O:h.get l=some (.loop e ps asg body 0 .normal))(M:iX e ps args=some e1)(s:l<h.next)(F:lo<=l/\l<N)
 (H:WE T h.next (some l) asg (YAX T l e ps asg body lo N h.next R S) e1 [] h):
 FW T (.yield l) args h λr h'=>(∀z∈h'.log,lo<=z/\z<N)/\(r= .ret (.bool true)/\R h'∨r= .ret (.bool false)/\l∈h'.log/\S h'):=by
 obtain⟨x,e2,W,L,⟨m,G⟩,⟨rfl,E,V⟩⟩:=H.ok;obtain⟨x3,e3,X,y,⟨C,j⟩,⟨⟨o,B,D⟩,g,f⟩⟩:=V.ok;have t:notReady (L.get l)=false:=by rw[E];rfl
 have i:∃a b c d p,o= .loop a b c d 1 p:=by
  unfold A.busy at D;split at D
  ·exact⟨_,_,_,_,_,rfl⟩
  ·cases D
 obtain⟨oa,ob,oc,od,op,rfl⟩:=i;rcases f with⟨rfl,f⟩|⟨rfl,f⟩
 ·have J:=(eO.all P m).exec _ _ _ _ _ _ _ _ _ _ (G m (bl _)) (bl _);have Q:=(eO.all P C).exec _ _ _ _ _ _ _ _ _ _ (j C (bl _)) J.next
  have U:AS 0 h (y.wr 0 l (.loop e ps asg body 0 .normal)):=((J.zero.trans (AS.wr 0 L l _)).trans Q.zero).trans (AS.wr 0 y l _);obtain⟨K,Y,Z⟩:=zI (v:= .bool true) U;refine⟨.ret (.bool true),gcA h (y.wr 0 l (.loop e ps asg body 0 .normal)) (.bool true),⟨m+C+1,λn hn=> ?_⟩,?_, .inl ⟨rfl,?_⟩⟩
  ·obtain⟨k,rfl⟩:∃k,n=k+1:=⟨n-1,by omega⟩;have I:=G k (by omega);have w:=j k (by omega);rw[←wr0]at w;simp only[gG,O,M,I,t,cond_false,w,B];rfl
  ·rw[Z];exact g
  ·refine f _ Y (λz u q=>(K z u).trans (Heap.ef q)) ((K l s).trans ?_);exact Heap.aI B
 ·refine⟨.ret (.bool false),y.wr h.next l (.loop e ps asg body 2 .ret),⟨m+C+1,λn hn=> ?_⟩,?_, .inr ⟨rfl,oP s,?_⟩⟩
  ·obtain⟨k,rfl⟩:∃k,n=k+1:=⟨n-1,by omega⟩;have I:=G k (by omega);have w:=j k (by omega);rw[←wr0]at w;simp only[gG,O,M,I,t,cond_false,w,B]
  ·intro z u;rcases dy u with rfl|u
   ·exact F
   ·exact g z u
  ·exact f _ rfl (λz q=>Heap.ef q) (Heap.aI B)
structure Jj {α:Type} (T:Nat->Option aq) (lo N l:Nat) (V:α->Value) (all:List α) (P:List α->Heap->Prop) (S:Heap->Prop):Prop where
 qk:∀done x H,x∈all->Rdy H->N<=H.next->P done H->FW T (.yield l) [V x] H λr H'=>(∀z∈H'.log,lo<=z/\z<N)/\(r= .ret (.bool true)/\P (done++[x]) H'∨r= .ret (.bool false)/\l∈H'.log/\S H')
 fu:∀done H H',P done H->N<=H'.next->(∀x,x<N->H'.get x=H.get x)->P done H'
 PX:∀H m,S H->S {H with log:=m}
 GB:∀H,S H->∃a b c d,H.get l=some (.loop a b c d 2 .ret)
theorem Jj.call(q:aF T){α:Type}{lo N l:Nat}{V:α->Value}{all:List α}{P:List α->Heap->Prop}{S:Heap->Prop}(Y:Jj T lo N l V all P S){K:Env->Dfs->Heap->Prop}{dst:Option Nat}{done:List α}{x:α}(t:x∈all)(s:WF h)(f:lo<=h.next)(c:N<=h.next)(d:l<base)(o:P done h)
 (n:∀h',Lk lo h h'→(∀z,N<=z->z<h.next->h'.get z=h.get z)->P (done++[x]) h'→K (bN e dst (.bool true)) ds h')
 (p:∀h',Lk lo h h'→l∈h'.log->S h'→K (bN e dst (.bool false)) ds h'):FW T (.yield l) [V x] {h with log:=[]} (KO K Q base dst e ds h.log):=by
 refine FW.mono' (FW.BP q (Y.qk done x _ t (.of s) c (Y.fu _ _ _ o c λ_ _=>rfl)) rfl) ?_;rintro r m ⟨b,k,a⟩;have j:Lk lo {h with log:=[]} m:=Lk.lK b f λz u=>(k z u).1;rcases a with⟨rfl,a⟩|⟨rfl,g,a⟩
 ·refine⟨n _ j.call (λz v i=> ?_) (Y.fu _ _ _ a (gd c b.next) λ_ _=>rfl)⟩;exact b.same z i i (rR λg=>by have:=(k z g).2;omega)
 ·exact⟨p _ j.call (mem_merge d g) (Y.PX _ _ a)⟩
def GrX(T:Nat->Option aq)(f:Nat)(args:List Value)(h:Heap)(lo:Nat)(P S:Heap->Prop):Prop:=CW T f args h λr h'=>Lk lo h h'∧∃v,r= .ret v/\(P h'∨S h')
structure RT (rs:List (Nat×Option (Option Nat))) (lo l:Nat) (P S:Heap->Prop) (x:bk) (e:Env) (ds:Dfs) (h1:Heap):Prop where
 ok:(x= .normal∨x= .ret)/\ds=[]/\eR lo h1.log/\(∃vs,bL h1 e rs=some vs)/\(P h1∨l∈h1.log/\S h1)
variable{P:Heap->Prop}
theorem J4{S:Heap->Prop}(a:eR lo h.log)(hr:bL h e rs=some vs)(b:l∈h.log)(c:S h):RT rs lo l P S .ret e [] h:=⟨⟨.inr rfl,rfl,a,⟨vs,hr⟩, .inr ⟨b,c⟩⟩⟩
theorem J3{S:Heap->Prop}(a:eR lo h.log)(hr:bL h e rs=some vs)(b:P h):RT rs lo l P S .normal e [] h:=⟨⟨.inl rfl,rfl,a,⟨vs,hr⟩, .inl b⟩⟩
theorem GrX.of(C:aF T){c:aN}{S:Heap->Prop}(A:T f=some (.code c rs))(n:lo<=h.next)(k:l<h.next)
 (y:∀g h2:Heap,h.next<=h2.next->(∀x,x<h.next->h2.get x=g.get x)->P g->P h2)(z:∀H,S H->∃a b c d,H.get l=some (.loop a b c d 2 .ret))(H:WE T h.next none c (RT rs lo l P S) (dM 0 args) [] h):GrX T f args h lo P S:=by
 obtain⟨x,e,ds,g,⟨m,s⟩,⟨D,rfl,B,⟨j,p⟩,i⟩⟩:=H.ok;have r:=(eO.all C m).exec _ _ _ _ _ _ _ _ _ _ (s m (bl _)) (bl _);obtain⟨t,u,w,E⟩:=kW (v:=dO j) r;have q:Lk lo h (gcA h g (dO j))/\∃v,Res.ret (dO j)= .ret v/\(P (gcA h g (dO j))∨S (gcA h g (dO j))):=by
  refine⟨Lk.lK (r.gc' _) n (by rw[w];exact B),_,rfl,?_⟩;rcases i with i|⟨hml,i⟩
  ·exact .inl (y _ _ u t i)
  ·obtain⟨a,b,c,d,o⟩:=z _ i;rw[F7 o k hml];exact .inr i
 refine CW.code A ⟨x,e,[],g,⟨m,s⟩,?_⟩;unfold vg;rcases D with rfl|rfl<;>(simp only[p];exact q)
theorem tj{base:Nat}:∀{m l:List Nat},eR base m->aB base l m=l
 |[],_,_=>rfl
 |b::m,l,h=>by
  have hb:=h b (b6 ..);simp only[aB,tq (show¬b<base by omega),cond_false];exact tj λx a=>h x (bz _ a)
theorem An{f:Operand}{cap:Array Value}{S:Heap->Prop}(hr:nr h1 rnd=true)(D:ev h1 e f=some (.func (.func g) first cap))(o:gw (T g)=false)
 (n:base<=lo)(q:lo<=h1.next)(j:h1.log=[])(F:WF h1)
 (x:GrX T g (dP first.toList (dP [.func (.yield h1.next) #[] #[]] cap.toList)) {h1.push (.loop e ps asg body 0 .normal)with log:=[]} lo P S)
 (B:∀H,P H->∃a b c d,H.get h1.next=some (.loop a b c d 0 .normal))(C:∀H,S H->∃a b c d,H.get h1.next=some (.loop a b c d 2 .ret))
 (y:∀h h3:Heap,h3.log=[]->WF h3->h1.next<h3.next->h3.next=h.next->(∀z,z≠h1.next->h3.get z=h.get z)->P h->Q .normal e ds h3)
 (A:∀h h3:Heap,h3.log=[]->WF h3->h1.next<h3.next->h3.next=h.next->(∀z,z≠h1.next->h3.get z=h.get z)->S h->Q .ret e ds h3):WE T base rnd (.rangeFunc f ps asg body) Q e ds h1:=by
 refine tH hr D o (CW.mono x ?_);rintro r h ⟨k,v,rfl,i⟩;have m:eR base h.log:=λz E=>gd n (k.log (eR.nil _) z E);have s:(({h with log:=aB base h1.log h.log}:Heap).wr base h1.next .dead).log=[]:=by
  rw[Heap.aD (by omega)];show aB base h1.log h.log=[];rw[tj m,j]
 have t:WF (({h with log:=aB base h1.log h.log}:Heap).wr base h1.next .dead):=((k.wf ((F.push _).log _)).log _).as (AS.wr _ _ _ _);have u:h1.next<h.next:=k.next
 have w:∀z,z≠h1.next->(({h with log:=aB base h1.log h.log}:Heap).wr base h1.next .dead).get z=h.get z:=λz p=>Heap.ef p
 rcases i with i|i
 ·obtain⟨a,b,c,d,l⟩:=B _ i;exact⟨_,rfl,_,_,_,_,_,_,l,rfl,y h _ s t u rfl w i⟩
 ·obtain⟨a,b,c,d,l⟩:=C _ i;exact⟨_,rfl,_,_,_,_,_,_,l,rfl,A h _ s t u rfl w i⟩
structure Ya {α:Type} (px:bk) (T:Nat->Option aq) (lo N l:Nat) (V:α->List Value) (all:List α) (P:List α->Heap->Prop) (S:Heap->Prop):Prop where
 qk:∀done x H,x∈all->Rdy H->N<=H.next->P done H->FW T (.yield l) (V x) H λr H'=>(∀z∈H'.log,lo<=z/\z<N)/\(r= .ret (.bool true)/\P (done++[x]) H'∨r= .ret (.bool false)/\l∈H'.log/\S H')
 fu:∀done H H',P done H->N<=H'.next->(∀x,x<N->H'.get x=H.get x)->P done H'
 PX:∀H m,S H->S {H with log:=m}
 GB:∀H,S H->∃a b c d,H.get l=some (.loop a b c d 2 px)
theorem Nq{b:aN}(H:WE T base rnd b Q e ds h):WE T base rnd (.scope b) Q e ds h:=by
 obtain⟨x,f,a,g,⟨m,c⟩,d⟩:=H.ok;exact⟨_,_,_,_,⟨m+1,λn i=>by
  obtain⟨k,rfl⟩:∃k,n=k+1:=⟨n-1,by omega⟩;simp only[cC,c k (by omega)]⟩,d⟩
def jd(h:Heap)(q:Nat):Prop:=∃vs own t,h.get q=some (.cells vs own t)/\cZ vs=false
theorem uI{q n:Nat}(a:q<n)(c:jd h q):∀{l:List Nat},q∈l->fI h n l=false
 |b::l,hm=>by
  obtain⟨vs,own,t,g,hs⟩:=c;rcases List.mem_cons.1 hm with rfl|hm
  ·simp only[fI,gM a,cond_true,g,hs,cond_false]
  ·have d:=uI a ⟨vs,own,t,g,hs⟩ hm;simp only[fI];split<;>simp[d,cond_eq_ite]
theorem sW{q:Nat}(c:q<h.next)(b:q∈h1.log)(a:jd h1 q):gcA h h1 v=h1:=by
 unfold gcA;rw[uI c a b,Bool.and_false];rfl
theorem Ox(a:h.log=[]):∀x,(gcA h h v).get x=h.get x:=by
 intro x;unfold gcA;rw[a];cases cE v<;>simp[fI,nH,Heap.get,aW]
structure YQK (l q:Nat) (L:bM) (lo n:Nat) (R:Heap->Prop) (x:bk) (e:Env) (ds:Dfs) (h3:Heap):Prop where
 x:x= .normal
 busy:∃o,h3.get l=some o/\busy o=true
 log:∀z∈h3.log,lo<=z
 kept:q∈h3.log
 X7:jd h3 q
 rel:R (h3.wr 0 l L)
structure YAK (T:Nat->Option aq) (l q:Nat) (e:Env) (ps:List Nat) (asg body:aN) (lo n:Nat) (R:Heap->Prop) (x:bk) (e2:Env) (ds2:Dfs) (h2:Heap):Prop where
 x:x= .normal
 loop:h2.get l=some (.loop e ps asg body 0 .normal)
 body:WE T n (some l) body (YQK l q (.loop e ps asg body 0 .normal) lo n R) e2 ds2 (h2.wr 0 l (.loop e ps asg body 1 .normal))
theorem FW.NI(Z:aF T){q:Nat}{R:Heap->Prop}(M:h.get l=some (.loop e ps asg body 0 .normal))(L:iX e ps args=some e1)(N:l<h.next)(Q:q<h.next)(B:q≠l)
 (H:WE T h.next (some l) asg (YAK T l q e ps asg body lo h.next R) e1 [] h):FW T (.yield l) args h λr h'=>r= .ret (.bool true)/\(∀z∈h'.log,lo<=z)/\q∈h'.log/\R h':=by
 obtain⟨x,e2,G,K,⟨m,O⟩,⟨rfl,v,F⟩⟩:=H.ok;obtain⟨x3,X,I,s,⟨U,w⟩,⟨rfl,⟨o,P,u⟩,i,D,⟨W,C,t,J,S⟩,j⟩⟩:=F.ok;have y:notReady (K.get l)=false:=by rw[v];rfl
 have g:∃a b c d p,o= .loop a b c d 1 p:=by
  unfold A.busy at u;split at u
  ·exact⟨_,_,_,_,_,rfl⟩
  ·cases u
 obtain⟨oa,ob,oc,od,op,rfl⟩:=g;have f:gcA h (s.wr 0 l (.loop e ps asg body 0 .normal)) (.bool true)=s.wr 0 l (.loop e ps asg body 0 .normal):=sW (q:=q) Q (by rw[Heap.aD (by omega)];exact D) ⟨W,C,t,(Heap.ef B).trans J,S⟩;refine⟨.ret (.bool true),gcA h (s.wr 0 l (.loop e ps asg body 0 .normal)) (.bool true),⟨m+U+1,λn Y=> ?_⟩,rfl,?_,?_,?_⟩
 ·obtain⟨k,rfl⟩:∃k,n=k+1:=⟨n-1,by omega⟩;have V:=O k (by omega);have E:=w k (by omega);rw[←wr0]at E;simp only[gG,M,L,V,y,cond_false,E,P];rfl
 ·rw[f,Heap.aD (by omega)];exact i
 ·rw[f,Heap.aD (by omega)];exact D
 ·rw[f];exact j
structure GU {α:Type} (T:Nat->Option aq) (lo N l q:Nat) (V:α->Value) (all:List α) (P:List α->Heap->Prop):Prop where
 hq:q<N
 qk:∀done x rest H,all=done++x::rest->Rdy H->N<=H.next->P done H->FW T (.yield l) [V x] H λr H'=>r= .ret (.bool true)/\(∀z∈H'.log,lo<=z)/\q∈H'.log/\jd H' q/\P (done++[x]) H'
 fu:∀done H H',P done H->H.next<=H'.next->(∀x,x<H.next->H'.get x=H.get x)->P done H'
theorem GU.call(o:aF T){α:Type}{lo N l q:Nat}{V:α->Value}{all:List α}{P:List α->Heap->Prop}(Y:GU T lo N l q V all P){K:Env->Dfs->Heap->Prop}{dst:Option Nat}{done rest:List α}{x:α}(t:all=done++x::rest)(s:WF h)(a:lo<=h.next)(g:N<=h.next)(b:q<base)(i:P done h)
 (f:∀h',Lk lo h h'→q∈h'.log/\jd h' q->P (done++[x]) h'→K (bN e dst (.bool true)) ds h'):FW T (.yield l) [V x] {h with log:=[]} (KO K Q base dst e ds h.log):=by
 refine FW.mono' (FW.BP o (Y.qk done x rest _ t (.of s) g (Y.fu _ _ _ i (bl _) λ_ _=>rfl)) rfl) ?_;rintro r c ⟨d,rfl,m,n,j,p⟩;have k:Lk lo {h with log:=[]} c:=Lk.lK d a λz u=>m z u;exact⟨f _ k.call ⟨mem_merge b n,j⟩ (Y.fu _ _ _ p (bl _) λ_ _=>rfl)⟩
theorem Gr.ofK(r:aF T){c:aN}{Q d:Value->Heap->Prop}(p:T f=some (.code c rs))(i:lo<=h.next)
 (o:∀v a,AS h.next h a->Q v a->d v (gcA h a v))(H:WE T h.next none c (RR rs lo Q) (dM 0 args) [] h):Gr T f args h lo d:=by
 obtain⟨x,e,ds,a,⟨m,l⟩,⟨t,rfl,q,b,j,s⟩⟩:=H.ok;have g:=(eO.all r m).exec _ _ _ _ _ _ _ _ _ _ (l m (bl _)) (bl _);obtain⟨u,w,n,y⟩:=kW (v:=dO b) g;have k:Lk lo h (gcA h a (dO b))/\∃v,Res.ret (dO b)= .ret v/\d v (gcA h a (dO b)):=
  ⟨Lk.lK (g.gc' _) i (by rw[n];exact q),_,rfl,o _ _ g s⟩
 refine CW.code p ⟨x,e,[],a,⟨m,l⟩,?_⟩;unfold vg;rcases t with rfl|rfl<;>(simp only[j];exact k)
theorem OB{q:Nat}{V:α->Value}{all done:List α}{P:List α->Heap->Prop}(Y:GU T lo N l q V all P)(e:q<h.next)(d:AS h.next h h1)(a:h.log=[])(p:v= .tuple #[]/\P done h1/\(h1=h∨q∈h1.log/\jd h1 q)):v= .tuple #[]/\P done (gcA h h1 v):=by
 obtain⟨f,c,b⟩:=p;refine⟨f,?_⟩;rcases b with rfl|⟨b,hd⟩
 ·exact Y.fu _ _ _ c (kW d).2.1 λx _=>Ox a x
 ·rw[sW e b hd];exact c
theorem IX{f:Operand}{cap:Array Value}(hr:nr h1 rnd=true)(w:ev h1 e f=some (.func (.func g) first cap))(m:gw (T g)=false)
 (l:base<=lo)(p:lo<=h1.next)(i:h1.log=[])(C:WF h1)
 (t:Gr T g (dP first.toList (dP [.func (.yield h1.next) #[] #[]] cap.toList)) {h1.push (.loop e ps asg body 0 .normal)with log:=[]} lo λv h'=>v= .tuple #[]/\P h')
 (u:∀H,P H->∃a b c d,H.get h1.next=some (.loop a b c d 0 .normal))
 (K:∀h h3:Heap,h3.log=[]->WF h3->h1.next<h3.next->h3.next=h.next->(∀z,z≠h1.next->h3.get z=h.get z)->(∀z,z<lo->h3.get z=h1.get z)->P h->Q .normal e ds h3):WE T base rnd (.rangeFunc f ps asg body) Q e ds h1:=by
 refine tH hr w m (CW.mono t ?_);rintro r h ⟨j,v,rfl,rfl,q⟩;have k:eR base h.log:=λz o=>gd l (j.log (eR.nil _) z o);have y:(({h with log:=aB base h1.log h.log}:Heap).wr base h1.next .dead).log=[]:=by
  rw[Heap.aD (by omega)];show aB base h1.log h.log=[];rw[tj k,i]
 have A:WF (({h with log:=aB base h1.log h.log}:Heap).wr base h1.next .dead):=((j.wf ((C.push _).log _)).log _).as (AS.wr _ _ _ _);have B:h1.next<h.next:=j.next
 have s:∀z,z≠h1.next->(({h with log:=aB base h1.log h.log}:Heap).wr base h1.next .dead).get z=h.get z:=λz n=>Heap.ef n
 obtain⟨a,b,c,d,x⟩:=u _ q;refine⟨_,rfl,_,_,_,_,_,_,x,rfl,K h _ y A B rfl s (λz o=>(s z (by omega)).trans ((j.old z o).trans ?_)) q⟩;exact Heap.eE (by omega)
structure GV {α:Type} (T:Nat->Option aq) (lo N l q:Nat) (V:α->List Value) (all:List α) (P:List α->Heap->Prop) (W:Heap->Nat->Prop):Prop where
 hq:q<N
 qk:∀done x H,x∈all->done.length<100000->Rdy H->N<=H.next->P done H->FW T (.yield l) (V x) H λr H'=>r= .ret (.bool true)/\(∀z∈H'.log,lo<=z)/\q∈H'.log/\jd H' q/\P (done++[x]) H'∧(∀z,z<H.next->¬W H z->H'.get z=H.get z)/\(∀z,W H' z->W H z∨H.next<=z)
 fu:∀done H H',P done H->H.next<=H'.next->(∀x,x<H.next->H'.get x=H.get x)->P done H'
 wst:∀done H H',P done H->H.next<=H'.next->(∀x,x<H.next->H'.get x=H.get x)->∀z,W H' z->W H z
 wlt:∀done H z,P done H->W H z->z<H.next
theorem GV.call(A:aF T){α:Type}{lo N l q:Nat}{V:α->List Value}{all:List α}{P:List α->Heap->Prop}{W:Heap->Nat->Prop}(Y:GV T lo N l q V all P W){K:Env->Dfs->Heap->Prop}{dst:Option Nat}{done:List α}{x:α}(C:x∈all)(a:done.length<100000)(B:WF h)(j:lo<=h.next)(s:N<=h.next)(k:q<base)(d:P done h)
 (p:∀h',Lk lo h h'→q∈h'.log/\jd h' q->P (done++[x]) h'→(∀z,z<h.next->¬W h z->h'.get z=h.get z)->(∀z,W h' z->W h z∨h.next<=z)->K (bN e dst (.bool true)) ds h'):FW T (.yield l) (V x) {h with log:=[]} (KO K Q base dst e ds h.log):=by
 have f:P done {h with log:=[]}:=Y.fu _ _ _ d (bl _) λ_ _=>rfl;refine FW.mono' (FW.BP A (Y.qk done x _ C a (.of B) s f) rfl) ?_;rintro r c ⟨o,rfl,v,w,t,m,g,i⟩;have u:Lk lo {h with log:=[]} c:=Lk.lK o j λz b=>v z b;refine⟨p _ u.call ⟨mem_merge k w,t⟩ (Y.fu _ _ _ m (bl _) λ_ _=>rfl) (λz b y=>g z b λq=>y (Y.wst _ h {h with log:=[]} d (bl _) (λ_ _=>rfl) z q)) λz b=> ?_⟩;have n:=Y.wst _ c {c with log:=aB base h.log c.log} m (bl _) (λ_ _=>rfl) z b;exact(i z n).imp (λq=>Y.wst _ h {h with log:=[]} d (bl _) (λ_ _=>rfl) z q) id
theorem KE{q:Nat}{V:α->List Value}{all done:List α}{P:List α->Heap->Prop}{W:Heap->Nat->Prop}(Y:GV T lo N l q V all P W)(g:q<h.next)(e:AS h.next h h1)(p:v= .tuple #[]/\P done h1/\(((∀x,x<h.next->h1.get x=h.get x)/\P done h)∨q∈h1.log/\jd h1 q)):v= .tuple #[]/\P done (gcA h h1 v):=by
 obtain⟨i,f,a⟩:=p;refine⟨i,?_⟩;rcases a with⟨he,h0⟩|⟨a,hd⟩
 ·obtain⟨c,d,_⟩:=kW (v:=v) e;exact Y.fu _ _ _ h0 d λx b=>(c x b).trans (he x b)
 ·rw[sW g a hd];exact f
def Gp(T:Nat->Option aq)(f:Nat)(args:List Value)(h:Heap)(S:Nat->Prop)(Q Qp:Value->Heap->Prop):Prop:=CW T f args h λr h'=>Ws S h h'∧((∃v,r= .ret v/\Q v h')∨∃v,r= .panic v/\Qp v h')
structure Hr (rs:List (Nat×Option (Option Nat))) (S:Nat->Prop) (Q Qp:Value->Heap->Prop) (x:bk) (e:Env) (ds:Dfs) (h1:Heap):Prop where
 ok:ds=[]/\(∀z∈h1.log,S z)/\(((x= .normal∨x= .ret)/\∃vs,bL h1 e rs=some vs/\Q (dO vs) h1)∨∃v,x= .panic v/\Qp v h1)
variable{Qp:Value->Heap->Prop}
theorem JZ{Q:Value->Heap->Prop}(a:∀z∈h.log,S z)(hr:bL h e rs=some vs)(b:Q (dO vs) h):Hr rs S Q Qp .ret e [] h:=⟨⟨rfl,a, .inl ⟨.inr rfl,vs,hr,b⟩⟩⟩
theorem wq{Q:Value->Heap->Prop}(a:∀z∈h.log,S z)(hr:bL h e rs=some vs)(b:Q (dO vs) h):Hr rs S Q Qp .normal e [] h:=⟨⟨rfl,a, .inl ⟨.inl rfl,vs,hr,b⟩⟩⟩
theorem fJ{Q:Value->Heap->Prop}(a:∀z∈h.log,S z)(b:Qp v h):Hr rs S Q Qp (.panic v) e [] h:=⟨⟨rfl,a, .inr ⟨v,rfl,b⟩⟩⟩
theorem Gp.of(r:aF T){c:aN}{Q:Value->Heap->Prop}(q:T f=some (.code c rs))
 (p:∀v a h2,cE v=true->h.next<=h2.next->(∀x,x<h.next->h2.get x=a.get x)->Q v a->Q v h2)(H:WE T h.next none c (Hr rs S Q Qp) (dM 0 args) [] h):Gp T f args h S Q Qp:=by
 obtain⟨x,e,ds,a,⟨m,j⟩,⟨rfl,i,d⟩⟩:=H.ok;have b:=(eO.all r m).exec _ _ _ _ _ _ _ _ _ _ (j m (bl _)) (bl _);refine CW.code q ⟨x,e,[],a,⟨m,j⟩,?_⟩;unfold vg;rcases d with⟨d,vs,hvs,hq⟩|⟨v,rfl,hq⟩
 ·obtain⟨k,l,n,o⟩:=kW (v:=dO vs) b;have g:Ws S h (gcA h a (dO vs))/\((∃v,Res.ret (dO vs)= .ret v/\Q v (gcA h a (dO vs)))∨∃v,Res.ret (dO vs)= .panic v/\Qp v (gcA h a (dO vs))):=by
   refine⟨Ws.lK (b.gc' _) (by rw[n];exact i), .inl ⟨_,rfl,?_⟩⟩;cases hv:cE (dO vs)with
   |true=>exact p _ _ _ hv l k hq
   |false=>rw[o hv];exact hq
  rcases d with rfl|rfl<;>(simp only[hvs];exact g)
 ·exact⟨Ws.lK b i, .inr ⟨v,rfl,hq⟩⟩
theorem Cx{ops:List aP}{bf:List Nat}{i mask m0:Nat}{e1:Env}{h1:Heap}{fin:bk×Env×Heap}(d:bK bf i=some mask)(hi:∀k rs',m0<=k->dU T k base ops [i] bf rs' e1 h1=some fin):
 ∀(init:List Nat) (k:Nat) (rs:List Rec) (e:Env) (h:Heap),(∀j∈init,Nat.testBit mask j=true)->m0+init.length<=k->dU T k base ops init bf rs e h=some (.normal,e1,h1)->dU T k base ops (init++[i]) bf rs e h=some fin
 |[],k,rs,e,h,_,hk,H=>by
  obtain⟨k,rfl⟩|rfl:(∃k',k=k'+1)∨k=0:=by cases k with|zero=>exact .inr rfl|succ k=>exact .inl ⟨k,rfl⟩
  ·simp only[dU]at H;cases H;exact hi _ _ (by simpa using hk)
  ·simp[dU]at H
 |j::is,k,rs,e,h,hb,hk,H=>by
  obtain⟨k,rfl⟩|rfl:(∃k',k=k'+1)∨k=0:=by cases k with|zero=>exact .inr rfl|succ k=>exact .inl ⟨k,rfl⟩
  ·have a:∀rs e h,dU T k base ops is bf rs e h=some (.normal,e1,h1)->dU T k base ops (is++[i]) bf rs e h=some fin:=λrs e h=>Cx d hi is k rs e h (λj f=>hb j (bz _ f)) (by simp only[pm]at hk;omega);have b:∀{c:List Nat},oW bf j c=true->oW bf j (c++[i])=true:=λ{c} q=>by
    induction c with
    |nil=>simp[oW,d,hb j (b6 ..)]
    |cons x c ihj=>
     simp only[oW,wc]at q⊢;split at q
     ·rename_i m hx;rw[cond_eq_ite]at q;split at q
      ·rename_i ht;simp only[hx,ht,cond_true];exact ihj q
      ·cases q
     ·cases q
   rw[wc];simp only[dU]at H⊢;split at H
   ·rename_i o mk ho hmk;try simp only[ho,hmk]
    split at H
    ·rename_i hw;(try simp only[hw]);exact a _ _ _ H
    ·rename_i hw;try simp only[hw]
     cases hq:jb o.op with
     |true=>
      simp only[hq,cond_true]at H⊢;split at H
      ·rename_i v h' ho1;try simp only[ho1]
       cases hn:dF o.op with
       |true=>
        simp only[hn,cond_true]at H⊢;cases hr:mS h' base rs with
        |true=>simp only[hr,cond_true]at H⊢;exact a _ _ _ H
        |false=>simp[hr]at H
       |false=>
        simp only[hn,cond_false]at H⊢;cases hx:Nat.beq h'.next h.next with
        |true=>simp only[hx,cond_true]at H⊢;exact a _ _ _ H
        |false=>
         simp only[hx,cond_false]at H⊢;cases ha:oW bf j is with
         |true=>
          simp only[ha,b ha,cond_true]at H⊢;split at H
          ·rename_i v h2 ho2;try simp only[ho2]
           split at H
           ·rename_i rs' hrs;(try simp only[hrs]);exact a _ _ _ H
           ·cases H
          ·cases H
         |false=>simp[ha]at H
      ·cases H
     |false=>
      simp only[hq,cond_false]at H⊢;split at H
      ·rename_i v h2 ho2;try simp only[ho2]
       split at H
       ·rename_i rs' hrs;(try simp only[hrs]);exact a _ _ _ H
       ·cases H
      ·rename_i fn args h3 ho2;try simp only[ho2]
       split at H
       ·rename_i v h2 hc;try simp only[hc]
        split at H
        ·rename_i rs' hrs;(try simp only[hrs]);exact a _ _ _ H
        ·cases H
       ·cases H
       ·cases H
      ·cases H
    ·cases H
   ·cases H
  ·simp[dU]at H
structure Wv (T:Nat->Option aq) (ops:List aP) (i:Nat) (Q:XQ) (ds:Dfs) (e:Env) (h:Heap):Prop where
 ok:∃o fn args h3,bK ops i=some o/\bA (bD e (cA o)) o.guard=some true/\jb o.op=false/\aop {h with log:=[]} h.next (bD e (cA o)) o.op=some (.call fn args h3)/\∃v h2,EvF T fn args {h with log:=[]} (.panic v,h2)/\∀base,Q (.panic v) [] ds {h2 with log:=aB base h.log h2.log}
theorem D9{keep init:List Nat}(hi:is=init++[i])(g:bK bf i=some mask)(a:∀j∈init,Nat.testBit mask j=true)(H:WD T base ops bf (Wv T ops i Q ds) init [] e h):WE T base rnd (.draw ops is bf keep) Q e ds h:=by
 subst hi;obtain⟨f,b,⟨m,w⟩,⟨⟨o,y,d,z,p,q,r,s,v,c,⟨l,t⟩,u⟩⟩⟩:=H.ok;refine⟨.panic v,[],ds,{c with log:=aB base b.log c.log},⟨m+l+init.length+4,λn B=> ?_⟩,u base⟩;obtain⟨k,rfl⟩:∃k,n=k+1:=⟨n-1,by omega⟩;have:=Cx (T:=T) (base:=base) (ops:=ops) (bf:=bf) (m0:=l+2) (fin:=(.panic v,[],{c with log:=aB base b.log c.log})) g (e1:=f) (h1:=b) (λk x A=>by
  obtain⟨k,rfl⟩:∃k',k=k'+1:=⟨k-1,by omega⟩;simp only[dU,p,g,q,r,s,t k (by omega),cond_false]) init k [] e h a (by omega) (w k (by omega))
 simp only[cC,this]
def Mb:bk->Option Value
 | .panic v=>some v
 |_=>none
def DW(T:Nat->Option aq)(g:Nat)(args:List Value)(pan:Option Value)(h:Heap)(Q:Option Value->Heap->Prop):Prop:=∃p h',(∃m,∀n,m<=n->jF T n g args pan h=some (p,h'))/\Q p h'
theorem CW.U5{Q:Res->Heap->Prop}{c:aN}(q:T f=some (.code c rs))
 (H:XW T h.next none c (dM 0 args) [] h λx e ds h1=>(∀i,x≠ .exit i)/\∃g first a as,ds=[(.func (.func g) first a,as)]/\DW T g (dP first.toList (dP as a.toList)) (Mb x) {h1 with log:=[]} λp j=>p=none/\∃l,bL {j with log:=aB h.next h1.log j.log} e rs=some l/\Q (.ret (dO l)) (gcA h {j with log:=aB h.next h1.log j.log} (dO l))):CW T f args h Q:=by
 obtain⟨x,e,ds,h1,⟨m,s⟩,u,g,first,a,as,rfl,p,j,⟨w,r⟩,rfl,l,b,t⟩:=H;refine⟨_,_,⟨m+w+4,λn y=> ?_⟩,t⟩;obtain⟨k,rfl⟩:∃k,n=k+3:=⟨n-3,by omega⟩;have o:=s (k+2) (by omega);have d:=r (k+1) (by omega);cases x with
 |exit i=>exact(u i rfl).elim
 |panic v=>simp only[Mb]at d;simp only[iJ,o,nE,q,d,b]
 |normal=>simp only[Mb]at d;simp only[iJ,o,nE,q,d,b]
 |ret=>simp only[Mb]at d;simp only[iJ,o,nE,q,d,b]
structure XC (T:Nat->Option aq) (base:Nat) (rs:List (Nat×Option (Option Nat))) (Q:Value->Heap->Prop) (x:bk) (e:Env) (ds:Dfs) (h1:Heap):Prop where
 ok:(∀i,x≠ .exit i)/\∃g first cap as,ds=[(.func (.func g) first cap,as)]/\DW T g (dP first.toList (dP as cap.toList)) (Mb x) {h1 with log:=[]} λp h2=>p=none/\aB base h1.log h2.log=[]/\∃vs,bL {h2 with log:=[]} e rs=some vs/\Q (dO vs) {h2 with log:=[]}
theorem Al.ofD(s:aF T){c:aN}{Q:Value->Heap->Prop}(w:T f=some (.code c rs))(hr:Rdy h)(u:∀v i,cE v=true->Q v i->Q v h)
 (H:WE T h.next none c (XC T h.next rs Q) (dM 0 args) [] h):Al T f args h Q:=by
 obtain⟨x,e,ds,i,⟨m,r⟩,⟨y,g,first,d,as,rfl,p,b,⟨l,q⟩,rfl,j,n,k,t⟩⟩:=H.ok;have o:=(eO.all s m).exec _ _ _ _ _ _ _ _ _ _ (r m (bl _)) (bl _);have a:=o.trans (AS.call (base:=h.next) ((eO.all s l).defer _ _ _ _ _ _ (q l (bl _)) rfl) o.next);rw[j]at a;refine CW.U5 w ⟨x,e,_,i,⟨m,r⟩,y,g,first,d,as,rfl,none,b,⟨l,q⟩,rfl,n,by rw[j];exact k,?_⟩;rw[j];cases hv:cE (dO n)with
 |true=>
  rw[AI hr.wf a (show({b with log:=[]}:Heap).log=h.log from hr.log.symm) hr.log hv];exact⟨.refl _,_,rfl,u _ _ hv t⟩
 |false=>
  have:gcA h {b with log:=[]} (dO n)={b with log:=[]}:=by simp[gcA,hv]
  rw[this];exact⟨.lK hr a rfl,_,rfl,t⟩
structure SE (T:Nat->Option aq) (base:Nat) (c:aN) (K:bk->Env->Option Value->Heap->Prop) (e:Env) (p:Option Value) (h:Heap):Prop where
 ok:∃x e' p' h',(∃m,∀n,m<=n->gH T n base c e p h=some (x,e',p',h'))/\K x e' p' h'
structure SO (T:Nat->Option aq) (base:Nat) (K:Env->Option Value->Heap->Prop) (ops:List aP) (e:Env) (p:Option Value) (h:Heap):Prop where
 ok:∃e' p' h',(∃m,∀n,m<=n->iO T n base ops e p h=some (.normal,e',p',h'))/\K e' p' h'
theorem DW.of{pan:Option Value}{Q:Option Value->Heap->Prop}{c:aN}(b:T g=some (.code c []))(H:SE T h.next c (λx _ p a=>(x= .normal∨x= .ret)/\Q p a) (dM 0 args) pan h):DW T g args pan h Q:=by
 obtain⟨x,j,i,a,⟨m,d⟩,f,e⟩:=H.ok;refine⟨i,a,⟨m+1,λn l=> ?_⟩,e⟩;obtain⟨k,rfl⟩:∃k,n=k+1:=⟨n-1,by omega⟩;rcases f with rfl|rfl<;>simp only[jF,b,d k (by omega)]
variable {p:Option Value} {K:bk->Env->Option Value->Heap->Prop} {KO':Env->Option Value->Heap->Prop}
theorem Gz(H:K .normal e p h):SE T base .skip K e p h:=⟨_,_,_,_,⟨1,λn a=>by obtain⟨k,rfl⟩:∃k,n=k+1:=⟨n-1,by omega⟩;simp only[gH]⟩,H⟩
theorem kz{keep:List Nat}(H:SO T base (λa c b=>K .normal (bD a keep) c b) ops e p h):SE T base (.region ops keep) K e p h:=by
 obtain⟨a,c,b,⟨m,f⟩,d⟩:=H.ok;exact⟨_,_,_,_,⟨m+1,λn g=>by obtain⟨k,rfl⟩:∃k,n=k+1:=⟨n-1,by omega⟩;simp only[gH,f k (by omega)]⟩,d⟩
theorem sq{a b:aN}(H:SE T base a (λx d g f=>x= .normal/\SE T base b K d g f) e p h):SE T base (.seq a b) K e p h:=by
 obtain⟨x,d,g,f,⟨m,j⟩,rfl,⟨s,e2,r,o,⟨l,c⟩,i⟩⟩:=H.ok;exact⟨_,_,_,_,⟨m+l+1,λn q=>by obtain⟨k,rfl⟩:∃k,n=k+1:=⟨n-1,by omega⟩;simp only[gH,j k (by omega),c k (by omega)]⟩,i⟩
theorem PR{c:Operand}{a b:aN}(d:ev h e c=some (.bool true))(H:SE T base a K e p h):SE T base (.cond c a b) K e p h:=by
 obtain⟨x,i,o,j,⟨m,g⟩,f⟩:=H.ok;exact⟨_,_,_,_,⟨m+1,λn l=>by obtain⟨k,rfl⟩:∃k,n=k+1:=⟨n-1,by omega⟩;simp only[gH,d,g k (by omega)]⟩,f⟩
theorem DM{c:Operand}{a b:aN}(d:ev h e c=some (.bool false))(H:SE T base b K e p h):SE T base (.cond c a b) K e p h:=by
 obtain⟨x,i,o,j,⟨m,g⟩,f⟩:=H.ok;exact⟨_,_,_,_,⟨m+1,λn l=>by obtain⟨k,rfl⟩:∃k,n=k+1:=⟨n-1,by omega⟩;simp only[gH,d,g k (by omega)]⟩,f⟩
theorem sw(H:KO' e p h):SO T base KO' [] e p h:=⟨_,_,_,⟨1,λn a=>by obtain⟨k,rfl⟩:∃k,n=k+1:=⟨n-1,by omega⟩;simp only[iO]⟩,H⟩
theorem iR(ho:aop h base e op=some (.val v h'))(H:SO T base KO' os (bN e dst v) p h'):SO T base KO' (⟨dst,op,none⟩::os) e p h:=by
 obtain⟨c,g,d,⟨m,b⟩,a⟩:=H.ok;exact⟨_,_,_,⟨m+1,λn f=>by obtain⟨k,rfl⟩:∃k,n=k+1:=⟨n-1,by omega⟩;simp only[iO,bA,ho,b k (by omega)]⟩,a⟩
theorem PS(H:SO T base KO' os (bN e dst .nilIface) none h):SO T base KO' (⟨dst, .recover,none⟩::os) e none h:=by
 obtain⟨c,g,d,⟨m,b⟩,a⟩:=H.ok;exact⟨_,_,_,⟨m+1,λn f=>by obtain⟨k,rfl⟩:∃k,n=k+1:=⟨n-1,by omega⟩;simp only[iO,bA,aop,b k (by omega)]⟩,a⟩
theorem PT(H:SO T base KO' os (bN e dst v) none h):SO T base KO' (⟨dst, .recover,none⟩::os) e (some v) h:=by
 obtain⟨c,g,d,⟨m,b⟩,a⟩:=H.ok;exact⟨_,_,_,⟨m+1,λn f=>by obtain⟨k,rfl⟩:∃k,n=k+1:=⟨n-1,by omega⟩;simp only[iO,bA,aop,b k (by omega)]⟩,a⟩
end Go.A
end
section
namespace Go.A
variable {T:Nat->Option aq} {base:Nat} {rnd:Option Nat} {Q Q':XQ} {e e2:Env} {ds:Dfs} {h:Heap} {os:List aP} {dst:Option Nat} {v u:Value} {x y:Operand} {keep k2:List Nat} {K:Env->Dfs->Heap->Prop}
theorem y1(H:Q .normal e2 ds h)(a:bD e keep=e2:=by simp only[bD,bN,geT,dM,cond_true,cond_false,Nat.beq];exact rfl):KR keep Q .normal e ds h:=Vr a H
theorem y3(H:K e2 ds h)(a:bD e keep=e2:=by simp only[bD,bN,geT,dM,cond_true,cond_false,Nat.beq];exact rfl):WO T base rnd (KR keep (KS K Q)) [] e ds h:=bH (Vr a (KC H))
theorem y4{b:aN}(H:WO T base rnd (KR keep (KS (WE T base rnd b Q) Q)) os e ds h):WE T base rnd (.seq (.region os keep) b) Q e ds h:=uz (uy H)
theorem yM(H:WO T base rnd Q os (bN e dst v) ds h)(a:ev h e x=some v:=by exact rfl):WO T base rnd Q (⟨dst, .mov x,none⟩::os) e ds h:=aG (dD a) H
theorem yE{i:Nat}{vs:Array Value}(H:WO T base rnd Q os (bN e dst v) ds h)(b:ev h e x=some (.tuple vs):=by exact rfl)(a:bK vs.toList i=some v:=by exact rfl):WO T base rnd Q (⟨dst, .extract x i,none⟩::os) e ds h:=aG (qp b a) H
variable{o sz:Nat}{vs:List Value}{own:Bool}
theorem yL{b:Nat}(H:WO T base rnd Q os (bN e dst v) ds h)(c:ev h e x=some (.pointer (some ⟨b,o,none⟩)):=by exact rfl)
 (hb:h.get b=some (.cells vs own sz):=by first|assumption|exact z3 _ _|exact z8 (by omega) (by omega)|(simp(disch:=first|omega|(simp only[z1,z2];omega))only[z3,z4,z5,z6,z7,z1,z2, *];done)|(simp(disch:=first|omega|(simp only[z1,z2];omega))only[z3,z4,z5,z6,z7,z1,z2, *];exact rfl)|(simp(disch:=first|omega|(simp only[z1,z2];omega)|(simp only[z1,z2];done)|fail)only[z8,z4,z5,z9,z7,z1,z2, *];done)|(simp(disch:=first|omega|(simp only[z1,z2];omega)|(simp only[z1,z2];done)|fail)only[z8,z4,z5,z9,z7,z1,z2, *];exact rfl))
 (a:bK vs o=some v:=by exact rfl):WO T base rnd Q (⟨dst, .load none x,none⟩::os) e ds h:=aG (bJ c hb a) H
variable{n:Nat}
theorem yN{b:Nat}{l:List Value}(H:WO T base rnd Q os (bN e dst (.agg l.toArray)) ds h)(d:ev h e x=some (.pointer (some ⟨b,o,none⟩)):=by exact rfl)
 (hb:h.get b=some (.cells vs own sz):=by first|assumption|exact z3 _ _|exact z8 (by omega) (by omega)|(simp(disch:=first|omega|(simp only[z1,z2];omega))only[z3,z4,z5,z6,z7,z1,z2, *];done)|(simp(disch:=first|omega|(simp only[z1,z2];omega))only[z3,z4,z5,z6,z7,z1,z2, *];exact rfl)|(simp(disch:=first|omega|(simp only[z1,z2];omega)|(simp only[z1,z2];done)|fail)only[z8,z4,z5,z9,z7,z1,z2, *];done)|(simp(disch:=first|omega|(simp only[z1,z2];omega)|(simp only[z1,z2];done)|fail)only[z8,z4,z5,z9,z7,z1,z2, *];exact rfl))
 (c:cG n (cw o vs)=l:=by exact rfl)(a:Nat.beq (cF l) n=true:=by exact rfl):WO T base rnd Q (⟨dst, .load (some n) x,none⟩::os) e ds h:=aG (di d hb c a) H
theorem yS{b:Nat}{ws:List Value}(H:WO T base rnd Q os (bN e dst (.tuple #[])) ds (h.wr base b (.cells ws true sz)))(d:ev h e x=some (.pointer (some ⟨b,o,none⟩)):=by exact rfl)(f:ev h e y=some v:=by exact rfl)
 (hb:h.get b=some (.cells vs true sz):=by first|assumption|exact z3 _ _|exact z8 (by omega) (by omega)|(simp(disch:=first|omega|(simp only[z1,z2];omega))only[z3,z4,z5,z6,z7,z1,z2, *];done)|(simp(disch:=first|omega|(simp only[z1,z2];omega))only[z3,z4,z5,z6,z7,z1,z2, *];exact rfl)|(simp(disch:=first|omega|(simp only[z1,z2];omega)|(simp only[z1,z2];done)|fail)only[z8,z4,z5,z9,z7,z1,z2, *];done)|(simp(disch:=first|omega|(simp only[z1,z2];omega)|(simp only[z1,z2];done)|fail)only[z8,z4,z5,z9,z7,z1,z2, *];exact rfl))
 (a:(Nat.beq (cF (cellsOf v)) n&&Nat.ble (o+n) (cF vs)&&eC (cellsOf v))=true:=by exact rfl)(c:cW vs o (cellsOf v)=ws:=by exact rfl):WO T base rnd Q (⟨dst, .store n x y,none⟩::os) e ds h:=aG (iV d f hb a c) H
theorem yF{off b:Nat}(H:WO T base rnd Q os (bN e dst (.pointer (some ⟨b,o+off,none⟩))) ds h)(a:ev h e x=some (.pointer (some ⟨b,o,none⟩)):=by exact rfl):WO T base rnd Q (⟨dst, .dz off x,none⟩::os) e ds h:=aG (cN a) H
theorem yB(H:WO T base rnd Q os (bN e dst (.pointer (some ⟨h.next,0,none⟩))) ds (h.push (.cells vs true 1)))(b:ev h e x=some v:=by exact rfl)(a:cellsOf v=vs:=by exact rfl):WO T base rnd Q (⟨dst, .box x,none⟩::os) e ds h:=aG (TY b a) H
variable{c:Operand}
theorem yT(H:WO T base rnd Q os (bN e dst v) ds h)(a:ev h e c=some (.bool true):=by exact rfl)(b:ev h e x=some v:=by exact rfl):WO T base rnd Q (⟨dst, .pick c x y,none⟩::os) e ds h:=aG (vn a b) H
theorem yU(H:WO T base rnd Q os (bN e dst v) ds h)(a:ev h e c=some (.bool false):=by exact rfl)(b:ev h e y=some v:=by exact rfl):WO T base rnd Q (⟨dst, .pick c x y,none⟩::os) e ds h:=aG (Au a b) H
variable{op:AOp}{t:Nat}
theorem yO{b:Bool}(H:WO T base rnd Q (⟨dst,op,none⟩::os) e ds h)(a:geT e t=some (.bool b):=by exact rfl):WO T base rnd Q (⟨dst,op,some (t,b)⟩::os) e ds h:=Wf a H
theorem yP{b c:Bool}(H:WO T base rnd Q os (bN e dst (.tuple #[])) ds h)(a:geT e t=some (.bool c):=by exact rfl)(d:c= !b:=by exact rfl):WO T base rnd Q (⟨dst,op,some (t,b)⟩::os) e ds h:=TF a d H
theorem yC{f:Operand}{args:List Operand}{a:Value}{as:List Value}{g:Nat}{first cap:Array Value}{all:List Value}(H:FW T (.func g) all {h with log:=[]} (KO (WO T base rnd Q os) Q base dst e ds h.log))(c:ev h e f=some a:=by exact rfl)(b:evs h e args=some as:=by exact rfl)(i:a= .func (.func g) first cap:=by exact rfl)(d:dP first.toList (dP as cap.toList)=all:=by exact rfl):
 WO T base rnd Q (⟨dst, .call f args,none⟩::os) e ds h:=mX (rB c b i d) H
theorem yX{a b:aN}(H:WE T base rnd b Q e ds h)(d:ev h e c=some (.bool false):=by exact rfl):WE T base rnd (.cond c a b) Q e ds h:=Np d H
theorem yY{a b:aN}(H:WE T base rnd a Q e ds h)(d:ev h e c=some (.bool true):=by exact rfl):WE T base rnd (.cond c a b) Q e ds h:=Qs d H
theorem yA{b:Bool}(H:WO T base rnd Q os (bN e dst (.bool !b)) ds h)(a:ev h e x=some (.bool b):=by exact rfl):WO T base rnd Q (⟨dst, .un .not x,none⟩::os) e ds h:=aG (sL a) H
theorem yD{a:Option Addr}{c:Nat}(H:WO T base rnd Q os (bN e dst (.int .i64 n)) ds h)(b:ev h e x=some (.slice a n c):=by exact rfl):WO T base rnd Q (⟨dst, .len 1 x,none⟩::os) e ds h:=aG (jE b) H
section
variable {k:IntKind} {a b:Int}
variable{op:BinOp}
theorem yt{u:Value}(H:WO T base rnd Q os (bN e dst (.bool true)) ds h)(b:ev h e x=some v:=by exact rfl)(c:ev h e y=some u:=by exact rfl)(a:an op v u=some (.bool true):=by first|exact wQ (by omega)|exact fq (by omega)|exact dY (by omega)|exact fM (by omega)|exact mD (by omega)|exact jc (by omega)):
 WO T base rnd Q (⟨dst, .bin (.num op) x y,none⟩::os) e ds h:=aG (zk b c a) H
theorem yf{u:Value}(H:WO T base rnd Q os (bN e dst (.bool false)) ds h)(b:ev h e x=some v:=by exact rfl)(c:ev h e y=some u:=by exact rfl)(a:an op v u=some (.bool false):=by first|exact ue (by omega)|exact eS (by omega)|exact eM (by omega)|exact gZ (by omega)|exact iH (by omega)|exact oD (by omega)):
 WO T base rnd Q (⟨dst, .bin (.num op) x y,none⟩::os) e ds h:=aG (zk b c a) H
theorem X6{n:Nat}(H:WO T base rnd Q os (bN e dst (.int .i64 (n+1:Nat))) ds h)(b:ev h e x=some (.int .i64 n):=by exact rfl)(c:ev h e y=some (.int .i64 1):=by exact rfl)(a:n<9223372036854775807:=by omega):WO T base rnd Q (⟨dst, .bin (.num .add) x y,none⟩::os) e ds h:=aG (zk b c (Vx a)) H
end
section
variable {ops:List aP} {bf:List Nat} {rs:List Rec} {R:Env->Heap->Prop} {i mask:Nat} {is:List Nat} {g:Option (Nat×Bool)} {er:Env}
theorem qM(H:WD T base ops bf R is (⟨i,⟨dst, .mov x,g⟩,er,v, .quiet⟩::rs) (bN e dst v) h)(ho:bK ops i=some ⟨dst, .mov x,g⟩:=by exact rfl)(b:bK bf i=some mask:=by exact rfl)(a:bD e (cA ⟨dst, .mov x,g⟩)=er:=by exact rfl)(c:bA er g=some true:=by exact rfl)(d:ev h er x=some v:=by exact rfl):WD T base ops bf R (i::is) rs e h:=aO ho b a c rfl rfl (dD d) H
variable{o:Nat}
theorem qF{off b:Nat}(H:WD T base ops bf R is (⟨i,⟨dst, .dz off x,g⟩,er, .pointer (some ⟨b,o+off,none⟩), .quiet⟩::rs) (bN e dst (.pointer (some ⟨b,o+off,none⟩))) h)(ho:bK ops i=some ⟨dst, .dz off x,g⟩:=by exact rfl)(c:bK bf i=some mask:=by exact rfl)(a:bD e (cA ⟨dst, .dz off x,g⟩)=er:=by exact rfl)(d:bA er g=some true:=by exact rfl)(f:ev h er x=some (.pointer (some ⟨b,o,none⟩)):=by exact rfl):
 WD T base ops bf R (i::is) rs e h:=aO ho c a d rfl rfl (cN f) H
variable{sz:Nat}{vs:List Value}{own:Bool}
theorem qL{b:Nat}(H:WD T base ops bf R is (⟨i,⟨dst, .load none x,g⟩,er,v, .quiet⟩::rs) (bN e dst v) h)(ho:bK ops i=some ⟨dst, .load none x,g⟩:=by exact rfl)(c:bK bf i=some mask:=by exact rfl)(a:bD e (cA ⟨dst, .load none x,g⟩)=er:=by exact rfl)(f:bA er g=some true:=by exact rfl)(j:ev h er x=some (.pointer (some ⟨b,o,none⟩)):=by exact rfl)
 (hb:h.get b=some (.cells vs own sz):=by first|assumption|exact z3 _ _|exact z8 (by omega) (by omega)|(simp(disch:=first|omega|(simp only[z1,z2];omega))only[z3,z4,z5,z6,z7,z1,z2, *];done)|(simp(disch:=first|omega|(simp only[z1,z2];omega))only[z3,z4,z5,z6,z7,z1,z2, *];exact rfl)|(simp(disch:=first|omega|(simp only[z1,z2];omega)|(simp only[z1,z2];done)|fail)only[z8,z4,z5,z9,z7,z1,z2, *];done)|(simp(disch:=first|omega|(simp only[z1,z2];omega)|(simp only[z1,z2];done)|fail)only[z8,z4,z5,z9,z7,z1,z2, *];exact rfl))
 (d:bK vs o=some v:=by exact rfl):WD T base ops bf R (i::is) rs e h:=aO ho c a f rfl rfl (bJ j hb d) H
theorem qN{n b:Nat}{l:List Value}(H:WD T base ops bf R is (⟨i,⟨dst, .load (some n) x,g⟩,er, .agg l.toArray, .quiet⟩::rs) (bN e dst (.agg l.toArray)) h)(ho:bK ops i=some ⟨dst, .load (some n) x,g⟩:=by exact rfl)(d:bK bf i=some mask:=by exact rfl)(a:bD e (cA ⟨dst, .load (some n) x,g⟩)=er:=by exact rfl)(j:bA er g=some true:=by exact rfl)(k:ev h er x=some (.pointer (some ⟨b,o,none⟩)):=by exact rfl)
 (hb:h.get b=some (.cells vs own sz):=by first|assumption|exact z3 _ _|exact z8 (by omega) (by omega)|(simp(disch:=first|omega|(simp only[z1,z2];omega))only[z3,z4,z5,z6,z7,z1,z2, *];done)|(simp(disch:=first|omega|(simp only[z1,z2];omega))only[z3,z4,z5,z6,z7,z1,z2, *];exact rfl)|(simp(disch:=first|omega|(simp only[z1,z2];omega)|(simp only[z1,z2];done)|fail)only[z8,z4,z5,z9,z7,z1,z2, *];done)|(simp(disch:=first|omega|(simp only[z1,z2];omega)|(simp only[z1,z2];done)|fail)only[z8,z4,z5,z9,z7,z1,z2, *];exact rfl))
 (f:cG n (cw o vs)=l:=by exact rfl)(c:Nat.beq (cF l) n=true:=by exact rfl):WD T base ops bf R (i::is) rs e h:=aO ho d a j rfl rfl (di k hb f c) H
theorem qE{j:Nat}{vs:Array Value}(H:WD T base ops bf R is (⟨i,⟨dst, .extract x j,g⟩,er,v, .quiet⟩::rs) (bN e dst v) h)(ho:bK ops i=some ⟨dst, .extract x j,g⟩:=by exact rfl)(b:bK bf i=some mask:=by exact rfl)(a:bD e (cA ⟨dst, .extract x j,g⟩)=er:=by exact rfl)(d:bA er g=some true:=by exact rfl)(f:ev h er x=some (.tuple vs):=by exact rfl)(c:bK vs.toList j=some v:=by exact rfl):
 WD T base ops bf R (i::is) rs e h:=aO ho b a d rfl rfl (qp f c) H
theorem qC{f:Operand}{args:List Operand}{a:Value}{as:List Value}{k:Nat}{first cap:Array Value}{all:List Value}(H:FW T (.func k) all {h with log:=[]} (KD (WD T base ops bf R is) base mask rs dst e h.log))(ho:bK ops i=some ⟨dst, .call f args,g⟩:=by exact rfl)(l:bK bf i=some mask:=by exact rfl)(c:bD e (cA ⟨dst, .call f args,g⟩)=er:=by exact rfl)(n:bA er g=some true:=by exact rfl)
 (d:ev {h with log:=[]} er f=some a:=by exact rfl)(b:evs {h with log:=[]} er args=some as:=by exact rfl)(m:a= .func (.func k) first cap:=by exact rfl)(j:dP first.toList (dP as cap.toList)=all:=by exact rfl):WD T base ops bf R (i::is) rs e h:=Qn ho l c n rfl (rB d b m j) H
end
def mx(a b:Int):Int:=if b>a then b else a
variable{o size:Nat}
theorem sK{base:Nat}{h:Heap}{e:Env}{len b i:Nat}{k:IntKind}{x y:Operand}(d:ev h e x=some (.pointer (some ⟨b,o,none⟩)))(a:ev h e y=some (.int k (i:Nat)))(hi:i<len):aop h base e (.dB len size x y)=some (.val (.pointer (some ⟨b,o+i*size,none⟩)) h):=by
 have c:(.int k (i:Nat):Value)= .int k (Int.ofNat i):=rfl;rw[c]at a;simp only[aop,d,a,gM hi,cond_true]
theorem uF{base:Nat}{h:Heap}{e:Env}{x y:Operand}{a b:Int}(c:ev h e x=some (.int .i64 a))(d:ev h e y=some (.int .i64 b)):aop h base e (.eF true [x,y])=some (.val (.int .i64 (mx a b)) h):=by
 simp only[aop,evs,c,d,mmA,if_true,cO,mx]
variable{n sz:Nat}{cs vs:List Value}
theorem dg{x y:Operand}{b:Nat}(f:ev h e x=some (.pointer (some ⟨b,0,none⟩)))(g:ev h e y=some (.agg cs.toArray))(hb:h.get b=some (.cells vs true sz))(c:cs.length=n)(d:vs.length=n)(h1:eC cs=true):
 aop h base e (.store n x y)=some (.val (.tuple #[]) (h.wr base b (.cells cs true sz))):=by
 have a:cellsOf (.agg cs.toArray)=cs:=by show cs.toArray.toList=cs;simp
 refine iV f g hb ?_ ?_
 ·rw[a,bX,bX,c,d,h1,uh,hX,gL (bl n)];rfl
 ·rw[a,eY (by omega)];simp only[xp,vd,hX];rw[pA (by omega),oC]
theorem B9{x y:Operand}{b:Nat}{v:Value}(c:ev h e x=some (.pointer (some ⟨b,o,none⟩)))(d:ev h e y=some v)(hb:h.get b=some (.cells vs true sz))(a:cellsOf v=[v])(h1:eC [v]=true)(ho:o<vs.length):
 aop h base e (.store 1 x y)=some (.val (.tuple #[]) (h.wr base b (.cells (vs.set o v) true sz))):=by
 refine iV c d hb ?_ ?_
 ·rw[a,h1,bX,bX,gL (by omega)];rfl
 ·rw[a];show rS vs o v=vs.set o v;clear c d hb;induction vs generalizing o with
  |nil=>simp at ho
  |cons w vs ih=>
   cases o with
   |zero=>rfl
   |succ o=>simp only[rS,List.set_cons_succ];rw[ih (by simpa using ho)]
theorem TZ{op:UnOp}{x:Operand}{a v:Value}(c:ev h e x=some a)(b:yp op a=some v):aop h base e (.un op x)=some (.val v h):=by simp only[aop,c,cO,b]
theorem vm{base:Nat}{h:Heap}{e:Env}:aop h base e .mkMap=some (.val (.map (some h.next)) (h.push (.map []))):=rfl
theorem Tn(a:Option Nat):iL (.map a) (.map a)=true:=by simp[iL,jw]
theorem K3{a b:Int}(h1: -9223372036854775808<=a*b)(c:a*b<9223372036854775808):an .mul (.int .i64 a) (.int .i64 b)=some (.int .i64 (a*b)):=by
 simp[an,arith,bO h1 c]
theorem uT{base:Nat}:∀{m l:List Nat},eR base m->aB base l m=l
 |[],_,_=>rfl
 |b::m,l,h=>by
  have hb:=h b (b6 ..);simp only[aB,tq (show¬b<base by omega),cond_false];exact uT λx a=>h x (bz _ a)
variable{f:Nat}{args:List Value}{S:Nat->Prop}
theorem FW.gs0{base:Nat}{Q:XQ}{e:Env}{d:Dfs}{h:Heap}{b:Value->Heap->Prop}{K:Env->Dfs->Heap->Prop}{dst:Option Nat}(H:Gs T f args {h with log:=[]} S b)(a:∀v (h':Heap) l,b v h'→b v {h' with log:=l})(j:∀z,S z->base<=z)(i:∀v h',h.next<=h'.next->h'.log=h.log->(∀z,z<h.next->¬S z->h'.get z=h.get z)->(WF h->WF h')->b v h'→K (bN e dst v) d h'):
 FW T (.func f) args {h with log:=[]} (KO K Q base dst e d h.log):=by
 refine .func (CW.mono H ?_);rintro r g ⟨c,v,rfl,k⟩;exact⟨i v _ c.next (uT λz m=>j z ((c.log z m).elim (λq=>by cases q) id)) c.old (λw=>(c.wf (w.log [])).log _) (a v g _ k)⟩
variable{j:Nat}{hi lo:Option Operand}
theorem j0{base:Nat}{h:Heap}{e:Env}{b i:Nat}{x:Operand}(f:ev h e x=some (.pointer (some ⟨b,o,none⟩)))(d:bnd h e 0 lo=some i)(c:bnd h e n hi=some j)(h1:i<=j)(a:j<=n)(g:i<n)(k:n<1000000):
 aop h base e (.slice (.arr n size) x lo hi none)=some (.val (.slice (some ⟨b,o+i*size,none⟩) (j-i) (n-i)) h):=by
 simp only[aop,f,iM,d,c,pR (show n≠UNK by unfold UNK;omega),gL h1,gL a,pR (show n≠i by omega),zE,cond_true,cond_false,fH]
theorem B0{base:Nat}{h:Heap}{e:Env}{b i:Nat}{x:Operand}(f:ev h e x=some (.pointer (some ⟨b,o,none⟩)))(d:bnd h e 0 lo=some i)(c:bnd h e n hi=some j)(h1:i<=j)(a:j<=n)(g:i<n)(k:n<1000000):
 aop h base e (.slice (.arr n size) x lo hi none)=some (.val (.slice (some ⟨b,o+i*size,none⟩) (j-i) (n-i)) h):=by
 simp only[aop,f,iM,d,c,pR (show n≠UNK by unfold UNK;omega),gL h1,gL a,pR (show n≠i by omega),zE,cond_true,cond_false,fH]
variable{c:List Rec}{d:Env}
theorem nW{base:Nat}{h:Heap}{e:Env}{ops:List aP}{bf:List Nat}{rs:List Rec}{Q:Env->Heap->Prop}{i mask:Nat}{is:List Nat}{dst:Option Nat}{g:Option (Nat×Bool)}{x y:Operand}{b:Nat}{v:Value}
 (ho:bK ops i=some ⟨dst, .store 1 x y,g⟩)(p:bK bf i=some mask)(n:bD e (cA ⟨dst, .store 1 x y,g⟩)=d)(l:bA d g=some true)(q:ev {h with log:=[]} d x=some (.pointer (some ⟨b,o,none⟩)))(r:ev {h with log:=[]} d y=some v)(hb:h.get b=some (.cells vs true sz))
 (m:cellsOf v=[v])(h1:eC [v]=true)(j:o<vs.length)(a:b<h.next)(f:base<=b)(k:br (h.wr base b (.cells (vs.set o v) true sz)) base [b] mask rs=some c)
 (H:WD T base ops bf Q is c (bN e dst (.tuple #[])) (h.wr base b (.cells (vs.set o v) true sz))):WD T base ops bf Q (i::is) rs e h:=
 lV ho p n l rfl (B9 (h:={h with log:=[]}) q r hb m h1 j) (F3 a f _) (rj a _) k H
theorem ve{base:Nat}{h:Heap}{e:Env}{ops:List aP}{bf:List Nat}{rs:List Rec}{Q:Env->Heap->Prop}{i mask:Nat}{is:List Nat}{dst:Option Nat}{g:Option (Nat×Bool)}{x y:Operand}{b:Nat}
 (ho:bK ops i=some ⟨dst, .store n x y,g⟩)(m:bK bf i=some mask)(l:bD e (cA ⟨dst, .store n x y,g⟩)=d)(k:bA d g=some true)(q:ev {h with log:=[]} d x=some (.pointer (some ⟨b,0,none⟩)))(r:ev {h with log:=[]} d y=some (.agg cs.toArray))(hb:h.get b=some (.cells vs true sz))
 (o:cs.length=n)(p:vs.length=n)(h1:eC cs=true)(a:b<h.next)(f:base<=b)(j:br (h.wr base b (.cells cs true sz)) base [b] mask rs=some c)
 (H:WD T base ops bf Q is c (bN e dst (.tuple #[])) (h.wr base b (.cells cs true sz))):WD T base ops bf Q (i::is) rs e h:=
 lV ho m l k rfl (dg (h:={h with log:=[]}) q r hb o p h1) (F3 a f _) (rj a _) j H
theorem iC{base:Nat}{e:Env}{h:Heap}{ops:List aP}{bf:List Nat}{rs:List Rec}{Q:Env->Heap->Prop}{i mask:Nat}{is:List Nat}{dst:Option Nat}{x y:Operand}{b:Nat}{ws:List Value}{v:Value}{g:Option (Nat×Bool)}(ho:bK ops i=some ⟨dst, .store n x y,g⟩)(m:bK bf i=some mask)
 (l:bD e (cA ⟨dst, .store n x y,g⟩)=d)(p:bA d g=some true)(q:ev {h with log:=[]} d x=some (.pointer (some ⟨b,o,none⟩)))(r:ev {h with log:=[]} d y=some v)(hb:h.get b=some (.cells vs true sz))
 (k:(Nat.beq (cF (cellsOf v)) n&&Nat.ble (o+n) (cF vs)&&eC (cellsOf v))=true)(j:cW vs o (cellsOf v)=ws)(a:b<h.next)(f:br (h.wr base b (.cells ws true sz)) base [b] mask rs=some c)
 (H:WD T base ops bf Q is c (bN e dst (.tuple #[])) (h.wr base b (.cells ws true sz))):WD T base ops bf Q (i::is) rs e h:=
 lV ho m l p rfl (iV (h:={h with log:=[]}) q r hb k j) (Eo a _) (rj a _) f H
theorem cI{base:Nat}{rnd:Option Nat}{Q:XQ}{e:Env}{E0:Env}{f:Dfs}{h:Heap}{a b:aN}{P:Heap->Prop}(i:WE T base rnd a (λx g d c=>x= .normal/\g=E0/\d=[]/\P c) e f h)(j:∀c,P c→WE T base rnd b Q E0 [] c):WE T base rnd (.seq a b) Q e f h:=by
 refine uz (i.mono ?_);rintro x g d c ⟨rfl,rfl,rfl,k⟩;exact KC (j c k)
theorem Qv{dst:Option Nat}{op:AOp}{os:List aP}{f:Value}(ho:aop h base e op=some (.jI f args))(H:WO T base none Q os (bN e dst (.tuple #[])) ((f,args)::ds) h):WO T base none Q (⟨dst,op,none⟩::os) e ds h:=by
 obtain⟨x,b,a,c,⟨m,d⟩,g⟩:=H.ok;exact⟨x,b,a,c,⟨m+1,λn i=>by
  obtain⟨k,rfl⟩:∃k,n=k+1:=⟨n-1,by omega⟩;simp only[fZ,bA,ho];exact d k (by omega)⟩,g⟩
theorem rV{base z:Nat}:∀{m l:List Nat},z∈aB base l m->z∈l∨(z∈m/\z<base)
 |[],l,h=> .inl h
 |b::m,l,h=>by
  simp only[aB]at h;rcases rV (m:=m) h with h|⟨h,hb⟩
  ·revert h;cases hc:Nat.blt b base with
   |true=>
    have hb:b<base:=by rw[blt_eq]at hc;simpa using hc
    simp only[cond_true];cases hl:fF l b with
    |true=>simp only[cond_true];exact .inl
    |false=>
     simp only[cond_false];intro h;rcases List.mem_cons.1 h with rfl|h
     ·exact .inr ⟨b6 ..,hb⟩
     ·exact .inl h
   |false=>simp only[cond_false];exact .inl
  ·exact .inr ⟨bz _ h,hb⟩
theorem FW.gpb{g Qp:Value->Heap->Prop}{K:Env->Dfs->Heap->Prop}{dst:Option Nat}(H:Gp T f args {h with log:=[]} S g Qp)(n:∀z,S z->base<=z)(o:h.log=[])(b:∀v (h':Heap) l,g v h'→g v {h' with log:=l})(a:∀v (h':Heap) l,Qp v h'→Qp v {h' with log:=l})
 (k:∀v h',Ws S h h'→h'.log=[]->g v h'→K (bN e dst v) ds h')(m:∀v h',Ws S h h'→h'.log=[]->Qp v h'→Q (.panic v) e ds h'):FW T (.func f) args {h with log:=[]} (KO K Q base dst e ds h.log):=by
 refine .func (CW.mono H ?_);rintro r i ⟨j,d⟩;have c:aB base h.log i.log=[]:=by
  rw[AC];intro z p;rcases rV p with q|⟨q,hb⟩
  ·rw[o]at q;cases q
  ·rcases j.log z q with q|q
   ·cases q
   ·have:=n z q;omega
 rcases d with⟨v,rfl,d⟩|⟨v,rfl,d⟩
 ·exact⟨k v _ j.call c (b v i _ d)⟩
 ·exact⟨m v _ j.call c (a v i _ d)⟩
theorem FW.pan{v:Value}{K:Env->Dfs->Heap->Prop}{dst:Option Nat}(H:CW T f args {h with log:=[]} λr h'=>r= .panic v/\h'={h with log:=[]})(a:Q (.panic v) e ds h):FW T (.func f) args {h with log:=[]} (KO K Q base dst e ds h.log):=by
 refine .func (CW.mono H ?_);rintro r b ⟨rfl,rfl⟩;exact⟨a⟩
theorem uM{base:Nat}{h:Heap}{b:Nat}(hb:b<h.next)(o o':bM):({(({h with log:=[]}:Heap).wr h.next b o).push o' with log:=aB base h.log ((({h with log:=[]}:Heap).wr h.next b o).push o').log}:Heap)=(h.wr base b o).push o':=
 congrArg (λk:Heap=>k.push o') (Eo hb o)
theorem Nn{base:Nat}{e:Env}{h:Heap}{lo b:Nat}{ops:List aP}{bf:List Nat}{rs:List Rec}{Q:Env->Heap->Prop}{i mask:Nat}{is:List Nat}{dst:Option Nat}{g:Option (Nat×Bool)}{l:Env}{x y:Operand}{v u:Value}{c1:List Value}
 (s:Own lo h sz v n cs)(M:n<1000000)(t:0<sz)(hb:b<=100000)
 (ho:bK ops i=some ⟨dst, .append sz b x y,g⟩)(D:bK bf i=some mask)(C:bD e (cA ⟨dst, .append sz b x y,g⟩)=l)(k:bA l g=some true)
 (G:ev {h with log:=[]} l x=some v)(H:ev {h with log:=[]} l y=some u)(E:dn {h with log:=[]} sz u=some (c1,1))(p:c1.length=sz)(h1:eC c1=true)(I:eC cs=true)
 (j:eR lo h.log)(F:WF h)
 (B:∀h' lg,Own h.next h' sz (.slice (some ⟨h.next,0,none⟩) (n+1) UNK) (n+1) (cs++c1)->h.next<h'.next->eR lo h'.log->WF h'→(∀z,z<h.next->(∀q a c,v= .slice (some ⟨q,0,none⟩) a c->z≠q)->h'.get z=h.get z)->∃d,br h' base lg mask rs=some d∧WD T base ops bf Q is d (bN e dst (.slice (some ⟨h.next,0,none⟩) (n+1) UNK)) h'):WD T base ops bf Q (i::is) rs e h:=by
 have f:(2*(n+1)+768)*b<=281474976710656:=by
  have:(2*(n+1)+768)*b<=2000768*100000:=Do (by omega) hb;omega
 cases s with
 |nil=>
  have:=Own.full (lo:=h.next) (h:=h.push (.cells c1 true sz)) (sz:=sz) (q:=h.next) (n:=1) (cs:=c1) (bl _) (go _) (Heap.gX _ _) (by omega) (by omega);obtain⟨d,A,m⟩:=B _ [] this (go _) j (F.push _) (λz w _=>Heap.eE w);exact yz (n:=1) ho D C k G H E (by omega) (by simpa using f) A m
 | @full q _ _ A m q3 q4 q5=>
   have J:Own h.next ((h.wr base q .dead).push (.cells (cs++c1) true sz)) sz (.slice (some ⟨h.next,0,none⟩) (n+1) UNK) (n+1) (cs++c1):= .full (bl _) (go _) (Heap.gX _ _) (by rw[ec,q4,p,sx,A3]) (by omega)
   obtain⟨d,K,L⟩:=B _ [q] J (go _) (((Lk.refl lo h).wr (base:=base) (o:= .dead) A).log j) ((F.as (AS.wr base _ q .dead)).push _) (λz w r=>(Heap.eE (by exact w)).trans (Heap.ef (r q _ _ rfl)));exact lV ho D C k rfl (jZ (h:={h with log:=[]}) (n:=1) (vs:=cs) (ws:=cs++c1) G H E (by omega) q3 q4 t h1 f (dI _ _)) (uM m _ _) (rj m .dead) K L
theorem WF.bP{h:Heap}(w:WF h){x:Nat}{o:bM}(b:h.get x=some o):x<h.next:=by
 refine w.lt x (Classical.byContradiction λa=> ?_);have:=Hv a;rw[show fA h.cm x=h.get x from rfl,b]at this;cases this
theorem Rdy.self{h:Heap}(hr:Rdy h):({h with log:=[]}:Heap)=h:=by
 have:=hr.log;cases h;cases this;rfl
structure Re (h:Heap) (rs:List (Nat×Option (Option Nat))) (S:Nat->Prop) (Q:Value->Heap->Prop) (x:bk) (e:Env) (ds:Dfs) (h1:Heap):Prop where
 ok:(x= .normal∨x= .ret)/\ds=[]/\(∀z∈h1.log,S z)/\(h1=h∨∃q,q<h.next/\q∈h1.log/\jd h1 q)/\∃vs,bL h1 e rs=some vs/\Q (dO vs) h1
theorem Ow{v:Value}:gcA h h v=h:=by
 unfold gcA;cases cE v&&fI h h.next h.log<;>simp[nH,aW]
theorem Gs.ofK(p:aF T){c:aN}{rs:List (Nat×Option (Option Nat))}{Q:Value->Heap->Prop}(k:T f=some (.code c rs))
 (H:WE T h.next none c (Re h rs S Q) (dM 0 args) [] h):Gs T f args h S Q:=by
 obtain⟨x,e,ds,a,⟨m,g⟩,⟨s,rfl,o,n,i,b,r⟩⟩:=H.ok;have j:=(eO.all p m).exec _ _ _ _ _ _ _ _ _ _ (g m (bl _)) (bl _);have l:gcA h a (dO i)=a:=by
  rcases n with rfl|⟨q,hq1,hq2,hq3⟩
  ·exact Ow
  ·exact sW hq1 hq2 hq3
 have d:Ws S h a/\∃v,Res.ret (dO i)= .ret v/\Q v a:=⟨Ws.lK j o,_,rfl,r⟩;refine CW.code k ⟨x,e,[],a,⟨m,g⟩,?_⟩;unfold vg;rcases s with rfl|rfl<;>(simp only[b,l];exact d)
theorem Ho{h1:Heap}{rs:List (Nat×Option (Option Nat))}{Q:Value->Heap->Prop}(b:∀z∈h1.log,S z)(a:h1=h∨∃q,q<h.next/\q∈h1.log/\jd h1 q)(hr:bL h1 e rs=some vs)(c:Q (dO vs) h1):Re h rs S Q .normal e [] h1:=⟨⟨.inl rfl,rfl,b,a,vs,hr,c⟩⟩
theorem BQ{b:Nat}{o:bM}(hb:b<base):b∈(h.wr base b o).log:=by
 simp only[Heap.wr,cond_eq_ite,gM hb,if_true];split
 ·rename_i hh;exact jh.1 hh
 ·exact b6
theorem DN{v:Value}(b:mL v=false):∀{l:List Value},v∈l->cZ l=false
 |a::l,hm=>by
  simp only[cZ];rcases List.mem_cons.1 hm with rfl|hm
  ·rw[b];rfl
  ·rw[DN b hm];cases mL a<;>rfl
theorem yW{op:BinOp}{a b:Value}(H:WO T base rnd Q os (bN e dst v) ds h)(d:ev h e x=some a:=by exact rfl)(f:ev h e y=some b:=by exact rfl)(c:an op a b=some v:=by with_reducible assumption):WO T base rnd Q (⟨dst, .bin (.num op) x y,none⟩::os) e ds h:=aG (zk d f c) H
theorem yV{b:Nat}{l:List Value}{own:Bool}(H:WO T base rnd Q os (bN e dst (.agg l.toArray)) ds h)(d:ev h e x=some (.pointer (some ⟨b,o,none⟩)):=by exact rfl)(hb:h.get b=some (.cells vs own sz):=by assumption)(c:cG n (cw o vs)=l:=by assumption)(a:Nat.beq (cF l) n=true:=by assumption):WO T base rnd Q (⟨dst, .load (some n) x,none⟩::os) e ds h:=aG (di d hb c a) H
theorem yI{b len cap i:Nat}{k:IntKind}(H:WO T base rnd Q os (bN e dst (.pointer (some ⟨b,o+i*size,none⟩))) ds h)(a:ev h e x=some (.slice (some ⟨b,o,none⟩) len cap):=by exact rfl)(c:ev h e y=some (.int k (i:Nat)):=by exact rfl)(hi:i<len:=by omega):WO T base rnd Q (⟨dst, .aQ size x y,none⟩::os) e ds h:=aG (fW a c hi) H
section
variable {ops:List aP} {bf:List Nat} {rs:List Rec} {R:Env->Heap->Prop} {i mask:Nat} {is:List Nat} {g:Option (Nat×Bool)} {er:Env}
theorem qW{op:BinOp}{a b:Value}(H:WD T base ops bf R is (⟨i,⟨dst, .bin (.num op) x y,g⟩,er,v, .quiet⟩::rs) (bN e dst v) h)(ho:bK ops i=some ⟨dst, .bin (.num op) x y,g⟩:=by exact rfl)(d:bK bf i=some mask:=by exact rfl)(c:bD e (cA ⟨dst, .bin (.num op) x y,g⟩)=er:=by exact rfl)(j:bA er g=some true:=by exact rfl)(k:ev h er x=some a:=by exact rfl)(l:ev h er y=some b:=by exact rfl)(f:an op a b=some v:=by with_reducible assumption):WD T base ops bf R (i::is) rs e h:=aO ho d c j rfl rfl (zk k l f) H
variable{o sz:Nat}{vs:List Value}{own:Bool}
theorem qV{n b:Nat}{l:List Value}(H:WD T base ops bf R is (⟨i,⟨dst, .load (some n) x,g⟩,er, .agg l.toArray, .quiet⟩::rs) (bN e dst (.agg l.toArray)) h)(ho:bK ops i=some ⟨dst, .load (some n) x,g⟩:=by exact rfl)(d:bK bf i=some mask:=by exact rfl)(a:bD e (cA ⟨dst, .load (some n) x,g⟩)=er:=by exact rfl)(j:bA er g=some true:=by exact rfl)(k:ev h er x=some (.pointer (some ⟨b,o,none⟩)):=by exact rfl)(hb:h.get b=some (.cells vs own sz):=by assumption)(f:cG n (cw o vs)=l:=by assumption)(c:Nat.beq (cF l) n=true:=by assumption):WD T base ops bf R (i::is) rs e h:=aO ho d a j rfl rfl (di k hb f c) H
theorem qK{b:Nat}(H:WD T base ops bf R is (⟨i,⟨dst, .load none x,g⟩,er,v, .quiet⟩::rs) (bN e dst v) h)(ho:bK ops i=some ⟨dst, .load none x,g⟩:=by exact rfl)(c:bK bf i=some mask:=by exact rfl)(a:bD e (cA ⟨dst, .load none x,g⟩)=er:=by exact rfl)(f:bA er g=some true:=by exact rfl)(j:ev h er x=some (.pointer (some ⟨b,o,none⟩)):=by exact rfl)(hb:h.get b=some (.cells vs own sz):=by assumption)(d:bK vs o=some v:=by assumption):WD T base ops bf R (i::is) rs e h:=aO ho c a f rfl rfl (bJ j hb d) H
variable{j size:Nat}
theorem qI{b len cap:Nat}{k:IntKind}(H:WD T base ops bf R is (⟨i,⟨dst, .aQ size x y,g⟩,er, .pointer (some ⟨b,o+j*size,none⟩), .quiet⟩::rs) (bN e dst (.pointer (some ⟨b,o+j*size,none⟩))) h)(ho:bK ops i=some ⟨dst, .aQ size x y,g⟩:=by exact rfl)(c:bK bf i=some mask:=by exact rfl)(a:bD e (cA ⟨dst, .aQ size x y,g⟩)=er:=by exact rfl)(d:bA er g=some true:=by exact rfl)(f:ev h er x=some (.slice (some ⟨b,o,none⟩) len cap):=by exact rfl)(l:ev h er y=some (.int k (j:Nat)):=by exact rfl)(hi:j<len:=by omega):WD T base ops bf R (i::is) rs e h:=aO ho c a d rfl rfl (fW f l hi) H
theorem qJ{b len:Nat}{k:IntKind}(H:WD T base ops bf R is (⟨i,⟨dst, .dB len size x y,g⟩,er, .pointer (some ⟨b,o+j*size,none⟩), .quiet⟩::rs) (bN e dst (.pointer (some ⟨b,o+j*size,none⟩))) h)(ho:bK ops i=some ⟨dst, .dB len size x y,g⟩:=by exact rfl)(c:bK bf i=some mask:=by exact rfl)(a:bD e (cA ⟨dst, .dB len size x y,g⟩)=er:=by exact rfl)(d:bA er g=some true:=by exact rfl)(f:ev h er x=some (.pointer (some ⟨b,o,none⟩)):=by exact rfl)(l:ev h er y=some (.int k (j:Nat)):=by exact rfl)(hi:j<len:=by omega):WD T base ops bf R (i::is) rs e h:=aO ho c a d rfl rfl (sK f l hi) H
theorem qO{op:AOp}(H:WD T base ops bf R is (⟨i,⟨dst,op,g⟩,er, .tuple #[], .skip⟩::rs) (bN e dst (.tuple #[])) h)(ho:bK ops i=some ⟨dst,op,g⟩:=by exact rfl)(b:bK bf i=some mask:=by exact rfl)(a:bD e (cA ⟨dst,op,g⟩)=er:=by exact rfl)(c:bA er g=some false:=by exact rfl):WD T base ops bf R (i::is) rs e h:=TE ho b a c H
end
end Go.A
end
section
namespace Go.A
variable {T:Nat->Option aq} {base:Nat} {rnd:Option Nat} {Q:XQ} {e:Env} {ds:Dfs} {h:Heap}
structure YQW (px:bk) (l:Nat) (L LX:bM) (W:Nat->Prop) (n:Nat) (R S:Heap->Prop) (x:bk) (e:Env) (ds:Dfs) (h3:Heap):Prop where
 busy:∃o,h3.get l=some o/\busy o=true
 log:∀z∈h3.log,W z
 rel:(x= .normal/\∀h5:Heap,n<=h5.next->(∀z,z<n->z≠l->h5.get z=h3.get z)->h5.get l=some L->R h5)∨(x=px/\∀h5:Heap,h5.next=h3.next->(∀z,z≠l->h5.get z=h3.get z)->h5.get l=some LX->S h5)
structure YAW (px:bk) (T:Nat->Option aq) (l:Nat) (e:Env) (ps:List Nat) (asg body:aN) (W:Nat->Prop) (n:Nat) (R S:Heap->Prop) (x:bk) (e2:Env) (ds2:Dfs) (h2:Heap):Prop where
 x:x= .normal
 loop:h2.get l=some (.loop e ps asg body 0 .normal)
 body:WE T n (some l) body (YQW px l (.loop e ps asg body 0 .normal) (.loop e ps asg body 2 px) W n R S) e2 ds2 (h2.wr 0 l (.loop e ps asg body 1 .normal))
variable{px:bk}{l:Nat}{W:Nat->Prop}{ps:List Nat}{asg body:aN}{args:List Value}
theorem FW.NJ(Q:aF T)(J:px= .ret∨∃i,px= .exit i){e1:Env}{R S:Heap->Prop}(P:h.get l=some (.loop e ps asg body 0 .normal))(O:iX e ps args=some e1)(t:l<h.next)(G:W l)
 (H:WE T h.next (some l) asg (YAW px T l e ps asg body W h.next R S) e1 [] h):
 FW T (.yield l) args h λr h'=>(∀z∈h'.log,W z)/\(r= .ret (.bool true)/\R h'∨r= .ret (.bool false)/\l∈h'.log/\S h'):=by
 obtain⟨x,e2,Y,N,⟨m,I⟩,⟨rfl,F,X⟩⟩:=H.ok;obtain⟨x3,e3,Z,B,⟨D,q⟩,⟨⟨o,C,E⟩,g,f⟩⟩:=X.ok;have u:notReady (N.get l)=false:=by rw[F];rfl
 have j:∃a b c d p,o= .loop a b c d 1 p:=by
  unfold A.busy at E;split at E
  ·exact⟨_,_,_,_,_,rfl⟩
  ·cases E
 obtain⟨oa,ob,oc,od,op,rfl⟩:=j;rcases f with⟨rfl,f⟩|⟨rfl,f⟩
 ·have L:=(eO.all Q m).exec _ _ _ _ _ _ _ _ _ _ (I m (bl _)) (bl _);have U:=(eO.all Q D).exec _ _ _ _ _ _ _ _ _ _ (q D (bl _)) L.next
  have V:AS 0 h (B.wr 0 l (.loop e ps asg body 0 .normal)):=((L.zero.trans (AS.wr 0 N l _)).trans U.zero).trans (AS.wr 0 B l _);obtain⟨M,g2,g3⟩:=zI (v:= .bool true) V;refine⟨.ret (.bool true),gcA h (B.wr 0 l (.loop e ps asg body 0 .normal)) (.bool true),⟨m+D+1,λn hn=> ?_⟩,?_, .inl ⟨rfl,?_⟩⟩
  ·obtain⟨k,rfl⟩:∃k,n=k+1:=⟨n-1,by omega⟩;have K:=I k (by omega);have y:=q k (by omega);rw[←wr0]at y;simp only[gG,P,O,K,u,cond_false,y,C];rfl
  ·rw[g3];exact g
  ·refine f _ g2 (λz w s=>(M z w).trans (Heap.ef s)) ((M l t).trans ?_);exact Heap.aI C
 ·refine⟨.ret (.bool false),B.wr h.next l (.loop e ps asg body 2 x3),⟨m+D+1,λn hn=> ?_⟩,?_, .inr ⟨rfl,oP t,?_⟩⟩
  ·obtain⟨k,rfl⟩:∃k,n=k+1:=⟨n-1,by omega⟩;have K:=I k (by omega);have y:=q k (by omega);rw[←wr0]at y;rcases J with rfl|⟨i,rfl⟩<;>simp only[gG,P,O,K,u,cond_false,y,C]
  ·intro z w;rcases dy w with rfl|w
   ·exact G
   ·exact g z w
  ·exact f _ rfl (λz s=>Heap.ef s) (Heap.aI C)
structure Ji {α:Type} (px:bk) (T:Nat->Option aq) (W:Nat->Prop) (N l:Nat) (V:α->List Value) (all:List α) (P:List α->Heap->Prop) (S:Heap->Prop):Prop where
 qk:∀done x H,x∈all->Rdy H->N<=H.next->P done H->FW T (.yield l) (V x) H λr H'=>(∀z∈H'.log,W z)/\(r= .ret (.bool true)/\P (done++[x]) H'∨r= .ret (.bool false)/\l∈H'.log/\S H')
 fu:∀done H H',P done H->N<=H'.next->(∀x,x<N->H'.get x=H.get x)->P done H'
 PX:∀H m,S H->S {H with log:=m}
 GB:∀H,S H->∃a b c d,H.get l=some (.loop a b c d 2 px)
 low:∀z,W z->z<N
theorem Ji.call(n:aF T){α:Type}{px:bk}{W:Nat->Prop}{N l:Nat}{V:α->List Value}{all:List α}{P:List α->Heap->Prop}{S:Heap->Prop}(Y:Ji px T W N l V all P S){K:Env->Dfs->Heap->Prop}{dst:Option Nat}{done:List α}{x:α}(p:x∈all)(o:WF h)(b:N<=h.next)(c:l<base)(j:P done h)
 (i:∀h',Ws W h h'→P (done++[x]) h'→K (bN e dst (.bool true)) ds h')
 (k:∀h',Ws W h h'→l∈h'.log->S h'→K (bN e dst (.bool false)) ds h'):FW T (.yield l) (V x) {h with log:=[]} (KO K Q base dst e ds h.log):=by
 refine FW.mono' (FW.BP n (Y.qk done x _ p (.of o) b (Y.fu _ _ _ j b λ_ _=>rfl)) rfl) ?_;rintro r g ⟨d,m,a⟩;have f:Ws W {h with log:=[]} g:=Ws.lK d m;rcases a with⟨rfl,a⟩|⟨rfl,hm,a⟩
 ·exact⟨i _ f.call (Y.fu _ _ _ a (gd b d.next) λ_ _=>rfl)⟩
 ·exact⟨k _ f.call (mem_merge c hm) (Y.PX _ _ a)⟩
def GrW(T:Nat->Option aq)(f:Nat)(args:List Value)(h:Heap)(W:Nat->Prop)(P S:Heap->Prop):Prop:=CW T f args h λr h'=>Ws W h h'∧∃v,r= .ret v/\(P h'∨S h')
structure RS (rs:List (Nat×Option (Option Nat))) (W:Nat->Prop) (l:Nat) (P S:Heap->Prop) (x:bk) (e:Env) (ds:Dfs) (h1:Heap):Prop where
 ok:(x= .normal∨x= .ret)/\ds=[]/\(∀z∈h1.log,W z)/\(∃vs,bL h1 e rs=some vs)/\(P h1∨l∈h1.log/\S h1)
variable{rs:List (Nat×Option (Option Nat))}{P:Heap->Prop}{vs:List Value}
theorem J2{S:Heap->Prop}(a:∀z∈h.log,W z)(hr:bL h e rs=some vs)(b:l∈h.log)(c:S h):RS rs W l P S .ret e [] h:=⟨⟨.inr rfl,rfl,a,⟨vs,hr⟩, .inr ⟨b,c⟩⟩⟩
theorem J1{S:Heap->Prop}(a:∀z∈h.log,W z)(hr:bL h e rs=some vs)(b:P h):RS rs W l P S .normal e [] h:=⟨⟨.inl rfl,rfl,a,⟨vs,hr⟩, .inl b⟩⟩
variable{f:Nat}{c:aN}
theorem GrW.of(B:aF T){S:Heap->Prop}(z:T f=some (.code c rs))(k:l<h.next)
 (w:∀g h2:Heap,h.next<=h2.next->(∀x,x<h.next->h2.get x=g.get x)->P g->P h2)(y:∀H,S H->∃a b c d,H.get l=some (.loop a b c d 2 px))(H:WE T h.next none c (RS rs W l P S) (dM 0 args) [] h):GrW T f args h W P S:=by
 obtain⟨x,e,ds,g,⟨m,r⟩,⟨C,rfl,A,⟨j,o⟩,i⟩⟩:=H.ok;have q:=(eO.all B m).exec _ _ _ _ _ _ _ _ _ _ (r m (bl _)) (bl _);obtain⟨s,t,u,D⟩:=kW (v:=dO j) q;have p:Ws W h (gcA h g (dO j))/\∃v,Res.ret (dO j)= .ret v/\(P (gcA h g (dO j))∨S (gcA h g (dO j))):=by
  refine⟨Ws.lK (q.gc' _) (by rw[u];exact A),_,rfl,?_⟩;rcases i with i|⟨hml,i⟩
  ·exact .inl (w _ _ t s i)
  ·obtain⟨a,b,c,d,n⟩:=y _ i;rw[F7 n k hml];exact .inr i
 refine CW.code z ⟨x,e,[],g,⟨m,r⟩,?_⟩;unfold vg;rcases C with rfl|rfl<;>(simp only[o];exact p)
theorem merge_lt{base z:Nat}:∀{m l:List Nat},z∈aB base l m->z∈l∨z∈m/\z<base
 |[],l,h=> .inl h
 |b::m,l,h=>by
  simp only[aB]at h;rcases merge_lt (m:=m) h with h|⟨h,hb⟩
  ·revert h;rw[cond_eq_ite,cond_eq_ite];split
   ·rename_i hlt;split
    ·exact .inl
    ·intro h;rcases List.mem_cons.1 h with rfl|h
     ·exact .inr ⟨b6 ..,by rw[blt_eq]at hlt;simpa using hlt⟩
     ·exact .inl h
   ·exact .inl
  ·exact .inr ⟨bz _ h,hb⟩
variable{h1:Heap}{g:Nat}{cap first:Array Value}
theorem Am{f:Operand}{S:Heap->Prop}(hr:nr h1 rnd=true)(D:ev h1 e f=some (.func (.func g) first cap))(n:gw (T g)=false)
 (l:base<=h1.next)(F:WF h1)
 (x:GrW T g (dP first.toList (dP [.func (.yield h1.next) #[] #[]] cap.toList)) {h1.push (.loop e ps asg body 0 .normal)with log:=[]} W P S)
 (B:∀H,P H->∃a b c d,H.get h1.next=some (.loop a b c d 0 .normal))(C:∀H,S H->∃a b c d,H.get h1.next=some (.loop a b c d 2 px))
 (y:∀h h3:Heap,(∀z∈h3.log,z∈h1.log∨W z/\z<base)->WF h3->h1.next<h3.next->h3.next=h.next->(∀z,z≠h1.next->h3.get z=h.get z)->(∀z,z<h1.next->¬W z->h3.get z=h1.get z)->P h->Q .normal e ds h3)
 (A:∀h h3:Heap,(∀z∈h3.log,z∈h1.log∨W z/\z<base)->WF h3->h1.next<h3.next->h3.next=h.next->(∀z,z≠h1.next->h3.get z=h.get z)->(∀z,z<h1.next->¬W z->h3.get z=h1.get z)->S h->Q px e ds h3):WE T base rnd (.rangeFunc f ps asg body) Q e ds h1:=by
 refine tH hr D n (CW.mono x ?_);rintro r h ⟨k,v,rfl,j⟩;have s:∀z∈(({h with log:=aB base h1.log h.log}:Heap).wr base h1.next .dead).log,z∈h1.log∨W z/\z<base:=by
  rw[Heap.aD (by omega)];intro z i;rcases merge_lt (show z∈aB base h1.log h.log from i)with i|⟨i,hb⟩
  ·exact .inl i
  ·rcases k.log z i with q|q
   ·cases q
   ·exact .inr ⟨q,hb⟩
 have t:WF (({h with log:=aB base h1.log h.log}:Heap).wr base h1.next .dead):=((k.wf ((F.push _).log _)).log _).as (AS.wr _ _ _ _);have u:h1.next<h.next:=k.next
 have p:∀z,z≠h1.next->(({h with log:=aB base h1.log h.log}:Heap).wr base h1.next .dead).get z=h.get z:=λz o=>Heap.ef o
 have w:∀z,z<h1.next->¬W z->(({h with log:=aB base h1.log h.log}:Heap).wr base h1.next .dead).get z=h1.get z:=λz i E=>(p z (by omega)).trans ((k.old z (tb i) E).trans (Heap.eE i))
 rcases j with j|j
 ·obtain⟨a,b,c,d,m⟩:=B _ j;exact⟨_,rfl,_,_,_,_,_,_,m,rfl,y h _ s t u rfl p w j⟩
 ·obtain⟨a,b,c,d,m⟩:=C _ j;exact⟨_,rfl,_,_,_,_,_,_,m,rfl,A h _ s t u rfl p w j⟩
def RdE(E E2:Env)(ok:Bool)(x:bk)(e2:Env)(ds2:Dfs)(h2:Heap):Prop:=ds2=[]/\h2.log=[]/\(ok=true/\x= .normal/\DY e2 E=true∨ok=false/\x= .ret/\e2=E2)
def RdO(T:Nat->Option aq)(base:Nat)(rnd:Option Nat)(body:aN)(k2:List Nat)(E E2:Env)(ok:Bool)(x:bk)(e1:Env)(ds1:Dfs)(h1:Heap):Prop:=x= .normal/\ds1=[]/\WE T base rnd body (RdE E E2 ok) (bD e1 k2) [] h1
theorem Cd{nxt m:Nat}{l:List Nat}{body:aN}{g:List aP}{E E2 eo:Env}{i:Heap}(ho:xm eo E2=true)(j:tD E2 E2=true){P:Value×Value->Prop}:∀(es:List (Value×Value)),(∀f∈es,∃b,(b=true↔P f)/\WO T base rnd (RdO T base rnd body l E E2 b) g ((m, .tuple #[f.1,f.2])::E) [] i)→
 ∃b:Bool,(b=true↔ ∀f∈es,P f)/\∃M,∀n,M<=n->ng (λe h=>fZ T n base rnd g e [] h) (λe h=>cC T n base rnd body e [] h) nxt m l E eo i es=some (if b then none else some (.ret,E2))
 |[],_=>⟨true,⟨λ_ f h=>(by cases h),λ_=>rfl⟩,0,λn _=>rfl⟩
 |(k,v)::es,H=>by
  obtain⟨b,hb,M,hM⟩:=Cd (nxt:=nxt) (eo:=eo) ho j es λf d=>H f (bz _ d);obtain⟨c,s,⟨x,B,q,C,⟨w,z⟩,rfl,rfl,W⟩⟩:=H (k,v) b6;obtain⟨G,e2,r,D,⟨y,A⟩,rfl,t,u⟩:=W.ok;refine⟨c&&b,?_,M+w+y,λn F=> ?_⟩
  ·rw[ed,hb,s];constructor
   ·rintro⟨o,p⟩ f d;rcases List.mem_cons.1 d with rfl|d
    ·exact o
    ·exact p f d
   ·exact λa=>⟨a _ b6,λf d=>a f (bz _ d)⟩
  ·simp only[ng,z n (by omega),A n (by omega),t,hM n (by omega)];rcases u with⟨rfl,rfl,h4⟩|⟨rfl,rfl,rfl⟩
   ·simp only[Ga,h4,cond_true,rn]
   ·simp only[Ga,ho,cond_true,zd];cases b<;>simp[j]
variable{x:Operand}
theorem Ea{ops a:List aP}{c out nxt p m:Nat}{keep l:List Nat}{e0 E2:Env}{es:List (Value×Value)}(r:EvO T base rnd ops e [] h (.normal,e0,[],h))(j:ev h e0 x=some (.map (some m)))(i:h.get m=some (.map es))(ho:xm (bD e0 keep) E2=true)(w:tD E2 E2=true)(P:Value×Value->Prop)
 (s:∀kv∈es,∃b,(b=true↔P kv)/\WO T (h.next+1) rnd (RdO T (h.next+1) rnd body l (itE c h (bD e0 keep)) E2 b) a ((p, .tuple #[kv.1,kv.2])::itE c h (bD e0 keep)) [] ((roM h m es).push .dead))
 (t:(∀kv∈es,P kv)->Q .normal (bD e0 keep) [] h)(u:(¬ ∀kv∈es,P kv)->Q .ret E2 [] h):WE T base rnd (.rangeMap ops c x keep out nxt p a l body) Q e [] h:=by
 obtain⟨o,d⟩:=r;obtain⟨b,g,M,f⟩:=Cd (nxt:=nxt) ho w es s;cases ha:b with
 |true=>
  refine⟨⟨_,_,_,_,⟨M+o+1,λn v=> ?_⟩,t (g.1 ha)⟩⟩;obtain⟨k,rfl⟩:∃k,n=k+1:=⟨n-1,by omega⟩;simp only[cC,d k (by omega),j,i];rw[f k (by omega),ha];rfl
 |false=>
  refine⟨⟨_,_,_,_,⟨M+o+1,λn v=> ?_⟩,u λq=>by rw[g.2 q]at ha;cases ha⟩⟩;obtain⟨k,rfl⟩:∃k,n=k+1:=⟨n-1,by omega⟩;simp only[cC,d k (by omega),j,i];rw[f k (by omega),ha];rfl
variable{d:Nat}{v:Value}
theorem EvO.mov(a:ev h e x=some v):EvO T base rnd [⟨some d, .mov x,none⟩] e [] h (.normal,(d,v)::e,[],h):=⟨2,λn b=>by
 obtain⟨k,rfl⟩:∃k,n=k+2:=⟨n-2,by omega⟩;simp only[fZ,bA,aop,a,cO,bN]⟩
structure JY (h:Heap) (rs:List (Nat×Option (Option Nat))) (S:Nat->Prop) (Q:Value->Heap->Prop) (x:bk) (e:Env) (ds:Dfs) (h1:Heap):Prop where
 ok:(x= .normal∨x= .ret)/\ds=[]/\(∀z∈h1.log,S z)/\∃vs,bL h1 e rs=some vs/\Q (dO vs) h1/\((∃q,q<h.next/\q∈h1.log/\jd h1 q)∨∀h2:Heap,h.next<=h2.next->(∀x,x<h.next->h2.get x=h1.get x)->Q (dO vs) h2)
variable{S:Nat->Prop}
theorem Gs.ofM(s:aF T){Q:Value->Heap->Prop}(p:T f=some (.code c rs))
 (H:WE T h.next none c (JY h rs S Q) (dM 0 args) [] h):Gs T f args h S Q:=by
 obtain⟨x,e,ds,b,⟨m,k⟩,⟨u,rfl,r,a,g,t,d⟩⟩:=H.ok;have j:=(eO.all s m).exec _ _ _ _ _ _ _ _ _ _ (k m (bl _)) (bl _);obtain⟨l,n,o,w⟩:=kW (v:=dO a) j;have i:Ws S h (gcA h b (dO a))/\∃v,Res.ret (dO a)= .ret v/\Q v (gcA h b (dO a)):=by
  refine⟨Ws.lK (j.gc' _) (by rw[o];exact r),_,rfl,?_⟩;rcases d with⟨q,hq1,hq2,hq3⟩|d
  ·rw[sW hq1 hq2 hq3];exact t
  ·exact d _ n l
 refine CW.code p ⟨x,e,[],b,⟨m,k⟩,?_⟩;unfold vg;rcases u with rfl|rfl<;>(simp only[g];exact i)
theorem qz{Q:Value->Heap->Prop}(b:∀z∈h1.log,S z)(hr:bL h1 e rs=some vs)(c:Q (dO vs) h1)(a:(∃q,q<h.next/\q∈h1.log/\jd h1 q)∨∀h2:Heap,h.next<=h2.next->(∀x,x<h.next->h2.get x=h1.get x)->Q (dO vs) h2):JY h rs S Q .ret e [] h1:=⟨⟨.inr rfl,rfl,b,vs,hr,c,a⟩⟩
theorem Hq{Q:Value->Heap->Prop}(b:∀z∈h1.log,S z)(hr:bL h1 e rs=some vs)(c:Q (dO vs) h1)(a:(∃q,q<h.next/\q∈h1.log/\jd h1 q)∨∀h2:Heap,h.next<=h2.next->(∀x,x<h.next->h2.get x=h1.get x)->Q (dO vs) h2):JY h rs S Q .normal e [] h1:=⟨⟨.inl rfl,rfl,b,vs,hr,c,a⟩⟩
variable{lo:Nat}
theorem Fz{f:Operand}(hr:nr h1 rnd=true)(u:ev h1 e f=some (.func (.func g) first cap))(l:gw (T g)=false)
 (k:base<=lo)(o:lo<=h1.next)(B:WF h1)
 (s:Gr T g (dP first.toList (dP [.func (.yield h1.next) #[] #[]] cap.toList)) {h1.push (.loop e ps asg body 0 .normal)with log:=[]} lo λv h'=>v= .tuple #[]/\P h')
 (t:∀H,P H->∃a b c d,H.get h1.next=some (.loop a b c d 0 .normal))
 (K:∀h h3:Heap,h3.log=h1.log->WF h3->h1.next<h3.next->h3.next=h.next->(∀z,z≠h1.next->h3.get z=h.get z)->(∀z,z<lo->h3.get z=h1.get z)->P h->Q .normal e ds h3):WE T base rnd (.rangeFunc f ps asg body) Q e ds h1:=by
 refine tH hr u l (CW.mono s ?_);rintro r h ⟨i,v,rfl,rfl,p⟩;have j:eR base h.log:=λz n=>gd k (i.log (eR.nil _) z n);have x:(({h with log:=aB base h1.log h.log}:Heap).wr base h1.next .dead).log=h1.log:=by
  rw[Heap.aD (by omega)];show aB base h1.log h.log=h1.log;rw[tj j]
 have y:WF (({h with log:=aB base h1.log h.log}:Heap).wr base h1.next .dead):=((i.wf ((B.push _).log _)).log _).as (AS.wr _ _ _ _);have A:h1.next<h.next:=i.next
 have q:∀z,z≠h1.next->(({h with log:=aB base h1.log h.log}:Heap).wr base h1.next .dead).get z=h.get z:=λz m=>Heap.ef m
 obtain⟨a,b,c,d,w⟩:=t _ p;refine⟨_,rfl,_,_,_,_,_,_,w,rfl,K h _ x y A rfl q (λz n=>(q z (by omega)).trans ((i.old z n).trans ?_)) p⟩;exact Heap.eE (by omega)
variable{dst:Option Nat}
theorem Eb{sz n:Nat}{os:List aP}{y:Operand}{u:Value}{cs c1:List Value}(s:Own lo h sz v n cs)(t:n<1000000)(k:0<sz)(hb:d<=100000)
 (p:ev h e x=some v)(r:ev h e y=some u)(m:dn h sz u=some (c1,1))(i:c1.length=sz)(h1:eC c1=true)
 (l:∀h',Own h.next h' sz (.slice (some ⟨h.next,0,none⟩) (n+1) UNK) (n+1) (cs++c1)->h'.next=h.next+1->(∀z∈h'.log,z∈h.log∨∃a c,v= .slice (some ⟨z,0,none⟩) a c)->(WF h->WF h')->(∀z,z<h.next->(∀q a c,v= .slice (some ⟨q,0,none⟩) a c->z≠q)->h'.get z=h.get z)->WO T base rnd Q os (bN e dst (.slice (some ⟨h.next,0,none⟩) (n+1) UNK)) ds h'):WO T base rnd Q (⟨dst, .append sz d x y,none⟩::os) e ds h:=by
 have g:(2*(n+1)+768)*d<=281474976710656:=by
  have:(2*(n+1)+768)*d<=2000768*100000:=Do (by omega) hb;omega
 cases s with
 |nil=>
  refine aG (nD (n:=1) p r m (by omega) (by simpa using g) rfl) ?_;exact l _ (Own.full (lo:=h.next) (h:=h.push (.cells c1 true sz)) (sz:=sz) (q:=h.next) (n:=1) (cs:=c1) (bl _) (go _) (Heap.gX _ _) (by omega) (by omega)) rfl (λz f=> .inl f) (λw=>w.push _) (λz f _=>Heap.eE f)
 | @full q _ _ q1 q2 q3 q4 q5=>
   refine aG (jZ (n:=1) (vs:=cs) (ws:=cs++c1) p r m (by omega) q3 q4 k h1 g (dI _ _)) ?_;exact l _ (.full (bl _) (go _) (Heap.gX _ _) (by rw[ec,q4,i,sx,A3]) (by omega)) rfl (λz f=>by
    rcases dy (b:=q) (o:= .dead) f with rfl|f
    ·exact .inr ⟨_,_,rfl⟩
    ·exact .inl f) (λw=>(w.as (AS.wr base _ q .dead)).push _) (λz f j=>(Heap.eE (by exact f)).trans (Heap.ef (j q _ _ rfl)))
structure WsL (base:Nat) (S:Nat->Prop) (h h':Heap):Prop extends Ws S h h' where
 OJ:∀z∈h'.log,z∈h.log∨S z/\z<base
 Sd:∀z∈h.log,z∈h'.log
theorem Ws.JM{a:Heap}(x:Ws S {h with log:=[]} a):WsL base S h {a with log:=aB base h.log a.log}:=
 ⟨x.call,λz b=>(merge_lt (show z∈aB base h.log a.log from b)).imp id λ⟨q,c⟩=>⟨(x.log z q).elim (λq=>by cases q) id,c⟩,λz b=>rU (show z∈h.log from b)⟩
theorem FW.gsL{b:Value->Heap->Prop}{K:Env->Dfs->Heap->Prop}(H:Gs T f args {h with log:=[]} S b)(a:∀v (h':Heap) l,b v h'→b v {h' with log:=l})(d:∀v h',WsL base S h h'→b v h'→K (bN e dst v) ds h'):
 FW T (.func f) args {h with log:=[]} (KO K Q base dst e ds h.log):=by
 refine .func (CW.mono H ?_);rintro r c ⟨i,v,rfl,g⟩;exact⟨d v _ i.JM (a v c _ g)⟩
theorem FW.R4{d:Value->Heap->Prop}{K:List Rec->Env->Heap->Prop}{mask:Nat}{rs:List Rec}(H:Gs T f args {h with log:=[]} S d)(c:∀v (h':Heap) l,d v h'→d v {h' with log:=l})
 (i:∀v h' lg,WsL base S h h'→(∀z∈lg,S z)->d v h'→∃a,br h' base lg mask rs=some a∧K a (bN e dst v) h'):FW T (.func f) args {h with log:=[]} (KD K base mask rs dst e h.log):=by
 refine .func (CW.mono H ?_);rintro r b ⟨g,v,rfl,j⟩;obtain⟨a,m,n⟩:=i v {b with log:=aB base h.log b.log} b.log g.JM (λz k=>(g.log z k).elim (λq=>by cases q) id) (c v b _ j);refine⟨?_⟩;show kD K base mask rs dst e h.log (.ret v) b;unfold kD;simp only[m];exact n
end Go.A
end
section
namespace Go.A
section
variable{T:Nat->Option aq}{b:Nat}{r:Option Nat}{X:XQ}{os:List aP}{e:Env}{ds:Dfs}{h:Heap}{d:Option Nat}{x y z:Operand}{R:Prop}{n:Nat}{a c:aN}{K:Env->Dfs->Heap->Prop}{E:bk}{rs:List Rec}{bf is:List Nat}{Z:Env->Heap->Prop}
abbrev YpO:=@id (R->WO T b r X os e ds h)
abbrev YpE:=@id (R->WE T b r a X e ds h)
abbrev YpD:=@id (R->WD T b os bf Z is rs e h)
abbrev Yp0:=@id (R->WO T b r X (⟨d, .mov x,none⟩::os) e ds h)
variable{t:Nat}{B:Bool}{p:AOp}{u:Ee}{l:List Operand}
abbrev Yp1:=@id (R->WO T b r X (⟨d, p,some (t,B)⟩::os) e ds h)
abbrev Yp2:=@id (R->WO T b r X [] e ds h)
abbrev Yp3:=@id (R->WO T b r X (⟨d, .bin u x y,none⟩::os) e ds h)
abbrev Yp4:=@id (R->WO T b r X (⟨d, .load (some n) x,none⟩::os) e ds h)
abbrev Yp5:=@id (R->WO T b r X (⟨d, .load none x,none⟩::os) e ds h)
abbrev Yp6:=@id (R->WO T b r X (⟨d, .call x l,none⟩::os) e ds h)
abbrev Yp7:=@id (R->WO T b r X (⟨d, .dz n x,none⟩::os) e ds h)
abbrev Yp8:=@id (R->WO T b r X (⟨d, .len n x,none⟩::os) e ds h)
abbrev Yp9:=@id (R->WO T b r X (⟨d, .box x,none⟩::os) e ds h)
abbrev Yp10:=@id (R->WO T b r X (⟨d, .extract x n,none⟩::os) e ds h)
abbrev Yp11:=@id (R->WO T b r X (⟨d, .pick x y z,none⟩::os) e ds h)
abbrev Yp12:=@id (R->WO T b r X (⟨d, .aQ n x y,none⟩::os) e ds h)
abbrev Yp13:=@id (R->WO T b r X (⟨d, .store n x y,none⟩::os) e ds h)
variable{D:List Value}
abbrev Yp14:=@id (R->WO T b r X (⟨d, .new D,none⟩::os) e ds h)
abbrev Yp15:=@id (R->WE T b r (.seq a c) X e ds h)
abbrev Yp16:=@id (R->WE T b r (.cond x a c) X e ds h)
abbrev Yp17:=@id (R->WE T b r (.skip) X e ds h)
abbrev Yp18:=@id (R->WE T b r (.ret) X e ds h)
abbrev Yp19:=@id (R->WE T b r (.block n a) X e ds h)
abbrev Yp20:=@id (R->KS K X E e ds h)
abbrev Yp21:=@id (R->KB n X E e ds h)
end
theorem YW{h:Heap}{x b:Nat}{o p:bM}(g:h.get b=some p):(h.wr x b o).get b=some o:=by rw[z6,g];rfl
theorem YG{h:Heap}{b:Nat}{c:Option bM}(H:h.get b=c:=by first|assumption|exact z3 _ _|exact z8 (by omega) (by omega)|exact YW (by assumption)|(rw[z5 (by omega)];assumption)|(rw[z5 (by omega)];exact YW (by assumption))|exact YW ((z5 (by omega)).trans (by assumption))|(rw[z4 (by omega)];assumption)|(rw[z6,z8 (by omega) (by omega)];exact rfl)|(rw[z6,z3];exact rfl)|(simp(disch:=first|omega|(simp only[z1,z2];omega))only[z3,z4,z5,z6,z7,z1,z2, *];done)|(simp(disch:=first|omega|(simp only[z1,z2];omega))only[z3,z4,z5,z6,z7,z1,z2, *];exact rfl)|(simp(disch:=first|omega|(simp only[z1,z2];omega)|(simp only[z1,z2];done)|fail)only[z8,z4,z5,z9,z7,z1,z2, *];done)|(simp(disch:=first|omega|(simp only[z1,z2];omega)|(simp only[z1,z2];done)|fail)only[z8,z4,z5,z9,z7,z1,z2, *];exact rfl)):h.get b=c:=H
variable{P:Prop}
theorem Yc1{R:Prop}(s:R->P:=by first|(apply YpO;first|(apply Yp0;first|exact λH=>yM H)|(apply Yp1;first|exact λH=>yO H|exact λH=>yP H)|(apply Yp2;first|exact λH=>y3 H)|(apply Yp3;first|exact λH=>yW H|exact λH=>X6 H|exact λH=>yt H|exact λH=>yf H)|(apply Yp4;first|exact λH=>yV H|exact λH=>yN H)|(apply Yp5;first|exact λH=>aG (bJ (by exact rfl) (by assumption) (by assumption)) H|exact λH=>yL H|exact λH=>yL (hb:=YG) H)|(apply Yp6;first|exact λH=>yC H)|(apply Yp7;first|exact λH=>yF H)|(apply Yp8;first|exact λH=>yD H)|(apply Yp9;first|exact λH=>yB H)|(apply Yp10;first|exact λH=>yE H)|(apply Yp11;first|exact λH=>yT H|exact λH=>yU H)|(apply Yp12;first|exact λH=>yI H)|(apply Yp13;first|exact λH=>yS H|exact λH=>yS (hb:=YG) H)|(apply Yp14;first|exact λH=>aG (uG) H)|(exact λH=>yA H)|(exact λH=>aG (qn (by exact rfl)) H)|(exact λH=>aG (sK (by exact rfl) (by exact rfl) (by omega)) H)|(exact λH=>aG (iw (by exact rfl)) H)|(exact λH=>aG (Jk (by exact rfl) (by exact rfl)) H))|(apply YpE;first|(apply Yp15;first|exact λH=>y4 H|exact λH=>uz H)|(apply Yp16;first|exact λH=>yX H|exact λH=>yY H)|(apply Yp17;first|exact λH=>Qr H)|(apply Yp18;first|exact λH=>yH H)|(apply Yp19;first|exact λH=>lF H)|(exact λH=>uy H)|(exact λH=>GQ H)|(exact λH=>Qo H))|(apply YpD;first|(exact λH=>qM H)|(exact λH=>qF H)|(exact λH=>qV H)|(exact λH=>qW H)|(exact λH=>qI H)|(exact λH=>qC H)|(exact λH=>qK H)|(exact λH=>qJ H)|(exact λH=>qL H)|(exact λH=>qN H)|(exact λH=>qO H)|(exact λH=>ux H)|(exact λH=>aO rfl rfl rfl (by exact rfl) (by exact rfl) (by exact rfl) (iw (by exact rfl)) H)|(exact λH=>aO rfl rfl rfl (by exact rfl) (by exact rfl) (by exact rfl) (vn (by exact rfl) (by exact rfl)) H)|(exact λH=>aO rfl rfl rfl (by exact rfl) (by exact rfl) (by exact rfl) (Au (by exact rfl) (by exact rfl)) H))|(first|(apply Yp20;first|exact λH=>KC H|exact λH=>XL H|exact λH=>Vs H)|(apply Yp21;first|exact λH=>Vo H|exact λH=>XJ H|exact λH=>XK H)|(exact λH=>y1 H))):R->P:=s
variable{Q:Prop}
theorem Yc2{R:Prop}(s:Q->P:=by exact Yc1)(g:R->Q:=by exact Yc1):R->P:=λa=>s (g a)
theorem Yc3{R:Prop}(s:Q->P:=by exact Yc1)(g:R->Q:=by exact Yc2):R->P:=λa=>s (g a)
theorem Yc4{R:Prop}(s:Q->P:=by exact Yc1)(g:R->Q:=by exact Yc3):R->P:=λa=>s (g a)
theorem Yc5{R:Prop}(s:Q->P:=by exact Yc1)(g:R->Q:=by exact Yc4):R->P:=λa=>s (g a)
theorem Yc6{R:Prop}(s:Q->P:=by exact Yc1)(g:R->Q:=by exact Yc5):R->P:=λa=>s (g a)
theorem Yc7{R:Prop}(s:Q->P:=by exact Yc1)(g:R->Q:=by exact Yc6):R->P:=λa=>s (g a)
theorem Yc8{R:Prop}(s:Q->P:=by exact Yc1)(g:R->Q:=by exact Yc7):R->P:=λa=>s (g a)
theorem Yc9{R:Prop}(s:Q->P:=by exact Yc1)(g:R->Q:=by exact Yc8):R->P:=λa=>s (g a)
theorem Yc10{R:Prop}(s:Q->P:=by exact Yc1)(g:R->Q:=by exact Yc9):R->P:=λa=>s (g a)
theorem Yc11{R:Prop}(s:Q->P:=by exact Yc1)(g:R->Q:=by exact Yc10):R->P:=λa=>s (g a)
theorem Yc12{R:Prop}(s:Q->P:=by exact Yc1)(g:R->Q:=by exact Yc11):R->P:=λa=>s (g a)
theorem Yc13{R:Prop}(s:Q->P:=by exact Yc1)(g:R->Q:=by exact Yc12):R->P:=λa=>s (g a)
theorem Yc14{R:Prop}(s:Q->P:=by exact Yc1)(g:R->Q:=by exact Yc13):R->P:=λa=>s (g a)
theorem Yc15{R:Prop}(s:Q->P:=by exact Yc1)(g:R->Q:=by exact Yc14):R->P:=λa=>s (g a)
theorem Yc16{R:Prop}(s:Q->P:=by exact Yc1)(g:R->Q:=by exact Yc15):R->P:=λa=>s (g a)
theorem Yc17{R:Prop}(s:Q->P:=by exact Yc1)(g:R->Q:=by exact Yc16):R->P:=λa=>s (g a)
theorem Yc18{R:Prop}(s:Q->P:=by exact Yc1)(g:R->Q:=by exact Yc17):R->P:=λa=>s (g a)
theorem Yc19{R:Prop}(s:Q->P:=by exact Yc1)(g:R->Q:=by exact Yc18):R->P:=λa=>s (g a)
theorem Yc20{R:Prop}(s:Q->P:=by exact Yc1)(g:R->Q:=by exact Yc19):R->P:=λa=>s (g a)
theorem Yc21{R:Prop}(s:Q->P:=by exact Yc1)(g:R->Q:=by exact Yc20):R->P:=λa=>s (g a)
theorem Yc22{R:Prop}(s:Q->P:=by exact Yc1)(g:R->Q:=by exact Yc21):R->P:=λa=>s (g a)
theorem Yc23{R:Prop}(s:Q->P:=by exact Yc1)(g:R->Q:=by exact Yc22):R->P:=λa=>s (g a)
theorem Yc24{R:Prop}(s:Q->P:=by exact Yc1)(g:R->Q:=by exact Yc23):R->P:=λa=>s (g a)
theorem Yc25{R:Prop}(s:Q->P:=by exact Yc1)(g:R->Q:=by exact Yc24):R->P:=λa=>s (g a)
theorem Yc26{R:Prop}(s:Q->P:=by exact Yc1)(g:R->Q:=by exact Yc25):R->P:=λa=>s (g a)
theorem Yc27{R:Prop}(s:Q->P:=by exact Yc1)(g:R->Q:=by exact Yc26):R->P:=λa=>s (g a)
theorem Yc28{R:Prop}(s:Q->P:=by exact Yc1)(g:R->Q:=by exact Yc27):R->P:=λa=>s (g a)
theorem Yc29{R:Prop}(s:Q->P:=by exact Yc1)(g:R->Q:=by exact Yc28):R->P:=λa=>s (g a)
theorem Yc30{R:Prop}(s:Q->P:=by exact Yc1)(g:R->Q:=by exact Yc29):R->P:=λa=>s (g a)
theorem Yc31{R:Prop}(s:Q->P:=by exact Yc1)(g:R->Q:=by exact Yc30):R->P:=λa=>s (g a)
theorem Yc32{R:Prop}(s:Q->P:=by exact Yc1)(g:R->Q:=by exact Yc31):R->P:=λa=>s (g a)
theorem Yc33{R:Prop}(s:Q->P:=by exact Yc1)(g:R->Q:=by exact Yc32):R->P:=λa=>s (g a)
theorem Yc34{R:Prop}(s:Q->P:=by exact Yc1)(g:R->Q:=by exact Yc33):R->P:=λa=>s (g a)
theorem Yc35{R:Prop}(s:Q->P:=by exact Yc1)(g:R->Q:=by exact Yc34):R->P:=λa=>s (g a)
theorem Yc36{R:Prop}(s:Q->P:=by exact Yc1)(g:R->Q:=by exact Yc35):R->P:=λa=>s (g a)
theorem Yc37{R:Prop}(s:Q->P:=by exact Yc1)(g:R->Q:=by exact Yc36):R->P:=λa=>s (g a)
theorem Yc38{R:Prop}(s:Q->P:=by exact Yc1)(g:R->Q:=by exact Yc37):R->P:=λa=>s (g a)
theorem Yc39{R:Prop}(s:Q->P:=by exact Yc1)(g:R->Q:=by exact Yc38):R->P:=λa=>s (g a)
theorem Yc40{R:Prop}(s:Q->P:=by exact Yc1)(g:R->Q:=by exact Yc39):R->P:=λa=>s (g a)
theorem Y2{R:Prop}(H:R)(s:R->P:=by exact Yc2):P:=s H
theorem Y3{R:Prop}(H:R)(s:R->P:=by exact Yc3):P:=s H
theorem Y4{R:Prop}(H:R)(s:R->P:=by exact Yc4):P:=s H
theorem Y5{R:Prop}(H:R)(s:R->P:=by exact Yc5):P:=s H
theorem Y6{R:Prop}(H:R)(s:R->P:=by exact Yc6):P:=s H
theorem Y7{R:Prop}(H:R)(s:R->P:=by exact Yc7):P:=s H
theorem Y8{R:Prop}(H:R)(s:R->P:=by exact Yc8):P:=s H
theorem Y9{R:Prop}(H:R)(s:R->P:=by exact Yc9):P:=s H
theorem Y10{R:Prop}(H:R)(s:R->P:=by exact Yc10):P:=s H
theorem Y11{R:Prop}(H:R)(s:R->P:=by exact Yc11):P:=s H
theorem Y12{R:Prop}(H:R)(s:R->P:=by exact Yc12):P:=s H
theorem Y13{R:Prop}(H:R)(s:R->P:=by exact Yc13):P:=s H
theorem Y14{R:Prop}(H:R)(s:R->P:=by exact Yc14):P:=s H
theorem Y15{R:Prop}(H:R)(s:R->P:=by exact Yc15):P:=s H
theorem Y16{R:Prop}(H:R)(s:R->P:=by exact Yc16):P:=s H
theorem Y17{R:Prop}(H:R)(s:R->P:=by exact Yc17):P:=s H
theorem Y18{R:Prop}(H:R)(s:R->P:=by exact Yc18):P:=s H
theorem Y19{R:Prop}(H:R)(s:R->P:=by exact Yc19):P:=s H
theorem Y20{R:Prop}(H:R)(s:R->P:=by exact Yc20):P:=s H
theorem Y21{R:Prop}(H:R)(s:R->P:=by exact Yc21):P:=s H
theorem Y22{R:Prop}(H:R)(s:R->P:=by exact Yc22):P:=s H
theorem Y23{R:Prop}(H:R)(s:R->P:=by exact Yc23):P:=s H
theorem Y24{R:Prop}(H:R)(s:R->P:=by exact Yc24):P:=s H
theorem Y25{R:Prop}(H:R)(s:R->P:=by exact Yc25):P:=s H
theorem Y26{R:Prop}(H:R)(s:R->P:=by exact Yc26):P:=s H
theorem Y27{R:Prop}(H:R)(s:R->P:=by exact Yc27):P:=s H
theorem Y28{R:Prop}(H:R)(s:R->P:=by exact Yc28):P:=s H
theorem Y30{R:Prop}(H:R)(s:R->P:=by exact Yc30):P:=s H
theorem Y31{R:Prop}(H:R)(s:R->P:=by exact Yc31):P:=s H
theorem Y32{R:Prop}(H:R)(s:R->P:=by exact Yc32):P:=s H
theorem Y33{R:Prop}(H:R)(s:R->P:=by exact Yc33):P:=s H
theorem Y34{R:Prop}(H:R)(s:R->P:=by exact Yc34):P:=s H
theorem Y35{R:Prop}(H:R)(s:R->P:=by exact Yc35):P:=s H
theorem Y36{R:Prop}(H:R)(s:R->P:=by exact Yc36):P:=s H
theorem Y37{R:Prop}(H:R)(s:R->P:=by exact Yc37):P:=s H
theorem Y38{R:Prop}(H:R)(s:R->P:=by exact Yc38):P:=s H
theorem Y39{R:Prop}(H:R)(s:R->P:=by exact Yc39):P:=s H
theorem Y40{R:Prop}(H:R)(s:R->P:=by exact Yc40):P:=s H
end Go.A
end
