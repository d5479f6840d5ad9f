/- How a run is reckoned. -/
import Derived.Test.YtppgkemkfdkobaaGreatDoorGC
import Derived.Test.YtppgkemkfdkobaaGreatDoorGA
import Derived.Lib.Bytealg
import Derived.Below
import Derived.Test.YtppgkemkfdkobaaGreatDoorGE
set_option linter.all false
set_option maxRecDepth 100000
section
namespace Go.A
variable {P:Program}
def Tr.all(Q:Nat->aq->Prop):Tr->Prop
 | .nil=>True
 | .node l k v r=>l.all Q/\Q k v/\r.all Q
def Tr.all_nil{Q:Nat->aq->Prop}:Tr.all Q .nil:=trivial
variable{k:Nat}
def Tr.aa{Q:Nat->aq->Prop}{l r:Tr}{v:aq}(h1:l.all Q)(a:Q k v)(b:r.all Q):Tr.all Q (.node l k v r):=⟨h1,a,b⟩
def Tr.xZ{Q:Nat->aq->Prop}:∀{t:Tr} {n:Nat} {v:aq},t.all Q->t.get n=some v->Q n v
 | .nil,_,_,_,h=>by cases h
 | .node l k v r,n,u,ha,h=>by
   simp only[Tr.get,cond_eq_ite,beq_eq,decide_eq_true_eq]at h;split at h
   ·rename_i e;subst e;cases h;exact ha.2.1
   ·split at h
    ·exact Tr.xZ ha.1 h
    ·exact Tr.xZ ha.2.2 h
def Ci(P:Program)(f:Nat)(p:List Value->Heap->Option (Value×Heap)):Prop:=∀args h v h',p args h=some (v,h')->h.log=[]->AS h.next h h'∧∀μ w args',R P μ h w->LR μ args args'→rC P (iF P μ h w (.ret v) h') ((callFunc f args'.toArray).run P w)
inductive Entry (P:Program) (k:Nat):aq->Prop
 |code {c rs fn ks}:P.funcs[k]? =some fn->aI P fn ks=some (.code c rs)->Entry P k (.code c rs)
 |mW {p}:Ci P k p->Entry P k (.mW p)
def Entry.of{fn:Func}{a:aq}{d:List (List Nat)}(h1:P.funcs[k]? =some fn)(c:aI P fn d=some a):Entry P k a:=by
 have b:=c;unfold aI at b;split at b
 ·split at b
  ·cases b
  ·split at b
   ·cases b;exact .code h1 c
   ·cases b
 ·cases b
def tN{t:Tr}(i:P.follows .mixedOrders=true)(h:t.all (Entry P)):eZ P t.get where
 mixed:=i
 code:=λf c rs b=>by
  have:=Tr.xZ h b;cases this with
  |code h1 h2=>exact⟨_,_,h1,h2⟩
 mW:=λf p a e v d b j g=>by
  have:=Tr.xZ h b;cases this with
  |mW h1=>exact h1 a e v d j g
variable{μ:Mu}{h:Heap}{w:World}
def R.grow{w':World}(d:R P μ h w)(l:w.heap.size<=w'.heap.size)(f:∀r,r<w.heap.size->w'.heap[r]? =w.heap[r]?)(j:Same w w'):R P μ h w'∧St μ h w μ h w':=
 ⟨⟨d.big,fun g o m n=>let⟨k,a,b,c,x⟩:=d.mU g o m n;⟨k,a,b,c,x.get (f _ (d.dom _ _ a).2)⟩,fun b o e=>OR.mono (fun _ _ h=>h) rfl (fun k i=>f _ (d.dom _ _ i).2) (d.obj b o e),d.lt,fun b k e=>⟨(d.dom b k e).1,m6 (d.dom b k e).2 l⟩,d.mu⟩,
   ⟨λ_ _=>rfl,l,λr p _=>f r p,λ_ _ h=>h,λr L h=>⟨L,(f r (Array.getElem?_eq_some_iff.1 h).1).trans h, .refl L⟩,j⟩⟩
variable{f:Nat}
def KX{fn:Func}(a:P.funcs[f]? =some fn)(c:fn.name≠ "runtime.NumGoroutine")(hb:fn.body.isSome=true)(args:Array Value)(w:World):(callFunc f args).run P w= .ok (.enter f args) w:=by
 cases hb':fn.body with
 |none=>rw[hb']at hb;cases hb
 |some b=>simp[callFunc,program,Sem.run,a,hb',c]
def lY{fn:Func}(c:P.funcs[f]? =some fn)(d:fn.name≠ "runtime.NumGoroutine")(hb:fn.body.isSome=true){args:Array Value}{Q:Ending→World→Prop}(b:Calls P f args w Q)
 {a:Res}{h':Heap}(g:∀e w',Q e w'→iF P μ h w a h' e w'):rC P (iF P μ h w a h') ((callFunc f args).run P w):=by
 rw[KX c d hb];exact callsIn_wide.2 (b.mono g)
def LR.two{x y:Value}{l:List Value}(h:LR μ [x,y] l):∃x' y',l=[x',y']/\VR μ x x'∧VR μ y y':=by
 cases h with
 |cons h1 h2=>cases h2 with
  |cons h2 h3=>cases h3;exact⟨_,_,rfl,h1,h2⟩
end Go.A
end
section
namespace Go.A
variable {T:Nat->Option aq}
def Ev(T:Nat->Option aq)(base:Nat)(rnd:Option Nat)(c:aZ)(e:Env)(ds:Dfs)(h:Heap)(r:bO×Env×Dfs×Heap):Prop:=∃m,∀n,m<=n->di T n base rnd c e ds h=some r
def EvO(T:Nat->Option aq)(base:Nat)(rnd:Option Nat)(ops:List bg)(e:Env)(ds:Dfs)(h:Heap)(r:bO×Env×Dfs×Heap):Prop:=∃m,∀n,m<=n->iC T n base rnd ops e ds h=some r
def EvD(T:Nat->Option aq)(base:Nat)(ops:List bg)(is bf:List Nat)(rs:List Rec)(e:Env)(h:Heap)(r:bO×Env×Heap):Prop:=∃m,∀n,m<=n->fG T n base ops is bf rs e h=some r
def EvF(T:Nat->Option aq)(fn:Fn)(args:List Value)(h:Heap)(r:Res×Heap):Prop:=∃m,∀n,m<=n->iw T n fn args h=some r
def EvC(T:Nat->Option aq)(f:Nat)(args:List Value)(h:Heap)(r:Res×Heap):Prop:=∃m,∀n,m<=n->jM T n f args h=some r
def XW(T:Nat->Option aq)(base:Nat)(rnd:Option Nat)(c:aZ)(e:Env)(ds:Dfs)(h:Heap)(Q:bO->Env->Dfs->Heap->Prop):Prop:=∃x e' ds' h',Ev T base rnd c e ds h (x,e',ds',h')/\Q x e' ds' h'
def FW(T:Nat->Option aq)(fn:Fn)(args:List Value)(h:Heap)(Q:Res->Heap->Prop):Prop:=∃r h',EvF T fn args h (r,h')/\Q r h'
def CW(T:Nat->Option aq)(f:Nat)(args:List Value)(h:Heap)(Q:Res->Heap->Prop):Prop:=∃r h',EvC T f args h (r,h')/\Q r h'
variable{base:Nat}{rnd:Option Nat}{c:aZ}{e:Env}{h:Heap}{Q:bO->Env->Dfs->Heap->Prop}
def XW.mono{a:Dfs}{b:bO->Env->Dfs->Heap->Prop}(H:XW T base rnd c e a h Q)(d:∀x e a h,Q x e a h->b x e a h):XW T base rnd c e a h b:=
 let⟨x,e',ds',h',h1,h2⟩:=H;⟨x,e',ds',h',h1,d _ _ _ _ h2⟩
variable{f:Nat}{args:List Value}
def CW.mono{Q a:Res->Heap->Prop}(H:CW T f args h Q)(b:∀r h,Q r h->a r h):CW T f args h a:=
 let⟨r,h',h1,h2⟩:=H;⟨r,h',h1,b _ _ h2⟩
abbrev XQ:=bO->Env->Dfs->Heap->Prop
def kR(keep:List Nat)(Q:XQ):XQ:=λx e ds h=>match x with
 | .normal=>Q .normal (cZ e keep) ds h
 |x=>Q x e ds h
def kB(id:Nat)(Q:XQ):XQ:=λx e ds h=>match x with
 | .exit i=>(i=id->Q .normal e ds h)/\(i≠id->Q (.exit i) e ds h)
 |x=>Q x e ds h
def kS(K:Env->Dfs->Heap->Prop)(Q:XQ):XQ:=λx e ds h=>match x with
 | .normal=>K e ds h
 |x=>Q x e ds h
def kO(K:Env->Dfs->Heap->Prop)(Q:XQ)(base:Nat)(dst:Option Nat)(e:Env)(ds:Dfs)(log:List Nat):Res->Heap->Prop:=λr h2=>match r with
 | .ret v=>K (cN e dst v) ds {h2 with log:=aJ base log h2.log}
 | .panic v=>Q (.panic v) e ds {h2 with log:=aJ base log h2.log}
def kD(K:List Rec->Env->Heap->Prop)(base:Nat)(mask:Nat)(rs:List Rec)(dst:Option Nat)(e:Env)(log:List Nat):Res->Heap->Prop:=λr h2=>match r with
 | .ret v=>match bL {h2 with log:=aJ base log h2.log} base h2.log mask rs with
   |some rs'=>K rs' (cN e dst v) {h2 with log:=aJ base log h2.log}
   |none=>False
 | .panic _=>False
def wpA(T:Nat->Option aq)(base:Nat)(rnd:Option Nat)(wpO:Env->Dfs->Heap->Prop)(Q:XQ)(dst:Option Nat)(e:Env)(ds:Dfs)(h:Heap):Option dI->Prop
 |some (.val v h')=>wpO (cN e dst v) ds h'
 |some (.call fn args h')=>FW T fn args {h' with log:=[]} (kO wpO Q base dst e ds h'.log)
 |some (.lI f args)=>rnd=none/\wpO (cN e dst (.tuple #[])) ((f,args)::ds) h
 |some (.panic v h')=>Q (.panic v) e ds h'
 |_=>False
def wpG(A:Prop)(B:Prop):Option Bool->Prop
 |some c=>(c=false->B)/\(c=true->A)
 |none=>False
def wpO(T:Nat->Option aq)(base:Nat)(rnd:Option Nat)(Q:XQ):List bg->Env->Dfs->Heap->Prop
 |[],e,ds,h=>Q .normal e ds h
 |o::os,e,ds,h=>wpG (wpA T base rnd (wpO T base rnd Q os) Q o.dst e ds h (aop h base e o.op)) (wpO T base rnd Q os (cN e o.dst (.tuple #[])) ds h) (cg e o.guard)
def ZL(T:Nat->Option aq)(base:Nat)(wpD:List Rec->Env->Heap->Prop)(i:Nat)(o:bg)(mask:Nat)(rs:List Rec)(er e:Env)(h:Heap):Prop:=
 match lJ o.op with
 |true=>
  match aop h base er o.op with
  |some (.val v h')=>
   match dX o.op with
   |true=>rG h' base rs=true/\wpD (⟨i,o,er,v, .made h.next⟩::rs) (cN e o.dst v) h'
   |false=>h'.next=h.next/\wpD (⟨i,o,er,v, .quiet⟩::rs) (cN e o.dst v) h
  |_=>False
 |false=>
  match aop (η h) h.next er o.op with
  |some (.val v h2)=>match bL {h2 with log:=aJ base h.log h2.log} base h2.log mask rs with
   |some rs'=>wpD rs' (cN e o.dst v) {h2 with log:=aJ base h.log h2.log}
   |none=>False
  |some (.call fn args _)=>FW T fn args (η h) (kD wpD base mask rs o.dst e h.log)
  |_=>False
def wpD(T:Nat->Option aq)(base:Nat)(ops:List bg)(bf:List Nat)(Q:Env->Heap->Prop):List Nat->List Rec->Env->Heap->Prop
 |[],_,e,h=>Q e h
 |i::is,rs,e,h=>
  match bN ops i,bN bf i with
  |some o,some mask=>wpG (ZL T base (wpD T base ops bf Q is) i o mask rs (cZ e (dK o)) e h) (wpD T base ops bf Q is (⟨i,o,cZ e (dK o), .tuple #[], .skip⟩::rs) (cN e o.dst (.tuple #[])) h) (cg (cZ e (dK o)) o.guard)
  |_,_=>False
def wpC(A B:Prop):Option Value->Prop
 |some (.bool t)=>(t=true->A)/\(t=false->B)
 |_=>False
def wpE(T:Nat->Option aq)(base:Nat)(rnd:Option Nat):aZ->XQ->Env->Dfs->Heap->Prop
 | .skip,Q,e,ds,h=>Q .normal e ds h
 | .region ops keep,Q,e,ds,h=>wpO T base rnd (kR keep Q) ops e ds h
 | .draw ops order bf keep,Q,e,ds,h=>wpD T base ops bf (λe' h'=>Q .normal (cZ e' keep) ds h') order [] e h
 | .seq a b,Q,e,ds,h=>wpE T base rnd a (kS (wpE T base rnd b Q) Q) e ds h
 | .cond c a b,Q,e,ds,h=>wpC (wpE T base rnd a Q e ds h) (wpE T base rnd b Q e ds h) (ev h e c)
 | .block id b,Q,e,ds,h=>wpE T base rnd b (kB id Q) e ds h
 | .loop b,Q,e,ds,h=>XW T base rnd (.loop b) e ds h Q
 | .rangeFunc f ps a b,Q,e,ds,h=>XW T base rnd (.rangeFunc f ps a b) e ds h Q
 | .scope b,Q,e,ds,h=>wpE T base rnd b Q e ds h
 | .rangeMap o i x k ou nx pr o2 k2 b,Q,e,ds,h=>XW T base rnd (.rangeMap o i x k ou nx pr o2 k2 b) e ds h Q
 | .exit id,Q,e,ds,h=>Q (.exit id) e ds h
 | .ret,Q,e,ds,h=>Q .ret e ds h
def wP{base:Nat}{rnd:Option Nat}{Q:XQ}:∀{ops:List bg} {e:Env} {l:Dfs} {h:Heap},wpO T base rnd Q ops e l h->∃x b a d,EvO T base rnd ops e l h (x,b,a,d)/\Q x b a d
 |[],e,l,h,H=>⟨.normal,e,l,h,⟨1,λn j=>by obtain⟨k,rfl⟩:∃k,n=k+1:=⟨n-1,ω⟩;simp only[iC]⟩,H⟩
 |o::os,e,l,h,H=>by
  simp only[wpO]at H;unfold wpG at H;split at H
  ·rename_i c hc;cases c with
   |false=>
    obtain⟨x,b,a,d,⟨m,g⟩,i⟩:=wP (H.1 rfl);exact⟨x,b,a,d,⟨m+1,λn j=>by
     obtain⟨k,rfl⟩:∃k,n=k+1:=⟨n-1,ω⟩;simp only[iC,hc];exact g k ω⟩,i⟩
   |true=>
    have H:=H.2 rfl;unfold wpA at H;split at H
    ·rename_i v h3 ho;obtain⟨x,b,a,d,⟨m,g⟩,i⟩:=wP H;exact⟨x,b,a,d,⟨m+1,λn j=>by
      obtain⟨k,rfl⟩:∃k,n=k+1:=⟨n-1,ω⟩;simp only[iC,hc,ho];exact g k ω⟩,i⟩
    ·rename_i fn args h3 ho;obtain⟨r,t,⟨q,p⟩,H⟩:=H;cases r with
     |ret v=>
      obtain⟨x,b,a,d,⟨m,g⟩,i⟩:=wP H;exact⟨x,b,a,d,⟨m+q+1,λn j=>by
       obtain⟨k,rfl⟩:∃k,n=k+1:=⟨n-1,ω⟩;simp only[iC,hc,ho,p k ω];exact g k ω⟩,i⟩
     |panic v=>
      exact⟨_,_,_,_,⟨q+1,λn j=>by
       obtain⟨k,rfl⟩:∃k,n=k+1:=⟨n-1,ω⟩;simp only[iC,hc,ho,p k ω]⟩,H⟩
    ·rename_i f args ho;obtain⟨s,H⟩:=H;subst s;obtain⟨x,b,a,d,⟨m,g⟩,i⟩:=wP H;exact⟨x,b,a,d,⟨m+1,λn j=>by
      obtain⟨k,rfl⟩:∃k,n=k+1:=⟨n-1,ω⟩;simp only[iC,hc,ho];exact g k ω⟩,i⟩
    ·rename_i v h3 ho;exact⟨_,_,_,_,⟨1,λn j=>by
      obtain⟨k,rfl⟩:∃k,n=k+1:=⟨n-1,ω⟩;simp only[iC,hc,ho]⟩,H⟩
    ·exact H.elim
  ·exact H.elim
def Ih{base:Nat}{ops:List bg}{bf:List Nat}{Q:Env->Heap->Prop}:∀{is:List Nat} {rs:List Rec} {e:Env} {h:Heap},wpD T base ops bf Q is rs e h->∃d f,EvD T base ops is bf rs e h (.normal,d,f)/\Q d f
 |[],rs,e,h,H=>⟨e,h,⟨1,λn g=>by obtain⟨k,rfl⟩:∃k,n=k+1:=⟨n-1,ω⟩;simp only[fG]⟩,H⟩
 |i::is,rs,e,h,H=>by
  simp only[wpD]at H;split at H
  ·rename_i o mask ho hm;unfold wpG at H;split at H
   ·rename_i c hc;have fin:∀{b:List Rec} {j:Env} {h1:Heap},wpD T base ops bf Q is b j h1->(∃m,∀n,m<=n->∀r,fG T n base ops is bf b j h1=some r->fG T (n+1) base ops (i::is) bf rs e h=some r)->∃d f,EvD T base ops (i::is) bf rs e h (.normal,d,f)/\Q d f:=λt ⟨u,s⟩=>by
     obtain⟨d,f,⟨m,h1⟩,l⟩:=Ih t;exact⟨d,f,⟨m+u+1,λn g=>by
      obtain⟨k,rfl⟩:∃k,n=k+1:=⟨n-1,ω⟩;exact s k ω _ (h1 k ω)⟩,l⟩
    cases c with
    |false=>
     exact fin (H.1 rfl) ⟨0,λn _ r a=>by simp only[fG,ho,hm,hc];exact a⟩
    |true=>
     have H:=H.2 rfl;unfold ZL at H;split at H
     ·rename_i he;split at H
      ·rename_i v h3 hop;split at H
       ·rename_i hnw;exact fin H.2 ⟨0,λn _ r a=>by simp only[fG,ho,hm,hc,he,hop,hnw,H.1,cond_true];exact a⟩
       ·rename_i hnw;exact fin H.2 ⟨0,λn _ r a=>by
         have p:Nat.beq h3.next h.next=true:=by rw[beq_eq];simpa using H.1
         simp only[fG,ho,hm,hc,he,hop,hnw,p,cond_true,cond_false];exact a⟩
      ·exact H.elim
     ·rename_i he;split at H
      ·rename_i v h3 hop;split at H
       ·rename_i b hrs;exact fin H ⟨0,λn _ r a=>by simp only[fG,ho,hm,hc,he,hop,hrs,cond_false];exact a⟩
       ·exact H.elim
      ·rename_i fn args h3 hop;obtain⟨r,x,⟨w,q⟩,H⟩:=H;unfold kD at H;split at H
       ·rename_i v;split at H
        ·rename_i b hrs;exact fin H ⟨w,λn g r a=>by simp only[fG,ho,hm,hc,he,hop,q n g,hrs,cond_false];exact a⟩
        ·exact H.elim
       ·exact H.elim
      ·exact H.elim
   ·exact H.elim
  ·exact H.elim
def uI{base:Nat}{rnd:Option Nat}:∀{c:aZ} {Q:XQ} {e:Env} {j:Dfs} {h:Heap},wpE T base rnd c Q e j h->XW T base rnd c e j h Q
 | .skip,Q,e,j,h,H=>⟨_,_,_,_,⟨1,λn l=>by obtain⟨k,rfl⟩:∃k,n=k+1:=⟨n-1,ω⟩;simp only[di]⟩,H⟩
 | .exit i,Q,e,j,h,H=>⟨_,_,_,_,⟨1,λn l=>by obtain⟨k,rfl⟩:∃k,n=k+1:=⟨n-1,ω⟩;simp only[di]⟩,H⟩
 | .ret,Q,e,j,h,H=>⟨_,_,_,_,⟨1,λn l=>by obtain⟨k,rfl⟩:∃k,n=k+1:=⟨n-1,ω⟩;simp only[di]⟩,H⟩
 | .loop b,Q,e,j,h,H=>H
 | .rangeFunc f ps a b,Q,e,j,h,H=>H
 | .rangeMap o i x k ou nx pr o2 k2 b,Q,e,j,h,H=>H
 | .scope b,Q,e,j,h,H=>by
   obtain⟨x,q,p,r,⟨m,d⟩,g⟩:=uI (c:=b) H;exact⟨_,_,_,_,⟨m+1,λn l=>by
    obtain⟨k,rfl⟩:∃k,n=k+1:=⟨n-1,ω⟩;simp only[di,d k ω]⟩,g⟩
 | .region ops keep,Q,e,j,h,H=>by
   obtain⟨x,q,p,r,⟨m,d⟩,g⟩:=wP H;cases x with
   |normal=>exact⟨_,_,_,_,⟨m+1,λn l=>by
    obtain⟨k,rfl⟩:∃k,n=k+1:=⟨n-1,ω⟩;simp only[di,d k ω]⟩,g⟩
   |_=>exact⟨_,_,_,_,⟨m+1,fun n l=>by
     obtain⟨k,rfl⟩:∃k,n=k+1:=⟨n-1,ω⟩;simp only[di,d k ω]⟩,g⟩
 | .draw ops order bf keep,Q,e,j,h,H=>by
   obtain⟨q,r,⟨m,d⟩,g⟩:=Ih H;exact⟨_,_,_,_,⟨m+1,λn l=>by
    obtain⟨k,rfl⟩:∃k,n=k+1:=⟨n-1,ω⟩;simp only[di,d k ω]⟩,g⟩
 | .seq a b,Q,e,j,h,H=>by
   obtain⟨x,q,p,r,⟨m,d⟩,g⟩:=uI (c:=a) H;cases x with
   |normal=>
    obtain⟨A,e2,u,z,⟨y,v⟩,w⟩:=uI (c:=b) g;exact⟨_,_,_,_,⟨m+y+1,λn l=>by
     obtain⟨k,rfl⟩:∃k,n=k+1:=⟨n-1,ω⟩;simp only[di,d k ω];exact v k ω⟩,w⟩
   |_=>exact⟨_,_,_,_,⟨m+1,fun n l=>by
     obtain⟨k,rfl⟩:∃k,n=k+1:=⟨n-1,ω⟩;simp only[di,d k ω]⟩,g⟩
 | .cond c a b,Q,e,j,h,H=>by
   simp only[wpE]at H;unfold wpC at H;split at H
   ·rename_i t ht;cases t with
    |true=>
     obtain⟨x,q,p,r,⟨m,d⟩,g⟩:=uI (c:=a) (H.1 rfl);exact⟨_,_,_,_,⟨m+1,λn l=>by
      obtain⟨k,rfl⟩:∃k,n=k+1:=⟨n-1,ω⟩;simp only[di,ht];exact d k ω⟩,g⟩
    |false=>
     obtain⟨x,q,p,r,⟨m,d⟩,g⟩:=uI (c:=b) (H.2 rfl);exact⟨_,_,_,_,⟨m+1,λn l=>by
      obtain⟨k,rfl⟩:∃k,n=k+1:=⟨n-1,ω⟩;simp only[di,ht];exact d k ω⟩,g⟩
   ·exact H.elim
 | .block id b,Q,e,j,h,H=>by
   obtain⟨x,q,p,r,⟨m,d⟩,g⟩:=uI (c:=b) H;cases x with
   |exit i=>
    by_cases hi:i=id
    ·exact⟨_,_,_,_,⟨m+1,λn l=>by
      obtain⟨k,rfl⟩:∃k,n=k+1:=⟨n-1,ω⟩;have s:Nat.beq i id=true:=by rw[beq_eq];simpa using hi
      simp only[di,d k ω,s,cond_true]⟩,g.1 hi⟩
    ·exact⟨_,_,_,_,⟨m+1,λn l=>by
      obtain⟨k,rfl⟩:∃k,n=k+1:=⟨n-1,ω⟩;have s:Nat.beq i id=false:=by rw[beq_eq];simpa using hi
      simp only[di,d k ω,s,cond_false]⟩,g.2 hi⟩
   |_=>exact⟨_,_,_,_,⟨m+1,fun n l=>by
     obtain⟨k,rfl⟩:∃k,n=k+1:=⟨n-1,ω⟩;simp only[di,d k ω]⟩,g⟩
variable{b:aZ}
def XW.loop(I:Nat->Env->Dfs->Heap->Prop)
 (hr:∀k e a h,I k e a h->XW T base rnd b e a h λx f c g=>match x with| .normal=>∃d,d<k/\I d f c g|x=>Q x f c g):
 ∀{k:Nat} {e:Env} {a:Dfs} {h:Heap},I k e a h->XW T base rnd (.loop b) e a h Q:=by
 intro k;induction k using Nat.strongRecOn with
 |ind k ih=>
  intro e a h r;obtain⟨x,f,c,g,⟨m,j⟩,l⟩:=hr k e a h r;cases x with
  |normal=>
   obtain⟨d,s,i⟩:=l;obtain⟨w,e2,o,v,⟨u,p⟩,q⟩:=ih d s i;exact⟨_,_,_,_,⟨m+u+1,λn t=>by
    obtain⟨k,rfl⟩:∃k,n=k+1:=⟨n-1,ω⟩;simp only[di,j k ω];exact p k ω⟩,q⟩
  |_=>exact⟨_,_,_,_,⟨m+1,fun n t=>by
    obtain⟨k,rfl⟩:∃k,n=k+1:=⟨n-1,ω⟩;simp only[di,j k ω]⟩,l⟩
def XW.aby{a:aZ}{g:Dfs}
 (H:XW T base rnd a e g h λx d c f=>match x with| .normal=>XW T base rnd b d c f Q|x=>Q x d c f):XW T base rnd (.seq a b) e g h Q:=by
 obtain⟨x,d,c,f,⟨m,i⟩,j⟩:=H;cases x with
 |normal=>
  obtain⟨t,e2,l,s,⟨r,o⟩,p⟩:=j;exact⟨_,_,_,_,⟨m+r+1,λn q=>by
   obtain⟨k,rfl⟩:∃k,n=k+1:=⟨n-1,ω⟩;simp only[di,i k ω];exact o k ω⟩,p⟩
 |_=>exact⟨_,_,_,_,⟨m+1,fun n q=>by
   obtain⟨k,rfl⟩:∃k,n=k+1:=⟨n-1,ω⟩;simp only[di,i k ω]⟩,j⟩
def FW.func{Q:Res->Heap->Prop}(H:CW T f args h Q):FW T (.func f) args h Q:=by
 obtain⟨r,a,⟨m,b⟩,c⟩:=H;exact⟨r,a,⟨m+1,λn d=>by
  obtain⟨k,rfl⟩:∃k,n=k+1:=⟨n-1,ω⟩;simp only[iw];exact b k ω⟩,c⟩
def zb(rs:List (Nat×Option (Option Nat)))(h:Heap)(Q:Res->Heap->Prop):bO->Env->Dfs->Heap->Prop:=λx e ds h1=>
 match x with
 | .exit _=>False
 | .panic v=>match ds with
   |[]=>Q (.panic v) h1
   |_=>False
 |_=>match ds with
  |[]=>match cI h1 e rs with
   |some vs=>Q (.ret (fB vs)) (gcA h h1 (fB vs))
   |none=>False
  |_=>False
def CW.code{Q:Res->Heap->Prop}{rs:List (Nat×Option (Option Nat))}(b:T f=some (.code c rs))
 (H:XW T h.next none c (fu 0 args) [] h (zb rs h Q)):CW T f args h Q:=by
 obtain⟨x,e,ds,g,⟨m,a⟩,H⟩:=H;unfold zb at H;cases x with
 |exit _=>exact H.elim
 |panic v=>
  dsimp only at H;split at H
  ·refine⟨_,_,⟨m+2,λn d=> ?_⟩,H⟩;obtain⟨k,rfl⟩:∃k,n=k+2:=⟨n-2,ω⟩;have:=a (k+1) ω;simp only[jM,this,rL,b]
  ·exact H.elim
 |normal=>
  dsimp only at H;split at H
  ·split at H
   ·rename_i vs hvs;refine⟨_,_,⟨m+2,λn d=> ?_⟩,H⟩;obtain⟨k,rfl⟩:∃k,n=k+2:=⟨n-2,ω⟩;have:=a (k+1) ω;simp only[jM,this,rL,b,hvs]
   ·exact H.elim
  ·exact H.elim
 |ret=>
  dsimp only at H;split at H
  ·split at H
   ·rename_i vs hvs;refine⟨_,_,⟨m+2,λn d=> ?_⟩,H⟩;obtain⟨k,rfl⟩:∃k,n=k+2:=⟨n-2,ω⟩;have:=a (k+1) ω;simp only[jM,this,rL,b,hvs]
   ·exact H.elim
  ·exact H.elim
end Go.A
end
section
namespace Go.A
variable {T:Nat->Option aq} {base:Nat} {rnd:Option Nat} {Q:XQ} {e:Env} {ds:Dfs} {h:Heap} {c:aZ}
structure WE (T:Nat->Option aq) (base:Nat) (rnd:Option Nat) (c:aZ) (Q:XQ) (e:Env) (ds:Dfs) (h:Heap):Prop where
 ok:XW T base rnd c e ds h Q
structure WO (T:Nat->Option aq) (base:Nat) (rnd:Option Nat) (Q:XQ) (ops:List bg) (e:Env) (ds:Dfs) (h:Heap):Prop where
 ok:∃x e' ds' h',EvO T base rnd ops e ds h (x,e',ds',h')/\Q x e' ds' h'
structure WD (T:Nat->Option aq) (base:Nat) (ops:List bg) (bf:List Nat) (Q:Env->Heap->Prop) (is:List Nat) (rs:List Rec) (e:Env) (h:Heap):Prop where
 ok:∃e' h',EvD T base ops is bf rs e h (.normal,e',h')/\Q e' h'
structure KR (keep:List Nat) (Q:XQ) (x:bO) (e:Env) (ds:Dfs) (h:Heap):Prop where
 ok:kR keep Q x e ds h
structure KS (K:Env->Dfs->Heap->Prop) (Q:XQ) (x:bO) (e:Env) (ds:Dfs) (h:Heap):Prop where
 ok:kS K Q x e ds h
structure KB (i:Nat) (Q:XQ) (x:bO) (e:Env) (ds:Dfs) (h:Heap):Prop where
 ok:kB i Q x e ds h
structure KO (K:Env->Dfs->Heap->Prop) (Q:XQ) (base:Nat) (dst:Option Nat) (e:Env) (ds:Dfs) (log:List Nat) (r:Res) (h:Heap):Prop where
 ok:kO K Q base dst e ds log r h
structure KD (K:List Rec->Env->Heap->Prop) (base:Nat) (mask:Nat) (rs:List Rec) (dst:Option Nat) (e:Env) (log:List Nat) (r:Res) (h:Heap):Prop where
 ok:kD K base mask rs dst e log r h
def WE.of(H:wpE T base rnd c Q e ds h):WE T base rnd c Q e ds h:=⟨uI H⟩
def TR(H:Q .normal e ds h):WE T base rnd .skip Q e ds h:= .of H
variable{i:Nat}
def D6(H:Q (.exit i) e ds h):WE T base rnd (.exit i) Q e ds h:= .of H
def pq(H:Q .ret e ds h):WE T base rnd .ret Q e ds h:= .of H
variable{b:aZ}
def AO{a:aZ}(H:WE T base rnd a (KS (WE T base rnd b Q) Q) e ds h):WE T base rnd (.seq a b) Q e ds h:=by
 refine⟨XW.aby (H.ok.mono λx e ds h c=> ?_)⟩;cases x<;>first|exact c.ok.ok|exact c.ok
variable{ops:List bg}
def tQ{keep:List Nat}(H:WO T base rnd (KR keep Q) ops e ds h):WE T base rnd (.region ops keep) Q e ds h:=by
 obtain⟨x,f,c,g,⟨m,a⟩,⟨b⟩⟩:=H.ok;cases x with
 |normal=>exact⟨_,_,_,_,⟨m+1,λn d=>by
  obtain⟨k,rfl⟩:∃k,n=k+1:=⟨n-1,ω⟩;simp only[di,a k ω]⟩,b⟩
 |_=>exact⟨_,_,_,_,⟨m+1,fun n d=>by
   obtain⟨k,rfl⟩:∃k,n=k+1:=⟨n-1,ω⟩;simp only[di,a k ω]⟩,b⟩
def oe(H:WE T base rnd b (KB i Q) e ds h):WE T base rnd (.block i b) Q e ds h:=by
 obtain⟨x,l,g,o,⟨m,a⟩,⟨c⟩⟩:=H.ok;cases x with
 |exit j=>
  by_cases hi:j=i
  ·exact⟨_,_,_,_,⟨m+1,λn f=>by
    obtain⟨k,rfl⟩:∃k,n=k+1:=⟨n-1,ω⟩;have d:Nat.beq j i=true:=by rw[beq_eq];simpa using hi
    simp only[di,a k ω,d,cond_true]⟩,c.1 hi⟩
  ·exact⟨_,_,_,_,⟨m+1,λn f=>by
    obtain⟨k,rfl⟩:∃k,n=k+1:=⟨n-1,ω⟩;have d:Nat.beq j i=false:=by rw[beq_eq];simpa using hi
    simp only[di,a k ω,d,cond_false]⟩,c.2 hi⟩
 |_=>exact⟨_,_,_,_,⟨m+1,fun n f=>by
   obtain⟨k,rfl⟩:∃k,n=k+1:=⟨n-1,ω⟩;simp only[di,a k ω]⟩,c⟩
def JD{c:Operand}{a:aZ}{t:Bool}(i:ev h e c=some (.bool t))(h1:t=true->WE T base rnd a Q e ds h)(o:t=false->WE T base rnd b Q e ds h):WE T base rnd (.cond c a b) Q e ds h:=by
 cases t with
 |true=>
  obtain⟨x,j,d,l,⟨m,f⟩,g⟩:=(h1 rfl).ok;exact⟨_,_,_,_,⟨m+1,λn p=>by
   obtain⟨k,rfl⟩:∃k,n=k+1:=⟨n-1,ω⟩;simp only[di,i];exact f k ω⟩,g⟩
 |false=>
  obtain⟨x,j,d,l,⟨m,f⟩,g⟩:=(o rfl).ok;exact⟨_,_,_,_,⟨m+1,λn p=>by
   obtain⟨k,rfl⟩:∃k,n=k+1:=⟨n-1,ω⟩;simp only[di,i];exact f k ω⟩,g⟩
def TS{c:Operand}{a:aZ}(d:ev h e c=some (.bool true))(h1:WE T base rnd a Q e ds h):WE T base rnd (.cond c a b) Q e ds h:=JD d (λ_=>h1) (λh=>by cases h)
def Qs{c:Operand}{a:aZ}(d:ev h e c=some (.bool false))(h1:WE T base rnd b Q e ds h):WE T base rnd (.cond c a b) Q e ds h:=JD d (λh=>by cases h) (λ_=>h1)
variable{bf is:List Nat}
def TQ{keep:List Nat}(H:WD T base ops bf (λa b=>KR keep Q .normal a ds b) is [] e h):WE T base rnd (.draw ops is bf keep) Q e ds h:=by
 obtain⟨a,b,⟨m,c⟩,⟨d⟩⟩:=H.ok;exact⟨_,_,_,_,⟨m+1,λn f=>by
  obtain⟨k,rfl⟩:∃k,n=k+1:=⟨n-1,ω⟩;simp only[di,c k ω]⟩,d⟩
def aY(I:Nat->Env->Dfs->Heap->Prop){k:Nat}(hI:I k e ds h)
 (hr:∀k e ds h,I k e ds h->WE T base rnd b (KS (λe' ds' h'=>∃k',k'<k/\I k' e' ds' h') Q) e ds h):WE T base rnd (.loop b) Q e ds h:=
 ⟨XW.loop I (λk e ds h hI=>((hr k e ds h hI).ok.mono λx e ds h a=>by cases x<;>exact a.ok)) hI⟩
def WE.mono{c:aZ}{a:XQ}(H:WE T base rnd c a e ds h)(b:∀x e ds h,a x e ds h->Q x e ds h):WE T base rnd c Q e ds h:=⟨H.ok.mono b⟩
def YK{keep:List Nat}{a:Env}(b:cZ e keep=a)(H:Q .normal a ds h):KR keep Q .normal e ds h:=by subst b;exact⟨H⟩
variable{K:Env->Dfs->Heap->Prop}
def wj(H:K e ds h):KS K Q .normal e ds h:=⟨H⟩
def abo(H:Q .ret e ds h):KS K Q .ret e ds h:=⟨H⟩
def GZ(H:Q (.exit i) e ds h):KS K Q (.exit i) e ds h:=⟨H⟩
def Nt(H:Q .normal e ds h):KB i Q .normal e ds h:=⟨H⟩
def abn(H:Q .ret e ds h):KB i Q .ret e ds h:=⟨H⟩
def Ns(H:Q .normal e ds h):KB i Q (.exit i) e ds h:=⟨⟨λ_=>H,λh=>(h rfl).elim⟩⟩
def YI{j:Nat}(a:Nat.beq j i=false)(H:Q (.exit j) e ds h):KB i Q (.exit j) e ds h:=by
 rw[beq_eq]at a;simp only[decide_eq_false_iff_not]at a;exact⟨⟨λh=>(a h).elim,λ_=>H⟩⟩
def bA(H:Q .normal e ds h):WO T base rnd Q [] e ds h:=⟨wP (T:=T) (base:=base) (rnd:=rnd) (ops:=[]) H⟩
variable{dst:Option Nat}{op:AOp}{os:List bg}{v:Value}{h':Heap}
def aG(f:aop h base e op=some (.val v h'))(H:WO T base rnd Q os (cN e dst v) ds h'):WO T base rnd Q (⟨dst,op,none⟩::os) e ds h:=by
 obtain⟨x,b,a,h',⟨m,c⟩,d⟩:=H.ok;exact⟨x,b,a,h',⟨m+1,λn g=>by
  obtain⟨k,rfl⟩:∃k,n=k+1:=⟨n-1,ω⟩;simp only[iC,cg,f];exact c k ω⟩,d⟩
variable{fn:Fn}{args:List Value}
def oK(c:aop h base e op=some (.call fn args h'))(H:FW T fn args {h' with log:=[]} (KO (WO T base rnd Q os) Q base dst e ds h'.log)):WO T base rnd Q (⟨dst,op,none⟩::os) e ds h:=by
 obtain⟨r,l,⟨d,b⟩,⟨H⟩⟩:=H;cases r with
 |ret v=>
  obtain⟨x,f,a,h',⟨m,g⟩,i⟩:=WO.ok H;exact⟨x,f,a,h',⟨m+d+1,λn j=>by
   obtain⟨k,rfl⟩:∃k,n=k+1:=⟨n-1,ω⟩;simp only[iC,cg,c,b k ω];exact g k ω⟩,i⟩
 |panic v=>
  exact⟨_,_,_,_,⟨d+1,λn j=>by
   obtain⟨k,rfl⟩:∃k,n=k+1:=⟨n-1,ω⟩;simp only[iC,cg,c,b k ω]⟩,H⟩
variable{t:Nat}
def ZE{b:Bool}(j:geT e t=some (.bool b))(H:WO T base rnd Q (⟨dst,op,none⟩::os) e ds h):WO T base rnd Q (⟨dst,op,some (t,b)⟩::os) e ds h:=by
 obtain⟨x,c,a,d,⟨m,f⟩,g⟩:=H.ok;exact⟨x,c,a,d,⟨m+1,λn l=>by
  obtain⟨k,rfl⟩:∃k,n=k+1:=⟨n-1,ω⟩;have:=f (k+1) ω;have i:(b==b)=true:=by simp
  simp only[iC,cg]at this;simp only[iC,cg,j,i];exact this⟩,g⟩
def WZ{b x:Bool}(j:geT e t=some (.bool x))(l:x= !b)(H:WO T base rnd Q os (cN e dst (.tuple #[])) ds h):WO T base rnd Q (⟨dst,op,some (t,b)⟩::os) e ds h:=by
 obtain⟨o,c,a,d,⟨m,f⟩,g⟩:=H.ok;exact⟨o,c,a,d,⟨m+1,λn p=>by
  obtain⟨k,rfl⟩:∃k,n=k+1:=⟨n-1,ω⟩;have i:(x==b)=false:=by subst l;cases b<;>rfl
  simp only[iC,cg,j,i];exact f k ω⟩,g⟩
variable{rs:List Rec}
def pn{Q:Env->Heap->Prop}(H:Q e h):WD T base ops bf Q [] rs e h:=⟨Ih (T:=T) (base:=base) (ops:=ops) (bf:=bf) (is:=[]) (rs:=rs) H⟩
variable{h1:Heap}
def vK{a:List Rec}{Q:Env->Heap->Prop}{c:Env}(b:∃m,∀n,m<=n->∀r,fG T n base ops is bf a c h1=some r->fG T (n+1) base ops (i::is) bf rs e h=some r)
 (H:WD T base ops bf Q is a c h1):WD T base ops bf Q (i::is) rs e h:=by
 obtain⟨d,f,⟨m,j⟩,l⟩:=H.ok;obtain⟨g,b⟩:=b;exact⟨d,f,⟨m+g+1,λn o=>by
  obtain⟨k,rfl⟩:∃k,n=k+1:=⟨n-1,ω⟩;exact b k ω _ (j k ω)⟩,l⟩
variable{a:Nat}{g:Option (Nat×Bool)}
def WX{Q:Env->Heap->Prop}{b:Env}(f:bN ops i=some ⟨dst,op,g⟩)(d:bN bf i=some a)(c:cZ e (dK ⟨dst,op,g⟩)=b)(k:cg b g=some false)
 (H:WD T base ops bf Q is (⟨i,⟨dst,op,g⟩,b, .tuple #[], .skip⟩::rs) (cN e dst (.tuple #[])) h):WD T base ops bf Q (i::is) rs e h:=by
 subst c;exact vK ⟨0,λn _ r j=>by simp only[fG,f,d,k];exact j⟩ H
def bI{Q:Env->Heap->Prop}{b:Env}(l:bN ops i=some ⟨dst,op,g⟩)(j:bN bf i=some a)(f:cZ e (dK ⟨dst,op,g⟩)=b)(p:cg b g=some true)
 (m:lJ op=true)(k:dX op=false)(c:aop h base b op=some (.val v h))(H:WD T base ops bf Q is (⟨i,⟨dst,op,g⟩,b,v, .quiet⟩::rs) (cN e dst v) h):WD T base ops bf Q (i::is) rs e h:=by
 subst f;have d:Nat.beq h.next h.next=true:=by rw[beq_eq];simp
 exact vK ⟨0,λn _ r o=>by simp only[fG,l,j,p,m,c,k,d,cond_true,cond_false];exact o⟩ H
def ru{Q:Env->Heap->Prop}{b:Env}(l:bN ops i=some ⟨dst,op,g⟩)(j:bN bf i=some a)(f:cZ e (dK ⟨dst,op,g⟩)=b)(p:cg b g=some true)
 (m:lJ op=true)(k:dX op=true)(c:aop h base b op=some (.val v h'))(d:rG h' base rs=true)(H:WD T base ops bf Q is (⟨i,⟨dst,op,g⟩,b,v, .made h.next⟩::rs) (cN e dst v) h'):WD T base ops bf Q (i::is) rs e h:=by
 subst f;exact vK ⟨0,λn _ r o=>by simp only[fG,l,j,p,m,c,k,d,cond_true];exact o⟩ H
variable{d:Env}
def WW{c:List Rec}{Q:Env->Heap->Prop}{b:Heap}(m:bN ops i=some ⟨dst,op,g⟩)(l:bN bf i=some a)(k:cZ e (dK ⟨dst,op,g⟩)=d)(q:cg d g=some true)
 (o:lJ op=false)(f:aop (η h) h.next d op=some (.val v b))(j:bL {b with log:=aJ base h.log b.log} base b.log a rs=some c)
 (H:WD T base ops bf Q is c (cN e dst v) {b with log:=aJ base h.log b.log}):WD T base ops bf Q (i::is) rs e h:=by
 subst k;exact vK ⟨0,λn _ r p=>by simp only[fG,m,l,q,o,f,j,cond_false];exact p⟩ H
def TP{Q:Env->Heap->Prop}{b:Env}{d:Heap}(m:bN ops i=some ⟨dst,op,g⟩)(k:bN bf i=some a)(f:cZ e (dK ⟨dst,op,g⟩)=b)(q:cg b g=some true)
 (o:lJ op=false)(c:aop (η h) h.next b op=some (.call fn args d))(H:FW T fn args (η h) (KD (WD T base ops bf Q is) base a rs dst e h.log)):WD T base ops bf Q (i::is) rs e h:=by
 subst f;obtain⟨r,t,⟨s,j⟩,⟨H⟩⟩:=H;unfold kD at H;split at H
 ·split at H
  ·rename_i rs' hrs;exact vK ⟨s,λn l r p=>by simp only[fG,m,k,q,o,c,j n l,hrs,cond_false];exact p⟩ H
  ·exact H.elim
 ·exact H.elim
def qZ9{Q:Env->Heap->Prop}{b:Env}(l:bN ops i=some ⟨dst,op,g⟩:=by rfl)(j:bN bf i=some a:=by rfl)(f:cZ e (dK ⟨dst,op,g⟩)=b:=by rfl)(p:cg b g=some true:=by rfl)
 (m:lJ op=true:=by rfl)(k:dX op=false:=by rfl)(c:aop h base b op=some (.val v h))(H:WD T base ops bf Q is (⟨i,⟨dst,op,g⟩,b,v, .quiet⟩::rs) (cN e dst v) h):WD T base ops bf Q (i::is) rs e h:=bI l j f p m k c H
variable{r:bO×Env×Dfs×Heap}
def kI{N:Nat}{a:Dfs}(H:∀n,(rV T (n+N)).exec base rnd c e a h=some r):Ev T base rnd c e a h r:=
 ⟨N,λn b=>by
  have:=H (n-N);rw[IN,show n-N+N=n by omega]at this;exact this⟩
def lK{b a:Dfs}(i:c= .seq (cL c) (cR c))(f:Ev T base rnd (cL c) e b h (.normal,d,a,h1))(g:Ev T base rnd (cR c) d a h1 r):Ev T base rnd c e b h r:=by
 obtain⟨j,m⟩:=f;obtain⟨l,o⟩:=g;refine⟨j+l+1,λn p=> ?_⟩;obtain⟨k,rfl⟩:∃k,n=k+1:=⟨n-1,ω⟩;rw[i];simp only[di,m k ω];exact o k ω
def CW.abt{f:Nat}{Q:Res->Heap->Prop}{rs:List (Nat×Option (Option Nat))}{x:bO}{a:Dfs}(b:T f=some (.code c rs))(H:Ev T h.next none c (fu 0 args) [] h (x,e,a,h1))(d:zb rs h Q x e a h1):CW T f args h Q:=
 CW.code b ⟨x,e,a,h1,H,d⟩
def R.none{P:Program}{w:World}{n:Nat}(a:P.globals.size<=n):R P (λ_=>none) ⟨[],n,[]⟩ w:=
 {big:=a
  mU:=λg o _ h=>by cases h
  obj:=λb o h=>by cases h
  lt:=λb o h=>by cases h
  dom:=λb k h=>by cases h
  mu:=λb c o e k d _ h=>by cases h}
end Go.A
end
section
namespace Go.A
variable {T:Nat->Option aq} {base:Nat} {rnd:Option Nat} {Q:XQ} {e:Env} {ds:Dfs} {h:Heap}
def Heap.fZ(h:Heap)(o:bT):(h.push o).get h.next=some o:=by rw[Heap.dU,if_pos rfl]
def Heap.eF{o:bT}{x:Nat}(a:x<h.next):(h.push o).get x=h.get x:=by rw[Heap.dU,if_neg ω]
def Heap.aM{b:Nat}{o o':bT}(hb:h.get b=some o'):(h.wr base b o).get b=some o:=by rw[Heap.nJ,if_pos rfl,hb];rfl
def Heap.E8(h:Heap)(base b:Nat)(o:bT):(h.wr base b o).get b=(h.get b).map λ_=>o:=by rw[Heap.nJ,if_pos rfl]
def Heap.eH{b:Nat}{o:bT}{x:Nat}(a:x≠b):(h.wr base b o).get x=h.get x:=by rw[Heap.nJ,if_neg a]
def Heap.zH(h:Heap)(o:bT):(h.push o).log=h.log:=rfl
def Heap.aA{b:Nat}{o:bT}(hb:base<=b):(h.wr base b o).log=h.log:=by
 simp only[Heap.wr,blt_eq];rw[decide_eq_false ω];rfl
variable{x:Operand}{v:Value}
def dM(a:ev h e x=some v):aop h base e (.mov x)=some (.val v h):=by simp only[aop,a,dD]
def xR{c a b:Operand}(d:ev h e c=some (.bool true))(f:ev h e a=some v):aop h base e (.pick c a b)=some (.val v h):=by simp only[aop,d,f,dD]
def Ck{c a b:Operand}(d:ev h e c=some (.bool false))(f:ev h e b=some v):aop h base e (.pick c a b)=some (.val v h):=by simp only[aop,d,f,dD]
variable{z:List Value}
def wT:aop h base e (.new z)=some (.val (.pointer (some ⟨h.next,0,none⟩)) (h.push (.cells z true 1))):=rfl
variable{vs:List Value}
def Xv(b:ev h e x=some v)(a:cellsOf v=vs):aop h base e (.box x)=some (.val (.pointer (some ⟨h.next,0,none⟩)) (h.push (.cells vs true 1))):=by simp only[aop,b,dD,a]
def mS{cs:List Value}{ps:List (Nat×Nat×Operand)}(a:jO h e z ps=some cs):aop h base e (.build z ps)=some (.val (.agg cs.toArray) h):=by simp only[aop,a]
variable{m:Nat}
def kA{cs:List Value}{n:Nat}{ps:List (Nat×Nat×Operand)}(a:jO h e (eR n z) ps=some cs)(b:bS z=m):aop h base e (.dy z n ps)=some (.val (.slice (some ⟨h.next,0,none⟩) n n) (h.push (.cells cs true m))):=by simp only[aop,a,b]
variable{sz:Nat}{own:Bool}
def cw{b o:Nat}(c:ev h e x=some (.pointer (some ⟨b,o,none⟩)))(hb:h.get b=some (.cells vs own sz))(a:bN vs o=some v):aop h base e (.load none x)=some (.val v h):=by
 simp only[aop,c,dD,sw,hb,a]
def bW{n b o:Nat}{l:List Value}(d:ev h e x=some (.pointer (some ⟨b,o,none⟩)))(hb:h.get b=some (.cells vs own sz))(c:cm n (bQ o vs)=l)(a:Nat.beq (bS l) n=true):
 aop h base e (.load (some n) x)=some (.val (.agg l.toArray) h):=by
 simp only[aop,d,dD,sw,hb,c,a,cond_true]
variable{y:Operand}
def kC{n b o:Nat}{ws:List Value}(d:ev h e x=some (.pointer (some ⟨b,o,none⟩)))(f:ev h e y=some v)(hb:h.get b=some (.cells vs true sz))
 (a:(Nat.beq (bS (cellsOf v)) n&&Nat.ble (o+n) (bS vs)&&eN (cellsOf v))=true)(c:dP vs o (cellsOf v)=ws):aop h base e (.store n x y)=some (.val (.tuple #[]) (h.wr base b (.cells ws true sz))):=by
 simp only[aop,d,f,dD,uG,hb,a,c,cond_true]
def rD{op:BinOp}{a b:Value}(d:ev h e x=some a)(f:ev h e y=some b)(c:af op a b=some v):aop h base e (.bin (.num op) x y)=some (.val v h):=by simp only[aop,d,f,dD,c]
variable{u:Value}
def Ep{k:NK}{a b:Bool}(d:ev h e x=some v)(f:ev h e y=some u)(c:sG k v u=some b):aop h base e (.bin (.nil k a) x y)=some (.val (.bool (bif a then !b else b)) h):=by simp only[aop,d,f,dD,c]
def Xu{a b:Bool}{c:List eS}{xs d:Array Value}(g:ev h e x=some (.agg xs))(i:ev h e y=some (.agg d))(f:bU c xs.toList d.toList=some b):aop h base e (.bin (.agg a c) x y)=some (.val (.bool (bif a then !b else b)) h):=by
 simp only[aop,g,i,dD,f]
def Uq{b:Bool}(a:ev h e x=some (.bool b)):aop h base e (.un .not x)=some (.val (.bool !b) h):=by simp only[aop,a,dD,vH]
def dL{off b o:Nat}(a:ev h e x=some (.pointer (some ⟨b,o,none⟩))):aop h base e (.dN off x)=some (.val (.pointer (some ⟨b,o+off,none⟩)) h):=by simp only[aop,a]
variable{i size:Nat}{k:IntKind}
def gU{b o len cap:Nat}(c:ev h e x=some (.slice (some ⟨b,o,none⟩) len cap))(a:ev h e y=some (.int k (i:Nat)))(hi:i<len):aop h base e (.aC size x y)=some (.val (.pointer (some ⟨b,o+i*size,none⟩)) h):=by
 have:(.int k (i:Nat):Value)= .int k (Int.ofNat i):=rfl;rw[this]at a;simp only[aop,c,a,blt_eq,decide_eq_true hi,cond_true]
def A9{vs:Array Value}(b:ev h e x=some (.tuple vs))(a:bN vs.toList i=some v):aop h base e (.extract x i)=some (.val v h):=by simp only[aop,b,dD,a]
def vV{a:Option Addr}{n c:Nat}(b:ev h e x=some (.slice a n c)):aop h base e (.len 1 x)=some (.val (.int .i64 n) h):=by simp only[aop,b]
variable{fn:Fn}
def LQ{fs cs:List Operand}{as a:List Value}(h1:evs h e fs=some as)(b:evs h e cs=some a):aop h base e (.eG fn fs cs)=some (.val (.func fn as.toArray a.toArray) h):=by simp only[aop,h1,b]
def iN{b o:Nat}(a:ev h e x=some (.pointer (some ⟨b,o,none⟩))):aop h base e (.cT x)=some (.val (.pointer (some ⟨b,o,none⟩)) h):=by simp only[aop,a,dD]
variable{g:Nat}{first:Array Value}
def yx{f:Operand}{args:List Operand}{a:Value}{as:List Value}{cap:Array Value}{all:List Value}(c:ev h e f=some a)(b:evs h e args=some as)(i:a= .func (.func g) first cap)(d:eL first.toList (eL as cap.toList)=all):
 aop h base e (.call f args)=some (.call (.func g) all h):=by subst i;simp only[aop,c,b,rX,d]
def aO{n:Int}(h1: -9223372036854775808<=n)(a:n<9223372036854775808):fU .i64 n=n:=by
 rw[vO,IntKind.wrap_i64];omega
def UC{a b:Int}:af .lss (.int k a) (.int k b)=some (.bool (decide (a<b))):=by simp[af,arith,oO]
def UB{a b:Int}:af .leq (.int k a) (.int k b)=some (.bool (decide (a<=b))):=by simp[af,arith,oO]
def NR{a b:Int}:af .gtr (.int k a) (.int k b)=some (.bool (decide (b<a))):=by simp[af,arith,oO]
def BB{a b:Int}:af .geq (.int k a) (.int k b)=some (.bool (decide (b<=a))):=by simp[af,arith,oO]
def xh{a b:Int}:af .eql (.int k a) (.int k b)=some (.bool (a==b)):=by simp[af,arith,oO]
def I7{a b:Int}:af .neq (.int k a) (.int k b)=some (.bool (a !=b)):=by simp[af,arith,oO]
def fK{a b c:Int}(d:fU k (a+b)=c):af .add (.int k a) (.int k b)=some (.int k c):=by simp[af,arith,d]
def jD{a b c:Int}(d:fU k (a-b)=c):af .sub (.int k a) (.int k b)=some (.int k c):=by simp[af,arith,d]
def YP{n:Nat}(a:n<9223372036854775807):af .add (.int .i64 n) (.int .i64 1)=some (.int .i64 (n+1:Nat)):=fK (by rw[aO]<;>omega)
def UP{l m:List (Nat×bT)}(a:l.map (·.1)=m.map (·.1))(c:(m.map (·.1)).Nodup)(h:∀b,b∈m.map (·.1)->fT l b=fT m b):l=m:=by
 induction m generalizing l with
 |nil=>simpa using a
 |cons p m ih=>
  obtain⟨k,o⟩:=p;cases l with
  |nil=>simp at a
  |cons q l=>
   obtain⟨i,s⟩:=q;simp only[xP,List.cons.injEq]at a;obtain⟨j,n⟩:=a;subst j;simp only[xP,Ys]at c;have f:=h i (by simp);simp only[fT,cond_eq_ite,beq_eq,decide_true,if_true]at f;cases f;congr 1;refine ih n c.2 λb g=> ?_;have r:=h b (by simp[g]);have d:i≠b:=λe=>c.1 (e▸g);simpa only[fT,cond_eq_ite,beq_eq,decide_eq_true_eq,if_neg d]using r
structure WF (h:Heap):Prop where
 nodup:(h.cU.map (·.1)).Nodup
 lt:∀b,b∈h.cU.map (·.1)->b<h.next
variable{a:Nat}
def ug{n b:Nat}:b∈dR a n↔a<=b/\b<a+n:=by
 induction n with
 |zero=>simp[dR]
 |succ n ih=>simp[dR,ih];omega
def Cx(a n:Nat):(dR a n).Nodup:=by
 induction n with
 |zero=>simp[dR]
 |succ n ih=>simp only[dR,Ys,ug];exact⟨ω,ih⟩
variable{h':Heap}
def WF.as(e:WF h)(d:AS base h h'):WF h' where
 nodup:=by
  rw[d.keys,List.nodup_append];refine⟨Cx _ _,e.nodup,λa f b c=> ?_⟩;rw[ug]at f;have:=e.lt b c;omega
 lt:=λb c=>by
  rw[d.keys,List.mem_append]at c;have:=d.next
  rcases c with c|c
  ·rw[ug]at c;omega
  ·have:=e.lt b c;omega
def WF.log(a:WF h)(l:List Nat):WF {h with log:=l}:=⟨a.nodup,a.lt⟩
def WF.push{h:Heap}(a:WF h)(o:bT):WF (h.push o):=a.as (AS.push 0 h o)
structure Ext (h h':Heap):Prop where
 next:h.next<=h'.next
 log:h'.log=h.log
 old:∀b,b<h.next->h'.get b=h.get b
 wf:WF h->WF h'
def Ext.refl(h:Heap):Ext h h:=⟨bl _,rfl,λ_ _=>rfl,id⟩
def Ext.trans{a b c:Heap}(h:Ext a b)(g:Ext b c):Ext a c:=⟨gy h.next g.next,g.log.trans h.log,λx d=>(g.old x (m6 d h.next)).trans (h.old x d),λw=>g.wf (h.wf w)⟩
def Ext.push{a b:Heap}(h:Ext a b)(o:bT):Ext a (b.push o):=⟨HP h.next,h.log,λx c=>(Heap.eF (m6 c h.next)).trans (h.old x c),λw=>(h.wf w).push o⟩
def Ext.wr{a b:Heap}(h:Ext a b){base x:Nat}{o:bT}(d:a.next<=x)(hb:base<=x):Ext a (b.wr base x o):=⟨h.next,(Heap.aA hb).trans h.log,λy c=>(Heap.eH ω).trans (h.old y c),λw=>(h.wf w).as (AS.wr base b x o)⟩
def J6{l:List (Nat×bT)}{b:Nat}(hb:b ∉ l.map (·.1)):fT l b=none:=by
 induction l with
 |nil=>rfl
 |cons p l ih=>
  obtain⟨k,o⟩:=p;simp only[xP,Ps,not_or]at hb;simp only[fT,cond_eq_ite,beq_eq,decide_eq_true_eq];rw[if_neg (Ne.symm hb.1)];exact ih hb.2
variable{h1:Heap}
def IU(l:WF h)(i:AS h.next h h1)(j:h1.log=h.log)(f:h.log=[])(q:dA v=true):gcA h h1 v=h:=by
 have d:=i.keys;have e:bQ (h1.next-h.next) h1.cU=h.cU:=by
  rw[aT];have k:(dR h.next (h1.next-h.next)).length=h1.next-h.next:=by
   generalize h1.next-h.next=n
   induction n with
   |zero=>rfl
   |succ n ih=>simp[dR,ih]
  have o:(h1.cU.drop (h1.next-h.next)).map (·.1)=h.cU.map (·.1):=by
   rw[List.map_drop,d,Ej ω,xi ω,D4]
  refine UP o l.nodup λb m=> ?_;have c:=l.lt b m;have p:=i.same b c c (by rw[j,f];rfl);have a:h1.cU=h1.cU.take (h1.next-h.next)++h1.cU.drop (h1.next-h.next):=(Fr _ _).symm;have g:(h1.cU.take (h1.next-h.next)).map (·.1)=dR h.next (h1.next-h.next):=by
   rw[List.map_take,d,q9 ω,go ω]
  have:=ng _ h.next _ (h1.cU.drop (h1.next-h.next)) g b c
  rw[←a]at this;exact this.symm.trans p
 simp only[gcA,q,j,f,gJ,Fd,cond_true,pK,e];cases h;simp at f⊢;exact f
structure Rdy (h:Heap):Prop where
 wf:WF h
 log:h.log=[]
def Pu(T:Nat->Option aq)(f:Nat)(args:List Value)(h:Heap)(v:Value):Prop:=CW T f args h λr h'=>r= .ret v/\h'=h
structure Yr (rs:List (Nat×Option (Option Nat))) (v0:Value) (x:bO) (e:Env) (ds:Dfs) (h1:Heap):Prop where
 ok:(x= .normal∨x= .ret)/\ds=[]/\h1.log=[]/\∃vs,cI h1 e rs=some vs/\fB vs=v0
variable{rs:List (Nat×Option (Option Nat))}{v0:Value}
def an(a:h.log=[])(hr:cI h e rs=some vs)(b:fB vs=v0):Yr rs v0 .ret e [] h:=⟨⟨.inr rfl,rfl,a,vs,hr,b⟩⟩
variable{f:Nat}{args:List Value}
def Pu.of(l:aK T){c:aZ}(j:T f=some (.code c rs))(hr:Rdy h)(n:dA v0=true)(H:WE T h.next none c (Yr rs v0) (fu 0 args) [] h):Pu T f args h v0:=by
 obtain⟨x,e,ds,g,⟨m,d⟩,⟨o,rfl,k,p,a,rfl⟩⟩:=H.ok;have i:=(fN.all l m).exec _ _ _ _ _ _ _ _ _ _ (d m (bl _)) (bl _);refine CW.code j ⟨x,e,[],g,⟨m,d⟩,?_⟩;unfold zb;have b:=IU hr.wf i (k.trans hr.log.symm) hr.log n;rcases o with rfl|rfl
 ·simp only[a,b];exact⟨trivial,trivial⟩
 ·simp only[a,b];exact⟨trivial,trivial⟩
variable{dst:Option Nat}
def FW.pu{K:Env->Dfs->Heap->Prop}(H:Pu T f args (η h) v)(a:K (cN e dst v) ds h):FW T (.func f) args (η h) (KO K Q base dst e ds h.log):=by
 refine .func (CW.mono H ?_);rintro r b ⟨rfl,rfl⟩;exact⟨a⟩
def Rdy.of(a:WF h):Rdy (η h):=⟨a.log [],rfl⟩
def FW.puD{K:List Rec->Env->Heap->Prop}{rs b:List Rec}(H:Pu T f args (η h) v)(c:bL h base [] a rs=some b)(d:K b (cN e dst v) h):
 FW T (.func f) args (η h) (KD K base a rs dst e h.log):=by
 refine .func (CW.mono H ?_);rintro r g ⟨rfl,rfl⟩;refine⟨?_⟩;show(match bL {h with log:=aJ base h.log []} base [] a rs with
  |some b=>K b (cN e dst v) {h with log:=aJ base h.log []}
  |none=>False)
 have:({h with log:=aJ base h.log []}:Heap)=h:=rfl;rw[this,c];exact d
structure uN (h:Heap) (b o n sz:Nat) (cs:List Value):Prop where
 lt:b<h.next
 obj:∃vs own s,h.get b=some (.cells vs own s)/\cm (n*sz) (bQ o vs)=cs
 len:cs.length=n*sz
inductive aH (h:Heap) (sz:Nat):Value->Nat->List Value->Prop
 |nil {c}:aH h sz (.slice none 0 c) 0 []
 |mem {b o n cap cs}:uN h b o n sz cs->n<=cap->aH h sz (.slice (some ⟨b,o,none⟩) n cap) n cs
def uN.ext{b o n:Nat}{cs:List Value}(s:uN h b o n sz cs)(x:Ext h h'):uN h' b o n sz cs:=by
 obtain⟨e,a,t,c,d⟩:=s.obj;exact⟨m6 s.lt x.next,⟨e,a,t,(x.old _ s.lt).trans c,d⟩,s.len⟩
def aH.ext{h h':Heap}{sz n:Nat}{v:Value}{cs:List Value}(s:aH h sz v n cs)(x:Ext h h'):aH h' sz v n cs:=by
 cases s with
 |nil=>exact .nil
 |mem s hc=>exact .mem (s.ext x) hc
def aH.form{n:Nat}{cs:List Value}(s:aH h sz v n cs):∃a c,v= .slice a n c:=by
 cases s<;>exact⟨_,_,rfl⟩
def aH.log{n:Nat}{cs:List Value}(s:aH h sz v n cs)(l:List Nat):aH {h with log:=l} sz v n cs:=by
 cases s with
 |nil=>exact .nil
 |mem s hc=>exact .mem ⟨s.lt,s.obj,s.len⟩ hc
def aH.inv{n:Nat}{cs:List Value}(s:aH h sz v n cs):(∃c,v= .slice none 0 c/\n=0/\cs=[])∨∃b o cap,v= .slice (some ⟨b,o,none⟩) n cap/\uN h b o n sz cs/\n<=cap:=by
 cases s with
 |nil=>exact .inl ⟨_,rfl,rfl,rfl⟩
 |mem s hc=>exact .inr ⟨_,_,_,rfl,s,hc⟩
def aH.len{h:Heap}{sz n:Nat}{v:Value}{cs:List Value}(s:aH h sz v n cs):cs.length=n*sz:=by
 cases s with
 |nil=>simp
 |mem s _=>exact s.len
def oS{a b:Int}(h:b<=a):af .geq (.int k a) (.int k b)=some (.bool true):=by rw[BB,decide_eq_true h]
def uu{a b:Int}(h:a<b):af .geq (.int k a) (.int k b)=some (.bool false):=by rw[BB,decide_eq_false ω]
def fF{a b:Int}(h:a<=b):af .leq (.int k a) (.int k b)=some (.bool true):=by rw[UB,decide_eq_true h]
def fE{a b:Int}(h:b<a):af .leq (.int k a) (.int k b)=some (.bool false):=by rw[UB,decide_eq_false ω]
def dz{a b:Int}(h:a<b):af .lss (.int k a) (.int k b)=some (.bool true):=by rw[UC,decide_eq_true h]
def dG{a b:Int}(h:b<=a):af .lss (.int k a) (.int k b)=some (.bool false):=by rw[UC,decide_eq_false ω]
def fh{a b:Int}(h:b<a):af .gtr (.int k a) (.int k b)=some (.bool true):=by rw[NR,decide_eq_true h]
def gT{a b:Int}(h:a<=b):af .gtr (.int k a) (.int k b)=some (.bool false):=by rw[NR,decide_eq_false ω]
def ur{a b:Int}(h:a=b):af .eql (.int k a) (.int k b)=some (.bool true):=by rw[xh];simp[h]
def jH{a b:Int}(h:a≠b):af .eql (.int k a) (.int k b)=some (.bool false):=by rw[xh];simp[h]
def iY{a b:Int}(h:a≠b):af .neq (.int k a) (.int k b)=some (.bool true):=by rw[I7];simp[h]
def uv{a b:Int}(h:a=b):af .neq (.int k a) (.int k b)=some (.bool false):=by rw[I7];simp[h]
def Al(T:Nat->Option aq)(f:Nat)(args:List Value)(h:Heap)(Q:Value->Heap->Prop):Prop:=CW T f args h λr h'=>Ext h h'∧∃v,r= .ret v/\Q v h'
structure Yq (rs:List (Nat×Option (Option Nat))) (Q:Value->Heap->Prop) (x:bO) (e:Env) (ds:Dfs) (h1:Heap):Prop where
 ok:(x= .normal∨x= .ret)/\ds=[]/\h1.log=[]/\∃vs,cI h1 e rs=some vs/\Q (fB vs) h1
def cW{Q:Value->Heap->Prop}(a:h.log=[])(hr:cI h e rs=some vs)(b:Q (fB vs) h):Yq rs Q .ret e [] h:=⟨⟨.inr rfl,rfl,a,vs,hr,b⟩⟩
def Ext.pX(hr:Rdy h)(a:AS h.next h h1)(d:h1.log=[]):Ext h h1:=
 ⟨a.next,d.trans hr.log.symm,λb c=>a.same b c c (by rw[d];rfl),λw=>w.as a⟩
def Al.of(p:aK T){c:aZ}{Q:Value->Heap->Prop}(o:T f=some (.code c rs))(hr:Rdy h)(n:∀v b,dA v=true->Q v b->Q v h)(H:WE T h.next none c (Yq rs Q) (fu 0 args) [] h):Al T f args h Q:=by
 obtain⟨x,e,ds,b,⟨m,k⟩,⟨q,rfl,j,g,d,l⟩⟩:=H.ok;have i:=(fN.all p m).exec _ _ _ _ _ _ _ _ _ _ (k m (bl _)) (bl _);refine CW.code o ⟨x,e,[],b,⟨m,k⟩,?_⟩;have a:Ext h (gcA h b (fB g))/\Q (fB g) (gcA h b (fB g)):=by
  cases hv:dA (fB g)with
  |true=>
   rw[IU hr.wf i (j.trans hr.log.symm) hr.log hv];exact⟨.refl _,n _ _ hv l⟩
  |false=>
   have:gcA h b (fB g)=b:=by simp[gcA,hv]
   rw[this];exact⟨.pX hr i j,l⟩
 unfold zb;rcases q with rfl|rfl
 ·simp only[d];exact⟨a.1,_,rfl,a.2⟩
 ·simp only[d];exact⟨a.1,_,rfl,a.2⟩
def Ext.NL(x:Ext (η h) h'):Ext h {h' with log:=aJ base h.log h'.log}:=by
 have:h'.log=[]:=x.log;refine⟨x.next,by rw[this];rfl,x.old,λw=>(x.wf (w.log [])).log _⟩
def FW.al{b:Value->Heap->Prop}{K:Env->Dfs->Heap->Prop}(H:Al T f args (η h) b)(a:∀v (h':Heap) l,b v h'→b v {h' with log:=l})
 (c:∀v h',Ext h h'→b v h'→K (cN e dst v) ds h'):FW T (.func f) args (η h) (KO K Q base dst e ds h.log):=by
 refine .func (CW.mono H ?_);rintro r h' ⟨g,v,rfl,d⟩;exact⟨c v _ g.NL (a v h' _ d)⟩
variable{d:Value->Heap->Prop}
def FW.alD{K:List Rec->Env->Heap->Prop}{rs:List Rec}(H:Al T f args (η h) d)(c:∀v (h':Heap) l,d v h'→d v {h' with log:=l})
 (k:∀v h',Ext h h'→d v h'→∃b,bL h' base [] a rs=some b∧K b (cN e dst v) h'):FW T (.func f) args (η h) (KD K base a rs dst e h.log):=by
 refine .func (CW.mono H ?_);rintro r h' ⟨j,v,rfl,n⟩;refine⟨?_⟩;obtain⟨b,g,i⟩:=k v _ (j.NL (base:=base)) (c v h' _ n);show(match bL {h' with log:=aJ base h.log h'.log} base h'.log a rs with
  |some b=>K b (cN e dst v) {h' with log:=aJ base h.log h'.log}
  |none=>False)
 have m:h'.log=[]:=j.log;rw[m]at g i⊢;rw[g];exact i
variable{t:Nat}
def Au(a:geT e t=some v)(hr:cI h e rs=some vs):cI h e ((t,none)::rs)=some (v::vs):=by simp only[cI,a,hr]
variable{s:Nat}
def bV{n b o:Nat}{ws l:List Value}(d:geT e t=some (.pointer (some ⟨b,o,none⟩)))(hb:h.get b=some (.cells ws own s))(a:cm n (bQ o ws)=l)(c:Nat.beq (bS l) n=true)(hr:cI h e rs=some vs):
 cI h e ((t,some (some n))::rs)=some (.agg l.toArray::vs):=by simp only[cI,d,sw,hb,a,c,cond_true,hr]
def Px{b o:Nat}{ws:List Value}(c:geT e t=some (.pointer (some ⟨b,o,none⟩)))(hb:h.get b=some (.cells ws own s))(a:bN ws o=some v)(hr:cI h e rs=some vs):
 cI h e ((t,some none)::rs)=some (v::vs):=by simp only[cI,c,sw,hb,a,hr]
def aQ{log:List Nat}:bL h base log a []=some []:=rfl
variable{r:Rec}
def Td{log:List Nat}{rs b:List Rec}(hb:Nat.testBit a r.i=true)(H:bL h base log a rs=some b):bL h base log a (r::rs)=some b:=by
 simp only[bL,hb,cond_true,H]
def Te{log:List Nat}{rs b:List Rec}(hb:Nat.testBit a r.i=false)(d:uB h base r=true)(c:KP log r=true)(H:bL h base log a rs=some b):bL h base log a (r::rs)=some (r::b):=by
 simp only[bL,hb,d,c,Fd,cond_true,cond_false,H]
def ye{b:Nat}(a:r.k= .made b):uB h base r=true:=by simp only[uB,a]
def ah(b:r.k= .quiet)(d:aop h base r.e r.o.op=some (.val r.v h))(c:jj r.v r.v=true):uB h base r=true:=by
 have a:Nat.beq h.next h.next=true:=by rw[beq_eq];simp
 simp only[uB,b,d,c,a,ac5]
def qT:rG h base []=true:=rfl
def bY{rs:List Rec}(h1:uB h base r=true)(a:rG h base rs=true):rG h base (r::rs)=true:=by simp only[rG,h1,cond_true,a]
def bh(a:Option Addr):jj (.pointer a) (.pointer a)=true:=by simp[jj,kU]
def dh(k:IntKind)(n:Int):jj (.int k n) (.int k n)=true:=by simp[jj,kU]
def Jx(b:Bool):jj (.bool b) (.bool b)=true:=by simp[jj,kU]
def dw(a:Option Addr)(n c:Nat):jj (.slice a n c) (.slice a n c)=true:=by simp[jj,kU]
def mP{c:Array Value}(h:j7 c.toList c.toList=true):jj (.agg c) (.agg c)=true:=h
def iq:j7 [] []=true:=rfl
def cD{l:List Value}(h1:kU v v=true)(a:j7 l l=true):j7 (v::l) (v::l)=true:=by simp only[j7,h1,cond_true,a]
def iZ(a:Option Addr):kU (.pointer a) (.pointer a)=true:=by simp[kU]
def eT(k:IntKind)(n:Int):kU (.int k n) (.int k n)=true:=by simp[kU]
def PE(a:Option Addr)(n c:Nat):kU (.slice a n c) (.slice a n c)=true:=by simp[kU]
def fA{b o n c:Nat}{cs:List Value}(hb:h.get b=some (.cells vs own s))(a:cm (n*size) (bQ o vs)=cs)(d:cs.length=n*size):dg h size (.slice (some ⟨b,o,none⟩) n c)=some (cs,n):=by
 simp only[dg,hb,a,cK,d,beq_eq,decide_true,cond_true]
def AG{n:Nat}{cs:List Value}(s:aH h size v n cs):dg h size v=some (cs,n):=by
 cases s with
 |nil=>rfl
 |mem s _=>
  obtain⟨d,c,t,a,b⟩:=s.obj;exact fA a b s.len
def pF{n c:Nat}{cs:List Value}(j:ev h e x=some (.slice none 0 0))(k:ev h e y=some v)(i:dg h size v=some (cs,n))(g:n≠0)(hb:(2*(0+n)+768)*a<=281474976710656)(f:c=UNK):
 aop h base e (.append size a x y)=some (.val (.slice (some ⟨h.next,0,none⟩) n c) (h.push (.cells cs true size))):=by
 have b:Nat.beq n 0=false:=by rw[beq_eq];simpa using g
 have d:Nat.ble ((2*(0+n)+768)*a) 281474976710656=true:=by rw[ble_eq];simpa using hb
 subst f;simp only[aop,j,k,i,jV,b,d,cond_true,cond_false,Nat.beq,ac5,fW]
def jc{len n q:Nat}{cs ws:List Value}(r:ev h e x=some (.slice (some ⟨q,0,none⟩) len UNK))(s:ev h e y=some v)(o:dg h size v=some (cs,n))(d:n≠0)(m:h.get q=some (.cells vs true size))(c:vs.length=len*size)
 (b:0<size)(h1:eN cs=true)(hb:(2*(len+n)+768)*a<=281474976710656)(p:eL vs cs=ws):
 aop h base e (.append size a x y)=some (.val (.slice (some ⟨h.next,0,none⟩) (len+n) UNK) ((h.wr base q .dead).push (.cells ws true size))):=by
 have f:Nat.beq n 0=false:=by rw[beq_eq];simpa using d
 have g:Nat.ble ((2*(len+n)+768)*a) 281474976710656=true:=by rw[ble_eq];simpa using hb
 have i:Nat.beq UNK UNK=true:=by rw[beq_eq];simp
 have j:Nat.beq size size=true:=by rw[beq_eq];simp
 have k:Nat.ble (0+(len+n)*size) (bS vs)=false:=by
  rw[ble_eq,cK,c,Bo];have:0<n*size:=Nat.mul_pos (AC d) b;simp;omega
 have l:Nat.beq (len*size) (bS vs)=true:=by rw[beq_eq,cK,c];simp
 simp only[aop,r,s,o,jV,f,g,m,i,j,k,l,h1,Fd,ab9,cond_true,cond_false,p,fW,Nat.beq]
def qf{len n q o c:Nat}{cs ws:List Value}(r:ev h e x=some (.slice (some ⟨q,o,none⟩) len c))(t:ev h e y=some v)(m:dg h size v=some (cs,n))(k:n≠0)(u:c<len+n)(w:c<UNK)
 (l:h.get q=some (.cells vs own s))(j:o+len*size<=vs.length)(hb:(2*(len+n)+768)*a<=281474976710656)(p:eL (cm (len*size) (bQ o vs)) cs=ws):
 aop h base e (.append size a x y)=some (.val (.slice (some ⟨h.next,0,none⟩) (len+n) UNK) (h.push (.cells ws true size))):=by
 have b:Nat.beq n 0=false:=by rw[beq_eq];simpa using k
 have d:Nat.ble ((2*(len+n)+768)*a) 281474976710656=true:=by rw[ble_eq];simpa using hb
 have f:Nat.beq c UNK=false:=by rw[beq_eq];simp;omega
 have g:Nat.ble (len+n) c=false:=by rw[ble_eq];simp;omega
 have i:Nat.ble (o+len*size) (bS vs)=true:=by rw[ble_eq,cK];simpa using j
 simp only[aop,r,t,m,jV,b,d,l,f,g,i,cond_true,cond_false,p,fW]
def qg{b len c:Nat}{a:Option Addr}(i:ev h e x=some (.slice a len c))(j:ev h e y=some v)(g:dg h size v=some ([],0))(f:len<=c):aop h base e (.append size b x y)=some (.val (.slice a len c) h):=by
 have d:Nat.ble len c=true:=by rw[ble_eq];simpa using f
 simp only[aop,i,j,g,jV,d,cond_true,Nat.beq,fW]
variable{ops:List bg}{bf is:List Nat}{op:AOp}
def mZ{rs b:List Rec}{Q:Env->Heap->Prop}{g:Option (Nat×Bool)}{d:Env}{c f:Heap}{n:List Nat}(q:bN ops i=some ⟨dst,op,g⟩)(p:bN bf i=some a)
 (o:cZ e (dK ⟨dst,op,g⟩)=d)(s:cg d g=some true)(r:lJ op=false)(l:aop (η h) h.next d op=some (.val v c))(j:({c with log:=aJ base h.log c.log}:Heap)=f)(k:c.log=n)
 (m:bL f base n a rs=some b)(H:WD T base ops bf Q is b (cN e dst v) f):WD T base ops bf Q (i::is) rs e h:=by
 subst j;subst k;exact WW q p o s r l m H
def R4(o:bT):(((η h):Heap).push o).log=[]:=rfl
def tX{b:Nat}(hb:b<h.next)(o:bT):(((η h):Heap).wr h.next b o).log=[b]:=by
 simp[Heap.wr,blt_eq,hb,gL]
def RA(o:bT):({((η h):Heap).push o with log:=aJ base h.log (((η h):Heap).push o).log}:Heap)=h.push o:=rfl
def MX{b:Nat}(hb:b<h.next)(c:base<=b)(o:bT):({((η h):Heap).wr h.next b o with log:=aJ base h.log (((η h):Heap).wr h.next b o).log}:Heap)=h.wr base b o:=by
 rw[tX hb];have a:Nat.blt b base=false:=by rw[blt_eq];simp;omega
 simp only[Heap.wr,aJ,a,cond_false]
def jU{rs d:List Rec}{Q:Env->Heap->Prop}{n b o:Nat}{ws:List Value}{g:Option (Nat×Bool)}{f:Env}(r:bN ops i=some ⟨dst, .store n x y,g⟩)(q:bN bf i=some a)
 (p:cZ e (dK ⟨dst, .store n x y,g⟩)=f)(s:cg f g=some true)(t:ev (η h) f x=some (.pointer (some ⟨b,o,none⟩)))(u:ev (η h) f y=some v)(hb:h.get b=some (.cells vs true sz))
 (m:(Nat.beq (bS (cellsOf v)) n&&Nat.ble (o+n) (bS vs)&&eN (cellsOf v))=true)(l:dP vs o (cellsOf v)=ws)(c:b<h.next)(j:base<=b)(k:bL (h.wr base b (.cells ws true sz)) base [b] a rs=some d)
 (H:WD T base ops bf Q is d (cN e dst (.tuple #[])) (h.wr base b (.cells ws true sz))):WD T base ops bf Q (i::is) rs e h:=
 mZ r q p s rfl (kC (h:=η h) t u hb m l) (MX c j _) (tX c _) k H
def uH{rs c:List Rec}{Q:Env->Heap->Prop}{b:Nat}{g:Option (Nat×Bool)}{d:Env}{n:Nat}{cs:List Value}
 (o:bN ops i=some ⟨dst, .append size a x y,g⟩)(l:bN bf i=some b)(k:cZ e (dK ⟨dst, .append size a x y,g⟩)=d)(j:cg d g=some true)
 (q:ev (η h) d x=some (.slice none 0 0))(r:ev (η h) d y=some v)(p:dg (η h) size v=some (cs,n))(m:n≠0)(hb:(2*(0+n)+768)*a<=281474976710656)
 (f:bL (h.push (.cells cs true size)) base [] b rs=some c)(H:WD T base ops bf Q is c (cN e dst (.slice (some ⟨h.next,0,none⟩) n UNK)) (h.push (.cells cs true size))):WD T base ops bf Q (i::is) rs e h:=
 mZ o l k j rfl (pF (h:=η h) q r p m hb rfl) (RA _) (R4 _) f H
def Heap.E7{o:bT}{x:Nat}(h1:x<=h.next)(a:h.next<=x):(h.push o).get x=some o:=by rw[Heap.dU,if_pos (Nat.le_antisymm h1 a)]
def Heap.J7{b:Nat}{o:bT}{x:Nat}(h1:x<=b)(a:b<=x):(h.wr base b o).get x=(h.get x).map λ_=>o:=by rw[Heap.nJ,if_pos (Nat.le_antisymm h1 a),Nat.le_antisymm h1 a]
def aB{log:List Nat}{o:bg}{k:Rk}{rs b:List Rec}(hb:Nat.testBit a i=true)(H:bL h base log a rs=some b):bL h base log a (⟨i,o,e,v,k⟩::rs)=some b:=Td hb H
def au{log:List Nat}{o:bg}{k:Rk}{rs b:List Rec}(hb:Nat.testBit a i=false)(d:uB h base ⟨i,o,e,v,k⟩=true)(c:KP log ⟨i,o,e,v,k⟩=true)(H:bL h base log a rs=some b):
 bL h base log a (⟨i,o,e,v,k⟩::rs)=some (⟨i,o,e,v,k⟩::b):=Te hb d c H
def DQ{n:Nat}{cs:List Value}{l:List Nat}(a:dg h size v=some (cs,n)):dg {h with log:=l} size v=some (cs,n):=by
 have:dg {h with log:=l} size v=dg h size v:=by unfold dg;rfl
 rw[this];exact a
def rN{n d:Nat}(a:ev h e x=some (.int k (n:Nat))):bnd h e d (some x)=some n:=by
 have:(.int k (n:Nat):Value)= .int k (Int.ofNat n):=rfl;rw[this]at a;simp only[bnd,a,rF]
def rM{d:Nat}:bnd h e d none=some d:=rfl
def tE(n:Nat):Nat.beq n n=true:=by rw[beq_eq];simp
def gh{b:Nat}(h:a<=b):Nat.ble a b=true:=by rw[ble_eq];simpa using h
def gW{b:Nat}(h:a<b):Nat.blt a b=true:=by rw[blt_eq];simpa using h
def sE{b:Nat}(h:¬a<b):Nat.blt a b=false:=by rw[blt_eq];simpa using h
def pT{b:Nat}(h:a≠b):Nat.beq a b=false:=by rw[beq_eq];simpa using h
def ue{b o n:Nat}(c:ev h e x=some (.slice (some ⟨b,o,none⟩) n UNK))(d:ev h e y=some (.int k (i:Nat)))(hb:h.get b=some (.cells vs own size))(hi:i<=n)(a:0<n):
 aop h base e (.slice (.sl size) x none (some y) none)=some (.val (.slice (some ⟨b,o,none⟩) i UNK) h):=by
 simp only[aop,c,hM,rN d,rM,hb,tE,gh (hK _),gh hi,gW a,Bool.true_or,Fd,cond_true,fW,I0,R0,Nat.sub_zero]
def qj{b o n:Nat}(a:ev h e x=some (.slice (some ⟨b,o,none⟩) n UNK))(c:ev h e y=some (.int k (i:Nat)))(hb:h.get b=some (.cells vs own size))(hi:i<n):
 aop h base e (.slice (.sl size) x (some y) none none)=some (.val (.slice (some ⟨b,o+i*size,none⟩) (n-i) UNK) h):=by
 simp only[aop,a,hM,rN c,rM,hb,tE,gh (Nat.le_of_lt hi),gh (bl n),gW hi,Bool.true_or,Fd,cond_true,fW]
def Es{b o n:Nat}(c:ev h e x=some (.slice (some ⟨b,o,none⟩) n UNK))(d:ev h e y=some (.int k (n:Nat)))(hb:h.get b=some (.cells vs own size))(a:n≠0):
 aop h base e (.slice (.sl size) x (some y) none none)=some (.val (.slice (some ⟨h.next,0,none⟩) 0 UNK) (h.push (.cells [] false size))):=by
 simp only[aop,c,hM,rN d,rM,hb,tE,gh (bl n),sE (xc n),pT a,Bool.or_self,Bool.true_or,Fd,cond_true,cond_false,fW]
def Iv{ws:List Value}{b o n c:Nat}(i:ev h e x=some (.slice (some ⟨b,o,none⟩) n c))(f:n≠0)(hb:h.get b=some (.cells vs true sz))(d:o+(eR n z).length<=vs.length)(h1:eN (eR n z)=true)(g:dP vs o (eR n z)=ws):
 aop h base e (.clear z x)=some (.val (.tuple #[]) (h.wr base b (.cells ws true sz))):=by
 have a:Nat.ble (o+bS (eR n z)) (bS vs)=true:=by rw[cK,cK];exact gh d
 simp only[aop,i,pT f,hb,a,h1,Fd,cond_true,cond_false,g]
def GR{b:Nat}(hb:b<h.next)(o:bT):({((η h):Heap).wr h.next b o with log:=aJ base h.log (((η h):Heap).wr h.next b o).log}:Heap)=h.wr base b o:=by
 rw[tX hb];rfl
variable{α:Type}
def gH{l m:List α}{o:Nat}(a:o+m.length<=l.length):dP l o m=l.take o++m++l.drop (o+m.length):=by
 apply wy;intro i;rw[pR m l o i a];by_cases h1:o<=i/\i<o+m.length
 ·rw[if_pos h1,oB (by simp;omega),hX (by simp;omega)];congr 1;simp;omega
 ·rw[if_neg h1];by_cases h2:i<o
  ·rw[oB (by simp;omega),oB (by simp;omega),wi h2]
  ·rw[hX (by simp;omega),wn];congr 1;simp;omega
structure Upd (h h':Heap) (b:Nat) (o:bT):Prop where
 next:h.next<=h'.next
 log:h'.log=[b]
 old:∀x,x<h.next->x≠b->h'.get x=h.get x
 obj:h'.get b=some o
 wf:WF h->WF h'
def z1(h:Heap)(o:bT):(h.push o).next=h.next+1:=rfl
def z2(h:Heap)(base b:Nat)(o:bT):(h.wr base b o).next=h.next:=rfl
def z3(h:Heap)(o:bT):(h.push o).get h.next=some o:=Heap.fZ h o
def z4{o:bT}{x:Nat}(a:x<h.next):(h.push o).get x=h.get x:=Heap.eF a
def z5{b:Nat}{o:bT}{x:Nat}(a:x≠b):(h.wr base b o).get x=h.get x:=Heap.eH a
def z6(h:Heap)(base b:Nat)(o:bT):(h.wr base b o).get b=(h.get b).map λ_=>o:=Heap.E8 h base b o
def z7{β:Type}(f:α->β)(a:α):Option.map f (some a)=some (f a):=rfl
def z8{o:bT}{x:Nat}(h1:x<=h.next)(a:h.next<=x):(h.push o).get x=some o:=Heap.E7 h1 a
def z9{b:Nat}{o:bT}{x:Nat}(h1:x<=b)(a:b<=x):(h.wr base b o).get x=(h.get x).map λ_=>o:=Heap.J7 h1 a
def fD(lo:Nat)(l:List Nat):Prop:=∀x∈l,lo<=x
def fD.nil(lo:Nat):fD lo []:=λx a=>by cases a
def fD.merge{lo base:Nat}:∀{m l:List Nat},fD lo l->fD lo m->fD lo (aJ base l m)
 |[],l,h1,_=>h1
 |b::m,l,h1,h2=>by
  simp only[aJ];refine fD.merge ?_ λx a=>h2 x (bz _ a);have hb:=h2 b (b7 ..);simp only[cond_eq_ite];split
  ·split
   ·exact h1
   ·intro x a;rcases List.mem_cons.1 a with rfl|a
    ·exact hb
    ·exact h1 x a
  ·exact h1
structure Lk (lo:Nat) (h h':Heap):Prop where
 next:h.next<=h'.next
 log:fD lo h.log->fD lo h'.log
 old:∀x,x<lo->h'.get x=h.get x
 wf:WF h->WF h'
def Lk.refl(lo:Nat)(h:Heap):Lk lo h h:=⟨bl _,id,λ_ _=>rfl,id⟩
def Lk.trans{lo:Nat}{a b c:Heap}(x:Lk lo a b)(y:Lk lo b c):Lk lo a c:=⟨gy x.next y.next,λh=>y.log (x.log h),λz d=>(y.old z d).trans (x.old z d),λw=>y.wf (x.wf w)⟩
def Lk.push{lo:Nat}{a b:Heap}(x:Lk lo a b)(c:lo<=b.next)(o:bT):Lk lo a (b.push o):=x.trans ⟨Hm _,id,λz d=>Heap.eF ω,λw=>w.push o⟩
def Lk.wr{lo:Nat}{a b:Heap}(x:Lk lo a b){base y:Nat}{o:bT}(e:lo<=y):Lk lo a (b.wr base y o):=
 x.trans ⟨bl _,λd=>by
  simp only[Heap.wr,cond_eq_ite];split
  ·split
   ·exact d
   ·intro z c;rcases List.mem_cons.1 c with rfl|c
    ·exact e
    ·exact d z c
  ·exact d,λz c=>Heap.eH ω,λw=>w.as (AS.wr _ _ _ _)⟩
variable{lo:Nat}
def Ext.lk{a b:Heap}(x:Ext a b)(c:lo<=a.next):Lk lo a b:=⟨x.next,λh=>by rw[x.log];exact h,λz d=>x.old z ω,x.wf⟩
def uo{l:List Nat}{x:Nat}(h:x ∉ l):gL l x=false:=by
 cases e:gL l x with
 |false=>rfl
 |true=>exact(h (jR.1 e)).elim
def Lk.pX(a:AS h.next h h')(c:lo<=h.next)(b:fD lo h'.log):Lk lo h h':=
 ⟨a.next,λ_=>b,λx e=>a.same x ω ω (uo λd=>by have:=b x d;omega),λw=>w.as a⟩
def Lk.call{a:Heap}(x:Lk lo (η h) a):Lk lo h {a with log:=aJ base h.log a.log}:=
 ⟨x.next,λb=>b.merge (x.log (fD.nil _)),x.old,λw=>(x.wf (w.log [])).log _⟩
def Gr(T:Nat->Option aq)(f:Nat)(args:List Value)(h:Heap)(lo:Nat)(Q:Value->Heap->Prop):Prop:=CW T f args h λr h'=>Lk lo h h'∧∃v,r= .ret v/\Q v h'
structure U7 (rs:List (Nat×Option (Option Nat))) (lo:Nat) (Q:Value->Heap->Prop) (x:bO) (e:Env) (ds:Dfs) (h1:Heap):Prop where
 ok:(x= .normal∨x= .ret)/\ds=[]/\fD lo h1.log/\∃vs,cI h1 e rs=some vs/\Q (fB vs) h1
def ES{Q:Value->Heap->Prop}(a:fD lo h.log)(hr:cI h e rs=some vs)(b:Q (fB vs) h):U7 rs lo Q .ret e [] h:=⟨⟨.inr rfl,rfl,a,vs,hr,b⟩⟩
def ER{Q:Value->Heap->Prop}(a:fD lo h.log)(hr:cI h e rs=some vs)(b:Q (fB vs) h):U7 rs lo Q .normal e [] h:=⟨⟨.inl rfl,rfl,a,vs,hr,b⟩⟩
def nI(c:AS h.next h h1):(∀x,x<h.next->(gcA h h1 v).get x=h1.get x)/\h.next<=(gcA h h1 v).next/\(gcA h h1 v).log=h1.log/\(dA v=false->gcA h h1 v=h1):=by
 unfold gcA;cases hc:(dA v&&gJ h1 h.next h1.log)with
 |false=>exact⟨λ_ _=>rfl,c.next,rfl,λ_=>rfl⟩
 |true=>
  refine⟨λx f=> ?_,bl _,rfl,λe=>by rw[e]at hc;cases hc⟩;have a:=c.keys;have d:(dR h.next (h1.next-h.next)).length=h1.next-h.next:=by
   generalize h1.next-h.next=n
   induction n with
   |zero=>rfl
   |succ n ih=>simp[dR,ih]
  have b:(h1.cU.take (h1.next-h.next)).map (·.1)=dR h.next (h1.next-h.next):=by
   rw[List.map_take,a,q9 ω,go ω]
  have:=ng _ h.next _ (h1.cU.drop (h1.next-h.next)) b x f
  rw[Fr]at this;show fT (bQ (h1.next-h.next) h1.cU) x=fT h1.cU x;rw[aT];exact this.symm
def wr0(l:Nat)(o:bT):({h with cU:=jI h.cU l o}:Heap)=h.wr 0 l o:=rfl
def busy:bT->Bool
 | .loop _ _ _ _ 1 _=>true
 |_=>false
variable{ps:List Nat}{asg body:aZ}
def vL{f:Operand}{cap:Array Value}(hr:qS h rnd=true)(p:ev h e f=some (.func (.func g) first cap))(c:iu (T g)=false)
 (H:CW T g (eL first.toList (eL [.func (.yield h.next) #[] #[]] cap.toList)) {h.push (.loop e ps asg body 0 .normal)with log:=[]} fun r b=>∃v,r= .ret v∧∃o a j l i jy,b.get h.next=some (.loop o a j l i jy)∧Nat.beq i 1=false∧
   Q jy e ds (({b with log:=aJ base h.log b.log}:Heap).wr base h.next .dead)):WE T base rnd (.rangeFunc f ps asg body) Q e ds h:=by
 obtain⟨r,b,⟨m,s⟩,v,rfl,o,a,j,l,i,jy,q,d,t⟩:=H;refine⟨⟨jy,e,ds,_,⟨m+1,λn u=> ?_⟩,t⟩⟩;obtain⟨k,rfl⟩:∃k,n=k+1:=⟨n-1,ω⟩;simp only[di,hr,p,c,cond_true,cond_false,s k ω,q,d]
def FW.Ea(d:aK T){Q:Res->Heap->Prop}(H:FW T fn args h Q)(c:h.log=[]):FW T fn args h λr a=>AS h.next h a∧Q r a:=by
 obtain⟨r,a,⟨m,b⟩,e⟩:=H;exact⟨r,a,⟨m,b⟩,(fN.all d m).kF _ _ _ _ _ (b m (bl _)) c,e⟩
def FW.mono'{Q a:Res->Heap->Prop}(H:FW T fn args h Q)(b:∀r h',Q r h'→a r h'):FW T fn args h a:=
 let⟨r,h',h1,h2⟩:=H;⟨r,h',h1,b _ _ h2⟩
def AS.zero(a:AS base h h'):AS 0 h h':=⟨a.next,a.keys,λb c=>ω,λb c=>ω⟩
def Bv(c:AS 0 h h1):(∀x,x<h.next->(gcA h h1 v).get x=h1.get x)/\h.next<=(gcA h h1 v).next/\(gcA h h1 v).log=h1.log:=by
 unfold gcA;cases hc:(dA v&&gJ h1 h.next h1.log)with
 |false=>exact⟨λ_ _=>rfl,c.next,rfl⟩
 |true=>
  refine⟨λx e=> ?_,bl _,rfl⟩;have a:=c.keys;have d:(dR h.next (h1.next-h.next)).length=h1.next-h.next:=by
   generalize h1.next-h.next=n
   induction n with
   |zero=>rfl
   |succ n ih=>simp[dR,ih]
  have b:(h1.cU.take (h1.next-h.next)).map (·.1)=dR h.next (h1.next-h.next):=by
   rw[List.map_take,a,q9 ω,go ω]
  have:=ng _ h.next _ (h1.cU.drop (h1.next-h.next)) b x e
  rw[Fr]at this;show fT (bQ (h1.next-h.next) h1.cU) x=fT h1.cU x;rw[aT];exact this.symm
structure PW (l wb:Nat) (H0:Heap) (L:bT) (O:List (Nat×Nat)->bT) (done:List (Nat×Nat)) (H:Heap):Prop where
 old:∀x,x<l->x≠wb->H.get x=H0.get x
 obj:H.get wb=some (O done)
 loop:H.get l=some L
 nx:l<H.next
inductive Own (lo:Nat) (h:Heap) (sz:Nat):Value->Nat->List Value->Prop
 |nil:Own lo h sz (.slice none 0 0) 0 []
 |full {q n cs}:lo<=q->q<h.next->h.get q=some (.cells cs true sz)->cs.length=n*sz->n≠0->Own lo h sz (.slice (some ⟨q,0,none⟩) n UNK) n cs
def Own.slice{n:Nat}{cs:List Value}(s:Own lo h sz v n cs)(a:n<4000000):aH h sz v n cs:=by
 cases s with
 |nil=>exact .nil
 |full h1 h2 h3 h4 h5=>
  refine .mem ⟨h2,⟨_,_,_,h3,?_⟩,h4⟩ (by unfold UNK;omega);rw[bw,aT,ww,go ω]
def Own.keep{n:Nat}{cs:List Value}(s:Own lo h sz v n cs)(b:h.next<=h'.next)(a:∀z,lo<=z->z<h.next->h'.get z=h.get z):Own lo h' sz v n cs:=by
 cases s with
 |nil=>exact .nil
 |full h1 h2 h3 h4 h5=>exact .full h1 ω ((a _ h1 h2).trans h3) h4 h5
def Own.ext{n:Nat}{cs:List Value}(s:Own lo h sz v n cs)(x:Ext h h'):Own lo h' sz v n cs:=s.keep x.next λz _ a=>x.old z a
def Own.log{n:Nat}{cs:List Value}(s:Own lo h sz v n cs)(m:List Nat):Own lo {h with log:=m} sz v n cs:=s.keep (h':={h with log:=m}) (bl _) λ_ _ _=>rfl
def Own.low{n:Nat}{cs:List Value}(s:Own lo h sz v n cs)(b:a≤lo):Own a h sz v n cs:=by
 cases s with
 |nil=>exact .nil
 |full h1 h2 h3 h4 h5=>exact .full ω h2 h3 h4 h5
structure Lx (lo:Nat) (h h':Heap):Prop where
 next:h.next<=h'.next
 log:h'.log=h.log
 old:∀z,z<lo->h'.get z=h.get z
 wf:WF h->WF h'
def Lx.refl(lo:Nat)(h:Heap):Lx lo h h:=⟨bl _,rfl,λ_ _=>rfl,id⟩
def Lx.trans{lo:Nat}{a b c:Heap}(x:Lx lo a b)(y:Lx lo b c):Lx lo a c:=⟨gy x.next y.next,y.log.trans x.log,λz d=>(y.old z d).trans (x.old z d),λw=>y.wf (x.wf w)⟩
def Lx.push{lo:Nat}{a b:Heap}(x:Lx lo a b)(c:lo<=b.next)(o:bT):Lx lo a (b.push o):=x.trans ⟨Hm _,rfl,λz d=>Heap.eF ω,λw=>w.push o⟩
def Lx.wr{lo:Nat}{a b:Heap}(x:Lx lo a b){base y:Nat}{o:bT}(c:lo<=y)(hb:base<=y):Lx lo a (b.wr base y o):=x.trans ⟨bl _,Heap.aA hb,λz d=>Heap.eH ω,λw=>w.as (AS.wr _ _ _ _)⟩
def Ext.lx{a b:Heap}(x:Ext a b)(c:lo<=a.next):Lx lo a b:=⟨x.next,x.log,λz d=>x.old z ω,x.wf⟩
def Lx.ext{a b:Heap}(x:Lx a.next a b):Ext a b:=⟨x.next,x.log,x.old,x.wf⟩
variable{os:List bg}
def vM{n:Nat}{cs c1:List Value}(s:Own lo h sz v n cs)(m:n<1000000)(g:0<sz)(hb:a<=100000)(b:lo<=h.next)(d:base<=lo)
 (k:ev h e x=some v)(l:ev h e y=some u)(j:dg h sz u=some (c1,1))(f:c1.length=sz)(h1:eN c1=true)
 (i:∀v' h',Own lo h' sz v' (n+1) (cs++c1)->Lx lo h h'→WO T base rnd Q os (cN e dst v') ds h'):WO T base rnd Q (⟨dst, .append sz a x y,none⟩::os) e ds h:=by
 have c:(2*(n+1)+768)*a<=281474976710656:=by
  have:(2*(n+1)+768)*a<=2000768*100000:=Hn ω hb;omega
 cases s with
 |nil=>
  refine aG (pF (n:=1) k l j ω (by simpa using c) rfl) ?_;refine i _ _ ?_ ((Lx.refl lo h).push b _);have:=Own.full (lo:=lo) (h:=h.push (.cells c1 true sz)) (sz:=sz) (q:=h.next) (n:=1) (cs:=c1) b (eA _) (Heap.fZ _ _) ω ω;exact this
 | @full q _ _ q1 q2 q3 q4 q5=>
   refine aG (jc (n:=1) (vs:=cs) (ws:=cs++c1) k l j ω q3 q4 g h1 c (dS _ _)) ?_;refine i _ _ ?_ (((Lx.refl lo h).wr q1 ω).push b _);refine .full b (eA _) ?_ (by rw[dk,q4,f,Bo,ab5]) ω;exact Heap.fZ _ _
def TU{c:Dfs}{b:Bool}{vs:Array Value}(j:geT e t=some (.tuple vs))(H:WO T base rnd Q os (cN e dst (.tuple #[])) c h):WO T base rnd Q (⟨dst,op,some (t,b)⟩::os) e c h:=by
 obtain⟨l,d,a,f,⟨m,g⟩,i⟩:=H.ok;exact⟨l,d,a,f,⟨m+1,λn o=>by
  obtain⟨k,rfl⟩:∃k,n=k+1:=⟨n-1,ω⟩;simp only[iC,cg,j];exact g k ω⟩,i⟩
structure Ws (S:Nat->Prop) (h h':Heap):Prop where
 next:h.next<=h'.next
 log:∀z∈h'.log,z∈h.log∨S z
 old:∀z,z<h.next->¬S z->h'.get z=h.get z
 wf:WF h->WF h'
variable{S:Nat->Prop}
def Ws.pX(b:AS h.next h h')(c:∀z∈h'.log,S z):Ws S h h':=
 ⟨b.next,λz a=> .inr (c z a),λz a e=>b.same z a a (uo λd=>e (c z d)),λw=>w.as b⟩
def BE{base z:Nat}:∀{m l:List Nat},z∈aJ base l m->z∈l∨z∈m
 |[],l,h=> .inl h
 |b::m,l,h=>by
  simp only[aJ]at h;rcases BE (m:=m) h with h|h
  ·revert h;rw[cond_eq_ite,cond_eq_ite];split
   ·split
    ·exact .inl
    ·intro h;rcases List.mem_cons.1 h with rfl|h
     ·exact .inr (b7 ..)
     ·exact .inl h
   ·exact .inl
  ·exact .inr (bz _ h)
def Ws.call{a:Heap}(x:Ws S (η h) a):Ws S h {a with log:=aJ base h.log a.log}:=
 ⟨x.next,λz b=>(BE b).imp id λq=>(x.log z q).elim (λq=>by cases q) id,x.old,λw=>(x.wf (w.log [])).log _⟩
def Gs(T:Nat->Option aq)(f:Nat)(args:List Value)(h:Heap)(S:Nat->Prop)(Q:Value->Heap->Prop):Prop:=CW T f args h λr h'=>Ws S h h'∧∃v,r= .ret v/\Q v h'
structure Yt (rs:List (Nat×Option (Option Nat))) (S:Nat->Prop) (Q:Value->Heap->Prop) (x:bO) (e:Env) (ds:Dfs) (h1:Heap):Prop where
 ok:(x= .normal∨x= .ret)/\ds=[]/\(∀z∈h1.log,S z)/\∃vs,cI h1 e rs=some vs/\Q (fB vs) h1
def iO{Q:Value->Heap->Prop}(a:∀z∈h.log,S z)(hr:cI h e rs=some vs)(b:Q (fB vs) h):Yt rs S Q .ret e [] h:=⟨⟨.inr rfl,rfl,a,vs,hr,b⟩⟩
def Gs.of(t:aK T){c:aZ}{Q:Value->Heap->Prop}(r:T f=some (.code c rs))
 (q:∀v a h2,dA v=true->h.next<=h2.next->(∀x,x<h.next->h2.get x=a.get x)->Q v a->Q v h2)(H:WE T h.next none c (Yt rs S Q) (fu 0 args) [] h):Gs T f args h S Q:=by
 obtain⟨x,e,ds,a,⟨m,j⟩,⟨u,rfl,s,b,d,k⟩⟩:=H.ok;have i:=(fN.all t m).exec _ _ _ _ _ _ _ _ _ _ (j m (bl _)) (bl _);obtain⟨l,n,o,p⟩:=nI (v:=fB b) i;have g:Ws S h (gcA h a (fB b))/\∃v,Res.ret (fB b)= .ret v/\Q v (gcA h a (fB b)):=by
  refine⟨Ws.pX (i.gc' _) (by rw[o];exact s),_,rfl,?_⟩;cases hv:dA (fB b)with
  |true=>exact q _ _ _ hv n l k
  |false=>rw[p hv];exact k
 refine CW.code r ⟨x,e,[],a,⟨m,j⟩,?_⟩;unfold zb;rcases u with rfl|rfl<;>(simp only[d];exact g)
def FW.gs{b:Value->Heap->Prop}{K:Env->Dfs->Heap->Prop}(H:Gs T f args (η h) S b)(a:∀v (h':Heap) l,b v h'→b v {h' with log:=l})(d:∀v h',Ws S h h'→b v h'→K (cN e dst v) ds h'):
 FW T (.func f) args (η h) (KO K Q base dst e ds h.log):=by
 refine .func (CW.mono H ?_);rintro r c ⟨i,v,rfl,g⟩;exact⟨d v _ i.call (a v c _ g)⟩
def FW.gsD{g:Value->Heap->Prop}{K:List Rec->Env->Heap->Prop}{rs:List Rec}(H:Gs T f args (η h) S g)(d:∀v (h':Heap) l,g v h'→g v {h' with log:=l})
 (j:∀v h' lg,Ws S h h'→(∀z∈lg,S z)->g v h'→∃b,bL h' base lg a rs=some b∧K b (cN e dst v) h'):FW T (.func f) args (η h) (KD K base a rs dst e h.log):=by
 refine .func (CW.mono H ?_);rintro r c ⟨i,v,rfl,k⟩;obtain⟨b,n,o⟩:=j v {c with log:=aJ base h.log c.log} c.log i.call (λz m=>(i.log z m).elim (λq=>by cases q) id) (d v c _ k);refine⟨?_⟩;show kD K base a rs dst e h.log (.ret v) c;unfold kD;simp only[n];exact o
def AP{b:Nat}{o:bT}(c:∀z∈h.log,S z)(hb:S b):∀z∈(h.wr base b o).log,S z:=by
 intro z a;simp only[Heap.wr,cond_eq_ite]at a;split at a
 ·split at a
  ·exact c z a
  ·rcases List.mem_cons.1 a with rfl|a
   ·exact hb
   ·exact c z a
 ·exact c z a
def Ws.trans{S:Nat->Prop}{a b c:Heap}(x:Ws S a b)(y:Ws S b c):Ws S a c:=
 ⟨gy x.next y.next,λz d=>(y.log z d).elim (x.log z) .inr,λz d e=>(y.old z (m6 d x.next) e).trans (x.old z d e),λw=>y.wf (x.wf w)⟩
def Ext.ws{a b:Heap}(x:Ext a b):Ws S a b:=⟨x.next,λz c=> .inl (x.log▸c),λz c _=>x.old z c,x.wf⟩
def yy{k':IntKind}{n m:Int}(b:ev h e x=some (.int k' n))(a:fU k n=m):aop h base e (.conv (.int k) x)=some (.val (.int k m) h):=by
 subst a;simp only[aop,b,dD,y5,fW]
def Kn(k:IntKind)(n:Nat):rF (.int k (n:Int))=some n:=rfl
variable{l:Nat}
def lE{c:Nat}{i j:IntKind}(f:ev h e x=some (.int i (l:Nat)))(g:ev h e y=some (.int j (c:Nat)))(h1:l<=c)(b:a*c<=281474976710656)(k:c<1000000)(d:bS z=m):
 aop h base e (.mkSlice z a x y)=some (.val (.slice (some ⟨h.next,0,none⟩) l c) (h.push (.cells (eR c z) true m))):=by
 subst d;simp only[aop,f,g,Kn,gh h1,gh b,gW (show c<UNK by unfold UNK;omega),ac5,cond_true]
def GA{len:Nat}{cs:Array Value}(c:ev h e x=some (.agg cs))(a:ev h e y=some (.int k (i:Nat)))(hi:i<len)(b:bN cs.toList (i*size)=some v):aop h base e (.vh len size none x y)=some (.val v h):=by
 have:(.int k (i:Nat):Value)= .int k (Int.ofNat i):=rfl;rw[this]at a;simp only[aop,c,a,gW hi,cond_true,b,dD]
def mi(a b:Int):Int:=if b<a then b else a
def Cj{a b:Int}(c:ev h e x=some (.int .i64 a))(d:ev h e y=some (.int .i64 b)):aop h base e (.ej false [x,y])=some (.val (.int .i64 (mi a b)) h):=by
 simp only[aop,evs,c,d,mmA,if_true,dD,mi];rfl
def p9{n:Nat}(b:n<18446744073709551616):fU .u64 (n:Int)=n:=by
 have a:((n:Nat):Int)=Int.ofNat n:=rfl;rw[a];simp only[fU,gW b,cond_true]
def R7{b:Nat}(d:a<18446744073709551616)(hb:b<18446744073709551616):af .or (.int .u64 a) (.int .u64 b)=some (.int .u64 ((Nat.lor a b:Nat):Int)):=by
 have c:((a:Nat):Int)=Int.ofNat a:=rfl;have e2:((b:Nat):Int)=Int.ofNat b:=rfl;rw[c,e2];simp only[af,arith,qk,gW d,gW hb,ac5,cond_true,if_true];rfl
def vo{b:Nat}(d:a<18446744073709551616)(hb:b<18446744073709551616):af .and (.int .u64 a) (.int .u64 b)=some (.int .u64 ((Nat.land a b:Nat):Int)):=by
 have c:((a:Nat):Int)=Int.ofNat a:=rfl;have e2:((b:Nat):Int)=Int.ofNat b:=rfl;rw[c,e2];simp only[af,arith,qk,gW d,gW hb,ac5,cond_true,if_true];rfl
def xk{n:Nat}(c:n<=64):af .shr (.int .u64 a) (.int k n)=some (.int .u64 ((Nat.shiftRight a n:Nat):Int)):=by
 have b:((a:Nat):Int)=Int.ofNat a:=rfl;have e2:((n:Nat):Int)=Int.ofNat n:=rfl;rw[b,e2];simp only[af,qX,FX c];rfl
def wq{b:Nat}(h:a+b<18446744073709551616):af .add (.int .u64 a) (.int .u64 b)=some (.int .u64 ((a+b:Nat):Int)):=fK (by rw[←Int.natCast_add];exact p9 h)
def Vt:af .rem (.int .i64 a) (.int .i64 8)=some (.int .i64 ((a % 8:Nat):Int)):=by
 have e:(a:Int).tmod 8=((a % 8:Nat):Int):=by rw[Int.tmod_eq_emod_of_nonneg ω];omega
 simp[af,arith,e]
def Vs(h1:a<9223372036854775808):af .quo (.int .i64 a) (.int .i64 8)=some (.int .i64 ((a / 8:Nat):Int)):=by
 have e:fU .i64 ((a:Int).tdiv 8)=((a / 8:Nat):Int):=by
  rw[Int.tdiv_eq_ediv_of_nonneg ω,aO ω ω];omega
 have e2:af .quo (.int .i64 a) (.int .i64 8)=some (.int .i64 (fU .i64 ((a:Int).tdiv 8))):=rfl;rw[e2,e]
def uw{z:Nat}:∀{m l:List Nat},z∈l->z∈aJ base l m
 |[],l,h=>h
 |b::m,l,h=>by
  simp only[aJ];refine uw (m:=m) ?_;rw[cond_eq_ite,cond_eq_ite];split
  ·split
   ·exact h
   ·exact bz _ h
  ·exact h
def mem_merge{z:Nat}(a:z<base):∀{m l:List Nat},z∈m->z∈aJ base l m
 |b::m,l,h=>by
  simp only[aJ];rcases List.mem_cons.1 h with rfl|h
  ·refine uw ?_;rw[gW a,cond_true,cond_eq_ite];split
   ·rename_i hh;exact jR.1 hh
   ·exact b7 ..
  ·exact mem_merge a h
def yQ{l:Nat}{a:Env}{b:List Nat}{c d:aZ}{st:Nat}{p:bO}(g:h.get l=some (.loop a b c d st p))(hb:l<base):∀{e:List Nat},l∈e->gJ h base e=false
 |x::e,hm=>by
  have ih:l∈e->gJ h base e=false:=yQ g hb;by_cases hx:x=l
  ·subst hx;simp only[gJ,gW hb,cond_true,g]
  ·have f:l∈e:=by rcases List.mem_cons.1 hm with h1|h1;exact absurd h1.symm hx;exact h1
   simp only[gJ,cond_eq_ite,ih f];split
   ·split<;>simp
   ·rfl
def IT{a:Env}{b:List Nat}{c d:aZ}{st:Nat}{p:bO}(e:h1.get l=some (.loop a b c d st p))(hb:l<h.next)(f:l∈h1.log):gcA h h1 v=h1:=by
 unfold gcA;rw[yQ e hb f,M2,cond_false]
def Cd{b:Nat}{o:bT}(hb:b<base):(h.wr base b o).log=if gL h.log b=true then h.log else b::h.log:=by
 unfold Heap.wr;rw[gW hb];simp only[cond_eq_ite,if_true]
def dW{b z:Nat}{o:bT}(a:z∈(h.wr base b o).log):z=b∨z∈h.log:=by
 by_cases hb:b<base
 ·rw[Cd hb]at a;by_cases hh:gL h.log b=true
  ·rw[if_pos hh]at a;exact .inr a
  ·rw[if_neg hh]at a;exact List.mem_cons.1 a
 ·rw[Heap.aA ω]at a;exact .inr a
def rB{b:Nat}{o:bT}(hb:b<base):b∈(h.wr base b o).log:=by
 rw[Cd hb];by_cases hh:gL h.log b=true
 ·rw[if_pos hh];exact jR.1 hh
 ·rw[if_neg hh];exact b7 ..
structure YQX (l:Nat) (L LX:bT) (lo N n:Nat) (R S:Heap->Prop) (x:bO) (e:Env) (ds:Dfs) (h3:Heap):Prop where
 busy:∃o,h3.get l=some o/\busy o=true
 log:∀z∈h3.log,lo<=z/\z<N
 rel:(x= .normal/\∀h5:Heap,n<=h5.next->(∀z,z<n->z≠l->h5.get z=h3.get z)->h5.get l=some L->R h5)∨(x= .ret/\∀h5:Heap,h5.next=h3.next->(∀z,z≠l->h5.get z=h3.get z)->h5.get l=some LX->S h5)
structure YAX (T:Nat->Option aq) (l:Nat) (e:Env) (ps:List Nat) (asg body:aZ) (lo N n:Nat) (R S:Heap->Prop) (x:bO) (e2:Env) (ds2:Dfs) (h2:Heap):Prop where
 x:x= .normal
 loop:h2.get l=some (.loop e ps asg body 0 .normal)
 body:WE T n (some l) body (YQX l (.loop e ps asg body 0 .normal) (.loop e ps asg body 2 .ret) lo N n R S) e2 ds2 (h2.wr 0 l (.loop e ps asg body 1 .normal))
variable{N:Nat}
def FW.QT(Q:aK T){K:Env}{R S:Heap->Prop}(P:h.get l=some (.loop e ps asg body 0 .normal))(O:j8 e ps args=some K)(s:l<h.next)(F:lo<=l/\l<N)
 (H:WE T h.next (some l) asg (YAX T l e ps asg body lo N h.next R S) K [] h):
 FW T (.yield l) args h λr h'=>(∀z∈h'.log,lo<=z/\z<N)/\(r= .ret (.bool true)/\R h'∨r= .ret (.bool false)/\l∈h'.log/\S h'):=by
 obtain⟨x,e2,X,M,⟨m,G⟩,⟨rfl,E,W⟩⟩:=H.ok;obtain⟨x3,e3,Y,y,⟨C,j⟩,⟨⟨o,B,D⟩,g,f⟩⟩:=W.ok;have t:notReady (M.get l)=false:=by rw[E];rfl
 have i:∃a b c d p,o= .loop a b c d 1 p:=by
  unfold A.busy at D;split at D
  ·exact⟨_,_,_,_,_,rfl⟩
  ·cases D
 obtain⟨oa,ob,oc,od,op,rfl⟩:=i;rcases f with⟨rfl,f⟩|⟨rfl,f⟩
 ·have J:=(fN.all Q m).exec _ _ _ _ _ _ _ _ _ _ (G m (bl _)) (bl _);have U:=(fN.all Q C).exec _ _ _ _ _ _ _ _ _ _ (j C (bl _)) J.next
  have V:AS 0 h (y.wr 0 l (.loop e ps asg body 0 .normal)):=((J.zero.trans (AS.wr 0 M l _)).trans U.zero).trans (AS.wr 0 y l _);obtain⟨L,Z,g3⟩:=Bv (v:= .bool true) V;refine⟨.ret (.bool true),gcA h (y.wr 0 l (.loop e ps asg body 0 .normal)) (.bool true),⟨m+C+1,λn hn=> ?_⟩,?_, .inl ⟨rfl,?_⟩⟩
  ·obtain⟨k,rfl⟩:∃k,n=k+1:=⟨n-1,ω⟩;have I:=G k ω;have w:=j k ω;rw[←wr0]at w;simp only[iw,P,O,I,t,cond_false,w,B];rfl
  ·rw[g3];exact g
  ·refine f _ Z (λz u q=>(L z u).trans (Heap.eH q)) ((L l s).trans ?_);exact Heap.aM B
 ·refine⟨.ret (.bool false),y.wr h.next l (.loop e ps asg body 2 .ret),⟨m+C+1,λn hn=> ?_⟩,?_, .inr ⟨rfl,rB s,?_⟩⟩
  ·obtain⟨k,rfl⟩:∃k,n=k+1:=⟨n-1,ω⟩;have I:=G k ω;have w:=j k ω;rw[←wr0]at w;simp only[iw,P,O,I,t,cond_false,w,B]
  ·intro z u;rcases dW u with rfl|u
   ·exact F
   ·exact g z u
  ·exact f _ rfl (λz q=>Heap.eH q) (Heap.aM B)
structure LO {α:Type} (T:Nat->Option aq) (lo N l:Nat) (V:α->Value) (all:List α) (P:List α->Heap->Prop) (S:Heap->Prop):Prop where
 td:∀done x H,x∈all->Rdy H->N<=H.next->P done H->FW T (.yield l) [V x] H λr H'=>(∀z∈H'.log,lo<=z/\z<N)/\(r= .ret (.bool true)/\P (done++[x]) H'∨r= .ret (.bool false)/\l∈H'.log/\S H')
 fS:∀done H H',P done H->N<=H'.next->(∀x,x<N->H'.get x=H.get x)->P done H'
 Tp:∀H m,S H->S {H with log:=m}
 Jr:∀H,S H->∃a b c d,H.get l=some (.loop a b c d 2 .ret)
def LO.call(q:aK T){α:Type}{lo N l:Nat}{V:α->Value}{all:List α}{P:List α->Heap->Prop}{S:Heap->Prop}(Y:LO T lo N l V all P S){K:Env->Dfs->Heap->Prop}{dst:Option Nat}{done:List α}{x:α}(t:x∈all)(s:WF h)(f:lo<=h.next)(c:N<=h.next)(d:l<base)(o:P done h)
 (n:∀h',Lk lo h h'→(∀z,N<=z->z<h.next->h'.get z=h.get z)->P (done++[x]) h'→K (cN e dst (.bool true)) ds h')
 (p:∀h',Lk lo h h'→l∈h'.log->S h'→K (cN e dst (.bool false)) ds h'):FW T (.yield l) [V x] (η h) (KO K Q base dst e ds h.log):=by
 refine FW.mono' (FW.Ea q (Y.td done x _ t (.of s) c (Y.fS _ _ _ o c λ_ _=>rfl)) rfl) ?_;rintro r m ⟨b,k,a⟩;have j:Lk lo (η h) m:=Lk.pX b f λz u=>(k z u).1;rcases a with⟨rfl,a⟩|⟨rfl,g,a⟩
 ·refine⟨n _ j.call (λz v i=> ?_) (Y.fS _ _ _ a (gy c b.next) λ_ _=>rfl)⟩;exact b.same z i i (uo λg=>by have:=(k z g).2;omega)
 ·exact⟨p _ j.call (mem_merge d g) (Y.Tp _ _ a)⟩
def GrX(T:Nat->Option aq)(f:Nat)(args:List Value)(h:Heap)(lo:Nat)(P S:Heap->Prop):Prop:=CW T f args h λr h'=>Lk lo h h'∧∃v,r= .ret v/\(P h'∨S h')
structure MT (rs:List (Nat×Option (Option Nat))) (lo l:Nat) (P S:Heap->Prop) (x:bO) (e:Env) (ds:Dfs) (h1:Heap):Prop where
 ok:(x= .normal∨x= .ret)/\ds=[]/\fD lo h1.log/\(∃vs,cI h1 e rs=some vs)/\(P h1∨l∈h1.log/\S h1)
variable{P:Heap->Prop}
def MV{S:Heap->Prop}(a:fD lo h.log)(hr:cI h e rs=some vs)(b:l∈h.log)(c:S h):MT rs lo l P S .ret e [] h:=⟨⟨.inr rfl,rfl,a,⟨vs,hr⟩, .inr ⟨b,c⟩⟩⟩
def MU{S:Heap->Prop}(a:fD lo h.log)(hr:cI h e rs=some vs)(b:P h):MT rs lo l P S .normal e [] h:=⟨⟨.inl rfl,rfl,a,⟨vs,hr⟩, .inl b⟩⟩
def GrX.of(C:aK T){c:aZ}{S:Heap->Prop}(A:T f=some (.code c rs))(n:lo<=h.next)(k:l<h.next)
 (y:∀g h2:Heap,h.next<=h2.next->(∀x,x<h.next->h2.get x=g.get x)->P g->P h2)(z:∀H,S H->∃a b c d,H.get l=some (.loop a b c d 2 .ret))(H:WE T h.next none c (MT rs lo l P S) (fu 0 args) [] h):GrX T f args h lo P S:=by
 obtain⟨x,e,ds,g,⟨m,s⟩,⟨D,rfl,B,⟨j,p⟩,i⟩⟩:=H.ok;have r:=(fN.all C m).exec _ _ _ _ _ _ _ _ _ _ (s m (bl _)) (bl _);obtain⟨t,u,w,E⟩:=nI (v:=fB j) r;have q:Lk lo h (gcA h g (fB j))/\∃v,Res.ret (fB j)= .ret v/\(P (gcA h g (fB j))∨S (gcA h g (fB j))):=by
  refine⟨Lk.pX (r.gc' _) n (by rw[w];exact B),_,rfl,?_⟩;rcases i with i|⟨hml,i⟩
  ·exact .inl (y _ _ u t i)
  ·obtain⟨a,b,c,d,o⟩:=z _ i;rw[IT o k hml];exact .inr i
 refine CW.code A ⟨x,e,[],g,⟨m,s⟩,?_⟩;unfold zb;rcases D with rfl|rfl<;>(simp only[p];exact q)
def vp{base:Nat}:∀{m l:List Nat},fD base m->aJ base l m=l
 |[],_,_=>rfl
 |b::m,l,h=>by
  have hb:=h b (b7 ..);simp only[aJ,sE (show¬b<base by omega),cond_false];exact vp λx a=>h x (bz _ a)
def Cc{f:Operand}{cap:Array Value}{S:Heap->Prop}(hr:qS h1 rnd=true)(D:ev h1 e f=some (.func (.func g) first cap))(o:iu (T g)=false)
 (n:base<=lo)(q:lo<=h1.next)(j:h1.log=[])(F:WF h1)
 (x:GrX T g (eL first.toList (eL [.func (.yield h1.next) #[] #[]] cap.toList)) {h1.push (.loop e ps asg body 0 .normal)with log:=[]} lo P S)
 (B:∀H,P H->∃a b c d,H.get h1.next=some (.loop a b c d 0 .normal))(C:∀H,S H->∃a b c d,H.get h1.next=some (.loop a b c d 2 .ret))
 (y:∀h h3:Heap,h3.log=[]->WF h3->h1.next<h3.next->h3.next=h.next->(∀z,z≠h1.next->h3.get z=h.get z)->P h->Q .normal e ds h3)
 (A:∀h h3:Heap,h3.log=[]->WF h3->h1.next<h3.next->h3.next=h.next->(∀z,z≠h1.next->h3.get z=h.get z)->S h->Q .ret e ds h3):WE T base rnd (.rangeFunc f ps asg body) Q e ds h1:=by
 refine vL hr D o (CW.mono x ?_);rintro r h ⟨k,v,rfl,i⟩;have m:fD base h.log:=λz E=>gy n (k.log (fD.nil _) z E);have s:(({h with log:=aJ base h1.log h.log}:Heap).wr base h1.next .dead).log=[]:=by
  rw[Heap.aA ω];show aJ base h1.log h.log=[];rw[vp m,j]
 have t:WF (({h with log:=aJ base h1.log h.log}:Heap).wr base h1.next .dead):=((k.wf ((F.push _).log _)).log _).as (AS.wr _ _ _ _);have u:h1.next<h.next:=k.next
 have w:∀z,z≠h1.next->(({h with log:=aJ base h1.log h.log}:Heap).wr base h1.next .dead).get z=h.get z:=λz p=>Heap.eH p
 rcases i with i|i
 ·obtain⟨a,b,c,d,l⟩:=B _ i;exact⟨_,rfl,_,_,_,_,_,_,l,rfl,y h _ s t u rfl w i⟩
 ·obtain⟨a,b,c,d,l⟩:=C _ i;exact⟨_,rfl,_,_,_,_,_,_,l,rfl,A h _ s t u rfl w i⟩
structure abM {α:Type} (px:bO) (T:Nat->Option aq) (lo N l:Nat) (V:α->List Value) (all:List α) (P:List α->Heap->Prop) (S:Heap->Prop):Prop where
 td:∀done x H,x∈all->Rdy H->N<=H.next->P done H->FW T (.yield l) (V x) H λr H'=>(∀z∈H'.log,lo<=z/\z<N)/\(r= .ret (.bool true)/\P (done++[x]) H'∨r= .ret (.bool false)/\l∈H'.log/\S H')
 fS:∀done H H',P done H->N<=H'.next->(∀x,x<N->H'.get x=H.get x)->P done H'
 Tp:∀H m,S H->S {H with log:=m}
 Jr:∀H,S H->∃a b c d,H.get l=some (.loop a b c d 2 px)
def Qt{b:aZ}(H:WE T base rnd b Q e ds h):WE T base rnd (.scope b) Q e ds h:=by
 obtain⟨x,f,a,g,⟨m,c⟩,d⟩:=H.ok;exact⟨_,_,_,_,⟨m+1,λn i=>by
  obtain⟨k,rfl⟩:∃k,n=k+1:=⟨n-1,ω⟩;simp only[di,c k ω]⟩,d⟩
def jJ(h:Heap)(q:Nat):Prop:=∃vs own t,h.get q=some (.cells vs own t)/\dQ vs=false
def wW{q n:Nat}(a:q<n)(c:jJ h q):∀{l:List Nat},q∈l->gJ h n l=false
 |b::l,hm=>by
  obtain⟨vs,own,t,g,hs⟩:=c;rcases List.mem_cons.1 hm with rfl|hm
  ·simp only[gJ,gW a,cond_true,g,hs,cond_false]
  ·have d:=wW a ⟨vs,own,t,g,hs⟩ hm;simp only[gJ];split<;>simp[d,cond_eq_ite]
def u9{q:Nat}(c:q<h.next)(b:q∈h1.log)(a:jJ h1 q):gcA h h1 v=h1:=by
 unfold gcA;rw[wW c a b,M2];rfl
def RO(a:h.log=[]):∀x,(gcA h h v).get x=h.get x:=by
 intro x;unfold gcA;rw[a];cases dA v<;>simp[gJ,pK,Heap.get,aT]
structure YQK (l q:Nat) (L:bT) (lo n:Nat) (R:Heap->Prop) (x:bO) (e:Env) (ds:Dfs) (h3:Heap):Prop where
 x:x= .normal
 busy:∃o,h3.get l=some o/\busy o=true
 log:∀z∈h3.log,lo<=z
 kept:q∈h3.log
 abJ:jJ h3 q
 rel:R (h3.wr 0 l L)
structure YAK (T:Nat->Option aq) (l q:Nat) (e:Env) (ps:List Nat) (asg body:aZ) (lo n:Nat) (R:Heap->Prop) (x:bO) (e2:Env) (ds2:Dfs) (h2:Heap):Prop where
 x:x= .normal
 loop:h2.get l=some (.loop e ps asg body 0 .normal)
 body:WE T n (some l) body (YQK l q (.loop e ps asg body 0 .normal) lo n R) e2 ds2 (h2.wr 0 l (.loop e ps asg body 1 .normal))
def FW.QS(hp:aK T){q:Nat}{D:Env}{R:Heap->Prop}(N:h.get l=some (.loop e ps asg body 0 .normal))(M:j8 e ps args=some D)(O:l<h.next)(S:q<h.next)(B:q≠l)
 (H:WE T h.next (some l) asg (YAK T l q e ps asg body lo h.next R) D [] h):FW T (.yield l) args h λr h'=>r= .ret (.bool true)/\(∀z∈h'.log,lo<=z)/\q∈h'.log/\R h':=by
 obtain⟨x,e2,I,L,⟨m,P⟩,⟨rfl,v,G⟩⟩:=H.ok;obtain⟨x3,Y,J,s,⟨V,w⟩,⟨rfl,⟨o,Q,u⟩,i,E,⟨X,C,t,K,U⟩,j⟩⟩:=G.ok;have y:notReady (L.get l)=false:=by rw[v];rfl
 have g:∃a b c d p,o= .loop a b c d 1 p:=by
  unfold A.busy at u;split at u
  ·exact⟨_,_,_,_,_,rfl⟩
  ·cases u
 obtain⟨oa,ob,oc,od,op,rfl⟩:=g;have f:gcA h (s.wr 0 l (.loop e ps asg body 0 .normal)) (.bool true)=s.wr 0 l (.loop e ps asg body 0 .normal):=u9 (q:=q) S (by rw[Heap.aA ω];exact E) ⟨X,C,t,(Heap.eH B).trans K,U⟩;refine⟨.ret (.bool true),gcA h (s.wr 0 l (.loop e ps asg body 0 .normal)) (.bool true),⟨m+V+1,λn Z=> ?_⟩,rfl,?_,?_,?_⟩
 ·obtain⟨k,rfl⟩:∃k,n=k+1:=⟨n-1,ω⟩;have W:=P k ω;have F:=w k ω;rw[←wr0]at F;simp only[iw,N,M,W,y,cond_false,F,Q];rfl
 ·rw[f,Heap.aA ω];exact i
 ·rw[f,Heap.aA ω];exact E
 ·rw[f];exact j
structure JI {α:Type} (T:Nat->Option aq) (lo N l q:Nat) (V:α->Value) (all:List α) (P:List α->Heap->Prop):Prop where
 hq:q<N
 td:∀done x rest H,all=done++x::rest->Rdy H->N<=H.next->P done H->FW T (.yield l) [V x] H λr H'=>r= .ret (.bool true)/\(∀z∈H'.log,lo<=z)/\q∈H'.log/\jJ H' q/\P (done++[x]) H'
 fS:∀done H H',P done H->H.next<=H'.next->(∀x,x<H.next->H'.get x=H.get x)->P done H'
def JI.call(p:aK T){α:Type}{lo N l q:Nat}{V:α->Value}{all:List α}{P:List α->Heap->Prop}(Y:JI T lo N l q V all P){K:Env->Dfs->Heap->Prop}{dst:Option Nat}{done a:List α}{x:α}(u:all=done++x::a)(t:WF h)(b:lo<=h.next)(i:N<=h.next)(c:q<base)(j:P done h)
 (g:∀h',Lk lo h h'→q∈h'.log/\jJ h' q->P (done++[x]) h'→K (cN e dst (.bool true)) ds h'):FW T (.yield l) [V x] (η h) (KO K Q base dst e ds h.log):=by
 refine FW.mono' (FW.Ea p (Y.td done x a _ u (.of t) i (Y.fS _ _ _ j (bl _) λ_ _=>rfl)) rfl) ?_;rintro r d ⟨f,rfl,n,o,k,s⟩;have m:Lk lo (η h) d:=Lk.pX f b λz v=>n z v;exact⟨g _ m.call ⟨mem_merge c o,k⟩ (Y.fS _ _ _ s (bl _) λ_ _=>rfl)⟩
def Gr.ofK(r:aK T){c:aZ}{Q:Value->Heap->Prop}(p:T f=some (.code c rs))(i:lo<=h.next)
 (o:∀v a,AS h.next h a->Q v a->d v (gcA h a v))(H:WE T h.next none c (U7 rs lo Q) (fu 0 args) [] h):Gr T f args h lo d:=by
 obtain⟨x,e,ds,a,⟨m,l⟩,⟨t,rfl,q,b,j,s⟩⟩:=H.ok;have g:=(fN.all r m).exec _ _ _ _ _ _ _ _ _ _ (l m (bl _)) (bl _);obtain⟨u,w,n,y⟩:=nI (v:=fB b) g;have k:Lk lo h (gcA h a (fB b))/\∃v,Res.ret (fB b)= .ret v/\d v (gcA h a (fB b)):=
  ⟨Lk.pX (g.gc' _) i (by rw[n];exact q),_,rfl,o _ _ g s⟩
 refine CW.code p ⟨x,e,[],a,⟨m,l⟩,?_⟩;unfold zb;rcases t with rfl|rfl<;>(simp only[j];exact k)
def RT{q:Nat}{V:α->Value}{all done:List α}{P:List α->Heap->Prop}(Y:JI T lo N l q V all P)(e:q<h.next)(d:AS h.next h h1)(a:h.log=[])(p:v= .tuple #[]/\P done h1/\(h1=h∨q∈h1.log/\jJ h1 q)):v= .tuple #[]/\P done (gcA h h1 v):=by
 obtain⟨f,c,b⟩:=p;refine⟨f,?_⟩;rcases b with rfl|⟨b,hd⟩
 ·exact Y.fS _ _ _ c (nI d).2.1 λx _=>RO a x
 ·rw[u9 e b hd];exact c
def Lo{f:Operand}{cap:Array Value}(hr:qS h1 rnd=true)(w:ev h1 e f=some (.func (.func g) first cap))(m:iu (T g)=false)
 (l:base<=lo)(p:lo<=h1.next)(i:h1.log=[])(C:WF h1)
 (t:Gr T g (eL first.toList (eL [.func (.yield h1.next) #[] #[]] cap.toList)) {h1.push (.loop e ps asg body 0 .normal)with log:=[]} lo λv h'=>v= .tuple #[]/\P h')
 (u:∀H,P H->∃a b c d,H.get h1.next=some (.loop a b c d 0 .normal))
 (K:∀h h3:Heap,h3.log=[]->WF h3->h1.next<h3.next->h3.next=h.next->(∀z,z≠h1.next->h3.get z=h.get z)->(∀z,z<lo->h3.get z=h1.get z)->P h->Q .normal e ds h3):WE T base rnd (.rangeFunc f ps asg body) Q e ds h1:=by
 refine vL hr w m (CW.mono t ?_);rintro r h ⟨j,v,rfl,rfl,q⟩;have k:fD base h.log:=λz o=>gy l (j.log (fD.nil _) z o);have y:(({h with log:=aJ base h1.log h.log}:Heap).wr base h1.next .dead).log=[]:=by
  rw[Heap.aA ω];show aJ base h1.log h.log=[];rw[vp k,i]
 have A:WF (({h with log:=aJ base h1.log h.log}:Heap).wr base h1.next .dead):=((j.wf ((C.push _).log _)).log _).as (AS.wr _ _ _ _);have B:h1.next<h.next:=j.next
 have s:∀z,z≠h1.next->(({h with log:=aJ base h1.log h.log}:Heap).wr base h1.next .dead).get z=h.get z:=λz n=>Heap.eH n
 obtain⟨a,b,c,d,x⟩:=u _ q;refine⟨_,rfl,_,_,_,_,_,_,x,rfl,K h _ y A B rfl s (λz o=>(s z ω).trans ((j.old z o).trans ?_)) q⟩;exact Heap.eF ω
structure JJ {α:Type} (T:Nat->Option aq) (lo N l q:Nat) (V:α->List Value) (all:List α) (P:List α->Heap->Prop) (W:Heap->Nat->Prop):Prop where
 hq:q<N
 td:∀done x H,x∈all->done.length<100000->Rdy H->N<=H.next->P done H->FW T (.yield l) (V x) H λr H'=>r= .ret (.bool true)/\(∀z∈H'.log,lo<=z)/\q∈H'.log/\jJ H' q/\P (done++[x]) H'∧(∀z,z<H.next->¬W H z->H'.get z=H.get z)/\(∀z,W H' z->W H z∨H.next<=z)
 fS:∀done H H',P done H->H.next<=H'.next->(∀x,x<H.next->H'.get x=H.get x)->P done H'
 wst:∀done H H',P done H->H.next<=H'.next->(∀x,x<H.next->H'.get x=H.get x)->∀z,W H' z->W H z
 wlt:∀done H z,P done H->W H z->z<H.next
def JJ.call(A:aK T){α:Type}{lo N l q:Nat}{V:α->List Value}{all:List α}{P:List α->Heap->Prop}{W:Heap->Nat->Prop}(Y:JJ T lo N l q V all P W){K:Env->Dfs->Heap->Prop}{dst:Option Nat}{done:List α}{x:α}(C:x∈all)(a:done.length<100000)(B:WF h)(j:lo<=h.next)(s:N<=h.next)(k:q<base)(d:P done h)
 (p:∀h',Lk lo h h'→q∈h'.log/\jJ h' q->P (done++[x]) h'→(∀z,z<h.next->¬W h z->h'.get z=h.get z)->(∀z,W h' z->W h z∨h.next<=z)->K (cN e dst (.bool true)) ds h'):FW T (.yield l) (V x) (η h) (KO K Q base dst e ds h.log):=by
 have f:P done (η h):=Y.fS _ _ _ d (bl _) λ_ _=>rfl;refine FW.mono' (FW.Ea A (Y.td done x _ C a (.of B) s f) rfl) ?_;rintro r c ⟨o,rfl,v,w,t,m,g,i⟩;have u:Lk lo (η h) c:=Lk.pX o j λz b=>v z b;refine⟨p _ u.call ⟨mem_merge k w,t⟩ (Y.fS _ _ _ m (bl _) λ_ _=>rfl) (λz b y=>g z b λq=>y (Y.wst _ h (η h) d (bl _) (λ_ _=>rfl) z q)) λz b=> ?_⟩;have n:=Y.wst _ c {c with log:=aJ base h.log c.log} m (bl _) (λ_ _=>rfl) z b;exact(i z n).imp (λq=>Y.wst _ h (η h) d (bl _) (λ_ _=>rfl) z q) id
def Nu{q:Nat}{V:α->List Value}{all done:List α}{P:List α->Heap->Prop}{W:Heap->Nat->Prop}(Y:JJ T lo N l q V all P W)(g:q<h.next)(e:AS h.next h h1)(p:v= .tuple #[]/\P done h1/\(((∀x,x<h.next->h1.get x=h.get x)/\P done h)∨q∈h1.log/\jJ h1 q)):v= .tuple #[]/\P done (gcA h h1 v):=by
 obtain⟨i,f,a⟩:=p;refine⟨i,?_⟩;rcases a with⟨he,h0⟩|⟨a,hd⟩
 ·obtain⟨c,d,_⟩:=nI (v:=v) e;exact Y.fS _ _ _ h0 d λx b=>(c x b).trans (he x b)
 ·rw[u9 g a hd];exact f
structure abO (rs:List (Nat×Option (Option Nat))) (S:Nat->Prop) (Q Qp:Value->Heap->Prop) (x:bO) (e:Env) (ds:Dfs) (h1:Heap):Prop where
 ok:ds=[]/\(∀z∈h1.log,S z)/\(((x= .normal∨x= .ret)/\∃vs,cI h1 e rs=some vs/\Q (fB vs) h1)∨∃v,x= .panic v/\Qp v h1)
structure SE (T:Nat->Option aq) (base:Nat) (c:aZ) (K:bO->Env->Option Value->Heap->Prop) (e:Env) (p:Option Value) (h:Heap):Prop where
 ok:∃x e' p' h',(∃m,∀n,m<=n->jE T n base c e p h=some (x,e',p',h'))/\K x e' p' h'
variable {p:Option Value} {K:bO->Env->Option Value->Heap->Prop} {KO':Env->Option Value->Heap->Prop}
end Go.A
end
section
namespace Go.A
variable {T:Nat->Option aq} {base:Nat} {rnd:Option Nat} {Q Q':XQ} {e e2:Env} {ds:Dfs} {h:Heap} {os:List bg} {dst:Option Nat} {v u:Value} {x y:Operand} {keep k2:List Nat} {K:Env->Dfs->Heap->Prop}
def y1(H:Q .normal e2 ds h)(a:cZ e keep=e2:=by simp only[cZ,cN,geT,fu,cond_true,cond_false,Nat.beq];exact rfl):KR keep Q .normal e ds h:=YK a H
def y3(H:K e2 ds h)(a:cZ e keep=e2:=by simp only[cZ,cN,geT,fu,cond_true,cond_false,Nat.beq];exact rfl):WO T base rnd (KR keep (KS K Q)) [] e ds h:=bA (YK a (wj H))
def y4{b:aZ}(H:WO T base rnd (KR keep (KS (WE T base rnd b Q) Q)) os e ds h):WE T base rnd (.seq (.region os keep) b) Q e ds h:=AO (tQ H)
def yM(H:WO T base rnd Q os (cN e dst v) ds h)(a:ev h e x=some v:=by rfl):WO T base rnd Q (⟨dst, .mov x,none⟩::os) e ds h:=aG (dM a) H
def yE{i:Nat}{vs:Array Value}(H:WO T base rnd Q os (cN e dst v) ds h)(b:ev h e x=some (.tuple vs):=by rfl)(a:bN vs.toList i=some v:=by rfl):WO T base rnd Q (⟨dst, .extract x i,none⟩::os) e ds h:=aG (A9 b a) H
variable{o sz:Nat}{vs:List Value}{own:Bool}
def yL{b:Nat}(H:WO T base rnd Q os (cN e dst v) ds h)(c:ev h e x=some (.pointer (some ⟨b,o,none⟩)):=by rfl)
 (hb:h.get b=some (.cells vs own sz):=by first|assumption|exact z3 _ _|exact Go.A.z8 ω ω|(simp(disch:=first|omega|(simp only[z1,z2];omega))only[z3,z4,z5,z6,z7,z1,z2, *];done)|(simp(disch:=first|omega|(simp only[z1,z2];omega))only[z3,z4,z5,z6,z7,z1,z2, *];exact rfl)|(simp(disch:=first|omega|(simp only[z1,z2];omega)|(simp only[z1,z2];done)|fail)only[z8,z4,z5,z9,z7,z1,z2, *];done)|(simp(disch:=first|omega|(simp only[z1,z2];omega)|(simp only[z1,z2];done)|fail)only[z8,z4,z5,z9,z7,z1,z2, *];exact rfl))
 (a:bN vs o=some v:=by rfl):WO T base rnd Q (⟨dst, .load none x,none⟩::os) e ds h:=aG (cw c hb a) H
variable{n:Nat}
def yN{b:Nat}{l:List Value}(H:WO T base rnd Q os (cN e dst (.agg l.toArray)) ds h)(d:ev h e x=some (.pointer (some ⟨b,o,none⟩)):=by rfl)
 (hb:h.get b=some (.cells vs own sz):=by first|assumption|exact z3 _ _|exact Go.A.z8 ω ω|(simp(disch:=first|omega|(simp only[z1,z2];omega))only[z3,z4,z5,z6,z7,z1,z2, *];done)|(simp(disch:=first|omega|(simp only[z1,z2];omega))only[z3,z4,z5,z6,z7,z1,z2, *];exact rfl)|(simp(disch:=first|omega|(simp only[z1,z2];omega)|(simp only[z1,z2];done)|fail)only[z8,z4,z5,z9,z7,z1,z2, *];done)|(simp(disch:=first|omega|(simp only[z1,z2];omega)|(simp only[z1,z2];done)|fail)only[z8,z4,z5,z9,z7,z1,z2, *];exact rfl))
 (c:cm n (bQ o vs)=l:=by rfl)(a:Nat.beq (bS l) n=true:=by rfl):WO T base rnd Q (⟨dst, .load (some n) x,none⟩::os) e ds h:=aG (bW d hb c a) H
def yS{b:Nat}{ws:List Value}(H:WO T base rnd Q os (cN e dst (.tuple #[])) ds (h.wr base b (.cells ws true sz)))(d:ev h e x=some (.pointer (some ⟨b,o,none⟩)):=by rfl)(f:ev h e y=some v:=by rfl)
 (hb:h.get b=some (.cells vs true sz):=by first|assumption|exact z3 _ _|exact Go.A.z8 ω ω|(simp(disch:=first|omega|(simp only[z1,z2];omega))only[z3,z4,z5,z6,z7,z1,z2, *];done)|(simp(disch:=first|omega|(simp only[z1,z2];omega))only[z3,z4,z5,z6,z7,z1,z2, *];exact rfl)|(simp(disch:=first|omega|(simp only[z1,z2];omega)|(simp only[z1,z2];done)|fail)only[z8,z4,z5,z9,z7,z1,z2, *];done)|(simp(disch:=first|omega|(simp only[z1,z2];omega)|(simp only[z1,z2];done)|fail)only[z8,z4,z5,z9,z7,z1,z2, *];exact rfl))
 (a:(Nat.beq (bS (cellsOf v)) n&&Nat.ble (o+n) (bS vs)&&eN (cellsOf v))=true:=by rfl)(c:dP vs o (cellsOf v)=ws:=by rfl):WO T base rnd Q (⟨dst, .store n x y,none⟩::os) e ds h:=aG (kC d f hb a c) H
def yF{off b:Nat}(H:WO T base rnd Q os (cN e dst (.pointer (some ⟨b,o+off,none⟩))) ds h)(a:ev h e x=some (.pointer (some ⟨b,o,none⟩)):=by rfl):WO T base rnd Q (⟨dst, .dN off x,none⟩::os) e ds h:=aG (dL a) H
def yB(H:WO T base rnd Q os (cN e dst (.pointer (some ⟨h.next,0,none⟩))) ds (h.push (.cells vs true 1)))(b:ev h e x=some v:=by rfl)(a:cellsOf v=vs:=by rfl):WO T base rnd Q (⟨dst, .box x,none⟩::os) e ds h:=aG (Xv b a) H
variable{c:Operand}
def yT(H:WO T base rnd Q os (cN e dst v) ds h)(a:ev h e c=some (.bool true):=by rfl)(b:ev h e x=some v:=by rfl):WO T base rnd Q (⟨dst, .pick c x y,none⟩::os) e ds h:=aG (xR a b) H
def yU(H:WO T base rnd Q os (cN e dst v) ds h)(a:ev h e c=some (.bool false):=by rfl)(b:ev h e y=some v:=by rfl):WO T base rnd Q (⟨dst, .pick c x y,none⟩::os) e ds h:=aG (Ck a b) H
variable{op:AOp}{t:Nat}
def yO{b:Bool}(H:WO T base rnd Q (⟨dst,op,none⟩::os) e ds h)(a:geT e t=some (.bool b):=by rfl):WO T base rnd Q (⟨dst,op,some (t,b)⟩::os) e ds h:=ZE a H
def yP{b c:Bool}(H:WO T base rnd Q os (cN e dst (.tuple #[])) ds h)(a:geT e t=some (.bool c):=by rfl)(d:c= !b:=by rfl):WO T base rnd Q (⟨dst,op,some (t,b)⟩::os) e ds h:=WZ a d H
def yC{f:Operand}{args:List Operand}{a:Value}{as:List Value}{g:Nat}{first cap:Array Value}{all:List Value}(H:FW T (.func g) all (η h) (KO (WO T base rnd Q os) Q base dst e ds h.log))(c:ev h e f=some a:=by rfl)(b:evs h e args=some as:=by rfl)(i:a= .func (.func g) first cap:=by rfl)(d:eL first.toList (eL as cap.toList)=all:=by rfl):
 WO T base rnd Q (⟨dst, .call f args,none⟩::os) e ds h:=oK (yx c b i d) H
def yX{a b:aZ}(H:WE T base rnd b Q e ds h)(d:ev h e c=some (.bool false):=by rfl):WE T base rnd (.cond c a b) Q e ds h:=Qs d H
def yY{a b:aZ}(H:WE T base rnd a Q e ds h)(d:ev h e c=some (.bool true):=by rfl):WE T base rnd (.cond c a b) Q e ds h:=TS d H
def yA{b:Bool}(H:WO T base rnd Q os (cN e dst (.bool !b)) ds h)(a:ev h e x=some (.bool b):=by rfl):WO T base rnd Q (⟨dst, .un .not x,none⟩::os) e ds h:=aG (Uq a) H
def yD{a:Option Addr}{c:Nat}(H:WO T base rnd Q os (cN e dst (.int .i64 n)) ds h)(b:ev h e x=some (.slice a n c):=by rfl):WO T base rnd Q (⟨dst, .len 1 x,none⟩::os) e ds h:=aG (vV b) H
section
variable {k:IntKind} {a b:Int}
variable{op:BinOp}
def yt{u:Value}(H:WO T base rnd Q os (cN e dst (.bool true)) ds h)(b:ev h e x=some v:=by rfl)(c:ev h e y=some u:=by rfl)(a:af op v u=some (.bool true):=by first|exact oS ω|exact fF ω|exact dz ω|exact fh ω|exact ur ω|exact iY ω):
 WO T base rnd Q (⟨dst, .bin (.num op) x y,none⟩::os) e ds h:=aG (rD b c a) H
def yf{u:Value}(H:WO T base rnd Q os (cN e dst (.bool false)) ds h)(b:ev h e x=some v:=by rfl)(c:ev h e y=some u:=by rfl)(a:af op v u=some (.bool false):=by first|exact uu ω|exact fE ω|exact dG ω|exact gT ω|exact jH ω|exact uv ω):
 WO T base rnd Q (⟨dst, .bin (.num op) x y,none⟩::os) e ds h:=aG (rD b c a) H
def abH{n:Nat}(H:WO T base rnd Q os (cN e dst (.int .i64 (n+1:Nat))) ds h)(b:ev h e x=some (.int .i64 n):=by rfl)(c:ev h e y=some (.int .i64 1):=by rfl)(a:n<9223372036854775807:=by omega):WO T base rnd Q (⟨dst, .bin (.num .add) x y,none⟩::os) e ds h:=aG (rD b c (YP a)) H
end
section
variable {ops:List bg} {bf:List Nat} {rs:List Rec} {R:Env->Heap->Prop} {i mask:Nat} {is:List Nat} {g:Option (Nat×Bool)} {er:Env}
def qM(H:WD T base ops bf R is (⟨i,⟨dst, .mov x,g⟩,er,v, .quiet⟩::rs) (cN e dst v) h)(c:bN ops i=some ⟨dst, .mov x,g⟩:=by rfl)(b:bN bf i=some mask:=by rfl)(a:cZ e (dK ⟨dst, .mov x,g⟩)=er:=by rfl)(d:cg er g=some true:=by rfl)(f:ev h er x=some v:=by rfl):WD T base ops bf R (i::is) rs e h:=bI c b a d rfl rfl (dM f) H
variable{o:Nat}
def qF{off b:Nat}(H:WD T base ops bf R is (⟨i,⟨dst, .dN off x,g⟩,er, .pointer (some ⟨b,o+off,none⟩), .quiet⟩::rs) (cN e dst (.pointer (some ⟨b,o+off,none⟩))) h)(d:bN ops i=some ⟨dst, .dN off x,g⟩:=by rfl)(c:bN bf i=some mask:=by rfl)(a:cZ e (dK ⟨dst, .dN off x,g⟩)=er:=by rfl)(f:cg er g=some true:=by rfl)(j:ev h er x=some (.pointer (some ⟨b,o,none⟩)):=by rfl):
 WD T base ops bf R (i::is) rs e h:=bI d c a f rfl rfl (dL j) H
variable{sz:Nat}{vs:List Value}{own:Bool}
def qL{b:Nat}(H:WD T base ops bf R is (⟨i,⟨dst, .load none x,g⟩,er,v, .quiet⟩::rs) (cN e dst v) h)(d:bN ops i=some ⟨dst, .load none x,g⟩:=by rfl)(c:bN bf i=some mask:=by rfl)(a:cZ e (dK ⟨dst, .load none x,g⟩)=er:=by rfl)(j:cg er g=some true:=by rfl)(k:ev h er x=some (.pointer (some ⟨b,o,none⟩)):=by rfl)
 (hb:h.get b=some (.cells vs own sz):=by first|assumption|exact z3 _ _|exact Go.A.z8 ω ω|(simp(disch:=first|omega|(simp only[z1,z2];omega))only[z3,z4,z5,z6,z7,z1,z2, *];done)|(simp(disch:=first|omega|(simp only[z1,z2];omega))only[z3,z4,z5,z6,z7,z1,z2, *];exact rfl)|(simp(disch:=first|omega|(simp only[z1,z2];omega)|(simp only[z1,z2];done)|fail)only[z8,z4,z5,z9,z7,z1,z2, *];done)|(simp(disch:=first|omega|(simp only[z1,z2];omega)|(simp only[z1,z2];done)|fail)only[z8,z4,z5,z9,z7,z1,z2, *];exact rfl))
 (f:bN vs o=some v:=by rfl):WD T base ops bf R (i::is) rs e h:=bI d c a j rfl rfl (cw k hb f) H
def qN{n b:Nat}{l:List Value}(H:WD T base ops bf R is (⟨i,⟨dst, .load (some n) x,g⟩,er, .agg l.toArray, .quiet⟩::rs) (cN e dst (.agg l.toArray)) h)(f:bN ops i=some ⟨dst, .load (some n) x,g⟩:=by rfl)(d:bN bf i=some mask:=by rfl)(a:cZ e (dK ⟨dst, .load (some n) x,g⟩)=er:=by rfl)(k:cg er g=some true:=by rfl)(m:ev h er x=some (.pointer (some ⟨b,o,none⟩)):=by rfl)
 (hb:h.get b=some (.cells vs own sz):=by first|assumption|exact z3 _ _|exact Go.A.z8 ω ω|(simp(disch:=first|omega|(simp only[z1,z2];omega))only[z3,z4,z5,z6,z7,z1,z2, *];done)|(simp(disch:=first|omega|(simp only[z1,z2];omega))only[z3,z4,z5,z6,z7,z1,z2, *];exact rfl)|(simp(disch:=first|omega|(simp only[z1,z2];omega)|(simp only[z1,z2];done)|fail)only[z8,z4,z5,z9,z7,z1,z2, *];done)|(simp(disch:=first|omega|(simp only[z1,z2];omega)|(simp only[z1,z2];done)|fail)only[z8,z4,z5,z9,z7,z1,z2, *];exact rfl))
 (j:cm n (bQ o vs)=l:=by rfl)(c:Nat.beq (bS l) n=true:=by rfl):WD T base ops bf R (i::is) rs e h:=bI f d a k rfl rfl (bW m hb j c) H
def qE{j:Nat}{vs:Array Value}(H:WD T base ops bf R is (⟨i,⟨dst, .extract x j,g⟩,er,v, .quiet⟩::rs) (cN e dst v) h)(c:bN ops i=some ⟨dst, .extract x j,g⟩:=by rfl)(b:bN bf i=some mask:=by rfl)(a:cZ e (dK ⟨dst, .extract x j,g⟩)=er:=by rfl)(f:cg er g=some true:=by rfl)(k:ev h er x=some (.tuple vs):=by rfl)(d:bN vs.toList j=some v:=by rfl):
 WD T base ops bf R (i::is) rs e h:=bI c b a f rfl rfl (A9 k d) H
def qC{f:Operand}{args:List Operand}{a:Value}{as:List Value}{k:Nat}{first cap:Array Value}{all:List Value}(H:FW T (.func k) all (η h) (KD (WD T base ops bf R is) base mask rs dst e h.log))(m:bN ops i=some ⟨dst, .call f args,g⟩:=by rfl)(l:bN bf i=some mask:=by rfl)(c:cZ e (dK ⟨dst, .call f args,g⟩)=er:=by rfl)(o:cg er g=some true:=by rfl)
 (d:ev (η h) er f=some a:=by rfl)(b:evs (η h) er args=some as:=by rfl)(n:a= .func (.func k) first cap:=by rfl)(j:eL first.toList (eL as cap.toList)=all:=by rfl):WD T base ops bf R (i::is) rs e h:=TP m l c o rfl (yx d b n j) H
end
def mx(a b:Int):Int:=if b>a then b else a
variable{o size:Nat}
def uO{base:Nat}{h:Heap}{e:Env}{len b i:Nat}{k:IntKind}{x y:Operand}(d:ev h e x=some (.pointer (some ⟨b,o,none⟩)))(a:ev h e y=some (.int k (i:Nat)))(hi:i<len):aop h base e (.dx len size x y)=some (.val (.pointer (some ⟨b,o+i*size,none⟩)) h):=by
 have c:(.int k (i:Nat):Value)= .int k (Int.ofNat i):=rfl;rw[c]at a;simp only[aop,d,a,gW hi,cond_true]
def Eo{base:Nat}{h:Heap}{e:Env}{x y:Operand}{a b:Int}(c:ev h e x=some (.int .i64 a))(d:ev h e y=some (.int .i64 b)):aop h base e (.ej true [x,y])=some (.val (.int .i64 (mx a b)) h):=by
 simp only[aop,evs,c,d,mmA,if_true,dD,mx]
variable{n sz:Nat}{cs vs:List Value}
def bH{x y:Operand}{b:Nat}(f:ev h e x=some (.pointer (some ⟨b,0,none⟩)))(g:ev h e y=some (.agg cs.toArray))(hb:h.get b=some (.cells vs true sz))(c:cs.length=n)(d:vs.length=n)(h1:eN cs=true):
 aop h base e (.store n x y)=some (.val (.tuple #[]) (h.wr base b (.cells cs true sz))):=by
 have a:cellsOf (.agg cs.toArray)=cs:=by show cs.toArray.toList=cs;simp
 refine kC f g hb ?_ ?_
 ·rw[a,cK,cK,c,d,h1,tE,hF,gh (bl n)];rfl
 ·rw[a,gH ω];simp only[ST,D4,hF];rw[xi ω,wl]
def jL{x y:Operand}{b:Nat}{v:Value}(d:ev h e x=some (.pointer (some ⟨b,o,none⟩)))(f:ev h e y=some v)(hb:h.get b=some (.cells vs true sz))(a:cellsOf v=[v])(h1:eN [v]=true)(c:o<vs.length):
 aop h base e (.store 1 x y)=some (.val (.tuple #[]) (h.wr base b (.cells (vs.set o v) true sz))):=by
 refine kC d f hb ?_ ?_
 ·rw[a,h1,cK,cK,gh ω];rfl
 ·rw[a];show uq vs o v=vs.set o v;clear d f hb;induction vs generalizing o with
  |nil=>simp at c
  |cons w vs ih=>
   cases o with
   |zero=>rfl
   |succ o=>simp only[uq,List.set_cons_succ];rw[ih (by simpa using c)]
def LS{op:UnOp}{x:Operand}{a v:Value}(c:ev h e x=some a)(b:vH op a=some v):aop h base e (.un op x)=some (.val v h):=by simp only[aop,c,dD,b]
def Q9{base:Nat}{h:Heap}{e:Env}:aop h base e .mkMap=some (.val (.map (some h.next)) (h.push (.map []))):=rfl
def zK{a b:Int}(h1: -9223372036854775808<=a*b)(c:a*b<9223372036854775808):af .mul (.int .i64 a) (.int .i64 b)=some (.int .i64 (a*b)):=by
 simp[af,arith,aO h1 c]
def xm{base:Nat}:∀{m l:List Nat},fD base m->aJ base l m=l
 |[],_,_=>rfl
 |b::m,l,h=>by
  have hb:=h b (b7 ..);simp only[aJ,sE (show¬b<base by omega),cond_false];exact xm λx a=>h x (bz _ a)
variable{f:Nat}{args:List Value}{S:Nat->Prop}
def FW.gs0{base:Nat}{Q:XQ}{e:Env}{d:Dfs}{h:Heap}{b:Value->Heap->Prop}{K:Env->Dfs->Heap->Prop}{dst:Option Nat}(H:Gs T f args (η h) S b)(a:∀v (h':Heap) l,b v h'→b v {h' with log:=l})(j:∀z,S z->base<=z)(i:∀v h',h.next<=h'.next->h'.log=h.log->(∀z,z<h.next->¬S z->h'.get z=h.get z)->(WF h->WF h')->b v h'→K (cN e dst v) d h'):
 FW T (.func f) args (η h) (KO K Q base dst e d h.log):=by
 refine .func (CW.mono H ?_);rintro r g ⟨c,v,rfl,k⟩;exact⟨i v _ c.next (xm λz m=>j z ((c.log z m).elim (λq=>by cases q) id)) c.old (λw=>(c.wf (w.log [])).log _) (a v g _ k)⟩
variable{j:Nat}{hi lo:Option Operand}
def qh{base:Nat}{h:Heap}{e:Env}{b i:Nat}{x:Operand}(f:ev h e x=some (.pointer (some ⟨b,o,none⟩)))(d:bnd h e 0 lo=some i)(c:bnd h e n hi=some j)(h1:i<=j)(a:j<=n)(g:i<n)(k:n<1000000):
 aop h base e (.slice (.arr n size) x lo hi none)=some (.val (.slice (some ⟨b,o+i*size,none⟩) (j-i) (n-i)) h):=by
 simp only[aop,f,hM,d,c,pT (show n≠UNK by unfold UNK;omega),gh h1,gh a,pT (show n≠i by omega),ac5,cond_true,cond_false,fW]
def Er{base:Nat}{h:Heap}{e:Env}{b i:Nat}{x:Operand}(f:ev h e x=some (.pointer (some ⟨b,o,none⟩)))(d:bnd h e 0 lo=some i)(c:bnd h e n hi=some j)(h1:i<=j)(a:j<=n)(g:i<n)(k:n<1000000):
 aop h base e (.slice (.arr n size) x lo hi none)=some (.val (.slice (some ⟨b,o+i*size,none⟩) (j-i) (n-i)) h):=by
 simp only[aop,f,hM,d,c,pT (show n≠UNK by unfold UNK;omega),gh h1,gh a,pT (show n≠i by omega),ac5,cond_true,cond_false,fW]
variable{d:List Rec}
def iU{base:Nat}{h:Heap}{e:Env}{ops:List bg}{bf:List Nat}{rs:List Rec}{Q:Env->Heap->Prop}{i a:Nat}{is:List Nat}{dst:Option Nat}{g:Option (Nat×Bool)}{f:Env}{x y:Operand}{b:Nat}{v:Value}
 (r:bN ops i=some ⟨dst, .store 1 x y,g⟩)(q:bN bf i=some a)(p:cZ e (dK ⟨dst, .store 1 x y,g⟩)=f)(m:cg f g=some true)(s:ev (η h) f x=some (.pointer (some ⟨b,o,none⟩)))(t:ev (η h) f y=some v)(hb:h.get b=some (.cells vs true sz))
 (n:cellsOf v=[v])(h1:eN [v]=true)(k:o<vs.length)(c:b<h.next)(j:base<=b)(l:bL (h.wr base b (.cells (vs.set o v) true sz)) base [b] a rs=some d)
 (H:WD T base ops bf Q is d (cN e dst (.tuple #[])) (h.wr base b (.cells (vs.set o v) true sz))):WD T base ops bf Q (i::is) rs e h:=
 mZ r q p m rfl (jL (h:=η h) s t hb n h1 k) (MX c j _) (tX c _) l H
def kg{base:Nat}{h:Heap}{e:Env}{ops:List bg}{bf:List Nat}{rs:List Rec}{Q:Env->Heap->Prop}{i a:Nat}{is:List Nat}{dst:Option Nat}{g:Option (Nat×Bool)}{f:Env}{x y:Operand}{b:Nat}
 (q:bN ops i=some ⟨dst, .store n x y,g⟩)(o:bN bf i=some a)(m:cZ e (dK ⟨dst, .store n x y,g⟩)=f)(l:cg f g=some true)(s:ev (η h) f x=some (.pointer (some ⟨b,0,none⟩)))(t:ev (η h) f y=some (.agg cs.toArray))(hb:h.get b=some (.cells vs true sz))
 (p:cs.length=n)(r:vs.length=n)(h1:eN cs=true)(c:b<h.next)(j:base<=b)(k:bL (h.wr base b (.cells cs true sz)) base [b] a rs=some d)
 (H:WD T base ops bf Q is d (cN e dst (.tuple #[])) (h.wr base b (.cells cs true sz))):WD T base ops bf Q (i::is) rs e h:=
 mZ q o m l rfl (bH (h:=η h) s t hb p r h1) (MX c j _) (tX c _) k H
def iB{base:Nat}{e:Env}{h:Heap}{ops:List bg}{bf:List Nat}{rs:List Rec}{Q:Env->Heap->Prop}{i a:Nat}{is:List Nat}{dst:Option Nat}{x y:Operand}{b:Nat}{ws:List Value}{v:Value}{g:Option (Nat×Bool)}{f:Env}(q:bN ops i=some ⟨dst, .store n x y,g⟩)(p:bN bf i=some a)
 (m:cZ e (dK ⟨dst, .store n x y,g⟩)=f)(r:cg f g=some true)(s:ev (η h) f x=some (.pointer (some ⟨b,o,none⟩)))(t:ev (η h) f y=some v)(hb:h.get b=some (.cells vs true sz))
 (l:(Nat.beq (bS (cellsOf v)) n&&Nat.ble (o+n) (bS vs)&&eN (cellsOf v))=true)(k:dP vs o (cellsOf v)=ws)(c:b<h.next)(j:bL (h.wr base b (.cells ws true sz)) base [b] a rs=some d)
 (H:WD T base ops bf Q is d (cN e dst (.tuple #[])) (h.wr base b (.cells ws true sz))):WD T base ops bf Q (i::is) rs e h:=
 mZ q p m r rfl (kC (h:=η h) s t hb l k) (GR c _) (tX c _) j H
variable{P:Heap->Prop}
def WY{base:Nat}{rnd:Option Nat}{Q:XQ}{e:Env}{E0:Env->Env}{f:Dfs}{h:Heap}{a b:aZ}(i:WE T base rnd a (λx g d c=>x= .normal/\(∃r,g=E0 r)/\d=[]/\P c) e f h)(j:∀r c,P c→WE T base rnd b Q (E0 r) [] c):WE T base rnd (.seq a b) Q e f h:=by
 refine AO (i.mono ?_);rintro x g d c ⟨rfl,⟨r,rfl⟩,rfl,k⟩;exact wj (j r c k)
def D0{base:Nat}{rnd:Option Nat}{Q:XQ}{e E:Env}{d:Dfs}{h H:Heap}{a b:aZ}(i:WE T base rnd a (λx f c g=>x= .normal/\f=E/\c=[]/\g=H) e d h)(j:WE T base rnd b Q E [] H):WE T base rnd (.seq a b) Q e d h:=by
 refine AO (i.mono ?_);rintro x f c g ⟨rfl,rfl,rfl,rfl⟩;exact wj j
def cQ{base:Nat}{rnd:Option Nat}{Q:XQ}{e:Env}{E0:Env}{f:Dfs}{h:Heap}{a b:aZ}(i:WE T base rnd a (λx g d c=>x= .normal/\g=E0/\d=[]/\P c) e f h)(j:∀c,P c→WE T base rnd b Q E0 [] c):WE T base rnd (.seq a b) Q e f h:=by
 refine AO (i.mono ?_);rintro x g d c ⟨rfl,rfl,rfl,k⟩;exact wj (j c k)
def rU{base:Nat}{h:Heap}{b:Nat}(hb:b<h.next)(o o':bT):({(((η h):Heap).wr h.next b o).push o' with log:=aJ base h.log ((((η h):Heap).wr h.next b o).push o').log}:Heap)=(h.wr base b o).push o':=
 congrArg (λk:Heap=>k.push o') (GR hb o)
variable{c1:List Value}
def Qo{base:Nat}{e:Env}{h:Heap}{lo b:Nat}{ops:List bg}{bf:List Nat}{rs:List Rec}{Q:Env->Heap->Prop}{i:Nat}{is:List Nat}{dst:Option Nat}{g:Option (Nat×Bool)}{m:Env}{x y:Operand}{v u:Value}
 (s:Own lo h sz v n cs)(O:n<1000000)(w:0<sz)(hb:b<=100000)
 (F:bN ops i=some ⟨dst, .append sz b x y,g⟩)(E:bN bf i=some f)(D:cZ e (dK ⟨dst, .append sz b x y,g⟩)=m)(l:cg m g=some true)
 (I:ev (η h) m x=some v)(J:ev (η h) m y=some u)(G:dg (η h) sz u=some (c1,1))(r:c1.length=sz)(h1:eN c1=true)(K:eN cs=true)
 (k:fD lo h.log)(H:WF h)
 (C:∀h' lg,Own h.next h' sz (.slice (some ⟨h.next,0,none⟩) (n+1) UNK) (n+1) (cs++c1)->h.next<h'.next->fD lo h'.log->WF h'→(∀z,z<h.next->(∀q a c,v= .slice (some ⟨q,0,none⟩) a c->z≠q)->h'.get z=h.get z)->∃d,bL h' base lg f rs=some d∧WD T base ops bf Q is d (cN e dst (.slice (some ⟨h.next,0,none⟩) (n+1) UNK)) h'):WD T base ops bf Q (i::is) rs e h:=by
 have j:(2*(n+1)+768)*b<=281474976710656:=by
  have:(2*(n+1)+768)*b<=2000768*100000:=Hn ω hb;omega
 cases s with
 |nil=>
  have:=Own.full (lo:=h.next) (h:=h.push (.cells c1 true sz)) (sz:=sz) (q:=h.next) (n:=1) (cs:=c1) (bl _) (eA _) (Heap.fZ _ _) ω ω;obtain⟨d,B,p⟩:=C _ [] this (eA _) k (H.push _) (λz A _=>Heap.eF A);exact uH (n:=1) F E D l I J G ω (by simpa using j) B p
 | @full q _ _ B p q3 q4 q5=>
   have L:Own h.next ((h.wr base q .dead).push (.cells (cs++c1) true sz)) sz (.slice (some ⟨h.next,0,none⟩) (n+1) UNK) (n+1) (cs++c1):= .full (bl _) (eA _) (Heap.fZ _ _) (by rw[dk,q4,r,Bo,ab5]) ω
   obtain⟨d,M,N⟩:=C _ [q] L (eA _) (((Lk.refl lo h).wr (base:=base) (o:= .dead) B).log k) ((H.as (AS.wr base _ q .dead)).push _) (λz A t=>(Heap.eF (by exact A)).trans (Heap.eH (t q _ _ rfl)));exact mZ F E D l rfl (jc (h:=η h) (n:=1) (vs:=cs) (ws:=cs++c1) I J G ω q3 q4 w h1 j (dS _ _)) (rU p _ _) (tX p .dead) M N
def GB{x:Operand}(b:ev h e x=some (.slice none 0 0))(a:bnd h e 0 hi=some 0):aop h base e (.slice (.sl size) x none hi none)=some (.val (.slice none 0 0) h):=by
 simp only[aop,b,hM,rM,a];rfl
def WF.dJ{h:Heap}(w:WF h){x:Nat}{o:bT}(b:h.get x=some o):x<h.next:=by
 refine w.lt x (Classical.byContradiction λa=> ?_);have:=J6 a;rw[show fT h.cU x=h.get x from rfl,b]at this;cases this
def Rdy.self{h:Heap}(hr:Rdy h):((η h):Heap)=h:=by
 have:=hr.log;cases h;cases this;rfl
structure Uu (h:Heap) (rs:List (Nat×Option (Option Nat))) (S:Nat->Prop) (Q:Value->Heap->Prop) (x:bO) (e:Env) (ds:Dfs) (h1:Heap):Prop where
 ok:(x= .normal∨x= .ret)/\ds=[]/\(∀z∈h1.log,S z)/\(h1=h∨∃q,q<h.next/\q∈h1.log/\jJ h1 q)/\∃vs,cI h1 e rs=some vs/\Q (fB vs) h1
def RN{v:Value}:gcA h h v=h:=by
 unfold gcA;cases dA v&&gJ h h.next h.log<;>simp[pK,aT]
def Gs.ofK(p:aK T){c:aZ}{rs:List (Nat×Option (Option Nat))}{Q:Value->Heap->Prop}(k:T f=some (.code c rs))
 (H:WE T h.next none c (Uu h rs S Q) (fu 0 args) [] h):Gs T f args h S Q:=by
 obtain⟨x,e,ds,a,⟨m,g⟩,⟨s,rfl,o,n,i,b,r⟩⟩:=H.ok;have j:=(fN.all p m).exec _ _ _ _ _ _ _ _ _ _ (g m (bl _)) (bl _);have l:gcA h a (fB i)=a:=by
  rcases n with rfl|⟨q,hq1,hq2,hq3⟩
  ·exact RN
  ·exact u9 hq1 hq2 hq3
 have d:Ws S h a/\∃v,Res.ret (fB i)= .ret v/\Q v a:=⟨Ws.pX j o,_,rfl,r⟩;refine CW.code k ⟨x,e,[],a,⟨m,g⟩,?_⟩;unfold zb;rcases s with rfl|rfl<;>(simp only[b,l];exact d)
def JZ{h1:Heap}{rs:List (Nat×Option (Option Nat))}{Q:Value->Heap->Prop}(b:∀z∈h1.log,S z)(a:h1=h∨∃q,q<h.next/\q∈h1.log/\jJ h1 q)(hr:cI h1 e rs=some vs)(c:Q (fB vs) h1):Uu h rs S Q .normal e [] h1:=⟨⟨.inl rfl,rfl,b,a,vs,hr,c⟩⟩
def Eb{b:Nat}{o:bT}(hb:b<base):b∈(h.wr base b o).log:=by
 simp only[Heap.wr,cond_eq_ite,gW hb,if_true];split
 ·rename_i hh;exact jR.1 hh
 ·exact b7
def F7{v:Value}(b:oV v=false):∀{l:List Value},v∈l->dQ l=false
 |a::l,hm=>by
  simp only[dQ];rcases List.mem_cons.1 hm with rfl|hm
  ·rw[b];rfl
  ·rw[F7 b hm];cases oV a<;>rfl
def Qq{lo b:Nat}{ops:List bg}{bf:List Nat}{rs:List Rec}{Q:Env->Heap->Prop}{i:Nat}{is:List Nat}{dst:Option Nat}{g:Option (Nat×Bool)}{l:Env}{x y:Operand}{v u:Value}
 (s:Own lo h sz v n cs)(O:n<1000000)(A:0<sz)(hb:b<=100000)(p:base<=lo)
 (F:bN ops i=some ⟨dst, .append sz b x y,g⟩)(E:bN bf i=some f)(D:cZ e (dK ⟨dst, .append sz b x y,g⟩)=l)(k:cg l g=some true)
 (H:ev (η h) l x=some v)(I:ev (η h) l y=some u)(G:dg (η h) sz u=some (c1,1))(r:c1.length=sz)(h1:eN c1=true)(K:eN cs=true)
 (C:∀h' lg,Own h.next h' sz (.slice (some ⟨h.next,0,none⟩) (n+1) UNK) (n+1) (cs++c1)->h'.next=h.next+1->h'.log=h.log->(WF h->WF h')->(∀z,z<h.next->(∀q a c,v= .slice (some ⟨q,0,none⟩) a c->z≠q)->h'.get z=h.get z)->∃d,bL h' base lg f rs=some d∧WD T base ops bf Q is d (cN e dst (.slice (some ⟨h.next,0,none⟩) (n+1) UNK)) h'):WD T base ops bf Q (i::is) rs e h:=by
 have j:(2*(n+1)+768)*b<=281474976710656:=by
  have:(2*(n+1)+768)*b<=2000768*100000:=Hn ω hb;omega
 cases s with
 |nil=>
  have:=Own.full (lo:=h.next) (h:=h.push (.cells c1 true sz)) (sz:=sz) (q:=h.next) (n:=1) (cs:=c1) (bl _) (eA _) (Heap.fZ _ _) ω ω;obtain⟨d,J,m⟩:=C _ [] this rfl rfl (λw=>w.push _) (λz B _=>Heap.eF B);exact uH (n:=1) F E D k H I G ω (by simpa using j) J m
 | @full q _ _ J m q3 q4 q5=>
   have L:Own h.next ((h.wr base q .dead).push (.cells (cs++c1) true sz)) sz (.slice (some ⟨h.next,0,none⟩) (n+1) UNK) (n+1) (cs++c1):= .full (bl _) (eA _) (Heap.fZ _ _) (by rw[dk,q4,r,Bo,ab5]) ω
   obtain⟨d,M,N⟩:=C _ [q] L rfl (Heap.aA (o:= .dead) ω) (λw=>(w.as (AS.wr base _ q .dead)).push _) (λz B t=>(Heap.eF (by exact B)).trans (Heap.eH (t q _ _ rfl)));exact mZ F E D k rfl (jc (h:=η h) (n:=1) (vs:=cs) (ws:=cs++c1) H I G ω q3 q4 A h1 j (dS _ _)) (rU m _ _) (tX m .dead) M N
def yW{op:BinOp}{a b:Value}(H:WO T base rnd Q os (cN e dst v) ds h)(d:ev h e x=some a:=by rfl)(f:ev h e y=some b:=by rfl)(c:af op a b=some v:=by with_reducible assumption):WO T base rnd Q (⟨dst, .bin (.num op) x y,none⟩::os) e ds h:=aG (rD d f c) H
def yV{b:Nat}{l:List Value}{own:Bool}(H:WO T base rnd Q os (cN e dst (.agg l.toArray)) ds h)(d:ev h e x=some (.pointer (some ⟨b,o,none⟩)):=by rfl)(hb:h.get b=some (.cells vs own sz):=by assumption)(c:cm n (bQ o vs)=l:=by assumption)(a:Nat.beq (bS l) n=true:=by assumption):WO T base rnd Q (⟨dst, .load (some n) x,none⟩::os) e ds h:=aG (bW d hb c a) H
def yI{b len cap i:Nat}{k:IntKind}(H:WO T base rnd Q os (cN e dst (.pointer (some ⟨b,o+i*size,none⟩))) ds h)(a:ev h e x=some (.slice (some ⟨b,o,none⟩) len cap):=by rfl)(c:ev h e y=some (.int k (i:Nat)):=by rfl)(hi:i<len:=by omega):WO T base rnd Q (⟨dst, .aC size x y,none⟩::os) e ds h:=aG (gU a c hi) H
section
variable {ops:List bg} {bf:List Nat} {rs:List Rec} {R:Env->Heap->Prop} {i mask:Nat} {is:List Nat} {g:Option (Nat×Bool)} {er:Env}
def qW{op:BinOp}{a b:Value}(H:WD T base ops bf R is (⟨i,⟨dst, .bin (.num op) x y,g⟩,er,v, .quiet⟩::rs) (cN e dst v) h)(f:bN ops i=some ⟨dst, .bin (.num op) x y,g⟩:=by rfl)(d:bN bf i=some mask:=by rfl)(c:cZ e (dK ⟨dst, .bin (.num op) x y,g⟩)=er:=by rfl)(k:cg er g=some true:=by rfl)(l:ev h er x=some a:=by rfl)(m:ev h er y=some b:=by rfl)(j:af op a b=some v:=by with_reducible assumption):WD T base ops bf R (i::is) rs e h:=bI f d c k rfl rfl (rD l m j) H
variable{o sz:Nat}{vs:List Value}{own:Bool}
def qV{n b:Nat}{l:List Value}(H:WD T base ops bf R is (⟨i,⟨dst, .load (some n) x,g⟩,er, .agg l.toArray, .quiet⟩::rs) (cN e dst (.agg l.toArray)) h)(f:bN ops i=some ⟨dst, .load (some n) x,g⟩:=by rfl)(d:bN bf i=some mask:=by rfl)(a:cZ e (dK ⟨dst, .load (some n) x,g⟩)=er:=by rfl)(k:cg er g=some true:=by rfl)(m:ev h er x=some (.pointer (some ⟨b,o,none⟩)):=by rfl)(hb:h.get b=some (.cells vs own sz):=by assumption)(j:cm n (bQ o vs)=l:=by assumption)(c:Nat.beq (bS l) n=true:=by assumption):WD T base ops bf R (i::is) rs e h:=bI f d a k rfl rfl (bW m hb j c) H
def qK{b:Nat}(H:WD T base ops bf R is (⟨i,⟨dst, .load none x,g⟩,er,v, .quiet⟩::rs) (cN e dst v) h)(d:bN ops i=some ⟨dst, .load none x,g⟩:=by rfl)(c:bN bf i=some mask:=by rfl)(a:cZ e (dK ⟨dst, .load none x,g⟩)=er:=by rfl)(j:cg er g=some true:=by rfl)(k:ev h er x=some (.pointer (some ⟨b,o,none⟩)):=by rfl)(hb:h.get b=some (.cells vs own sz):=by assumption)(f:bN vs o=some v:=by assumption):WD T base ops bf R (i::is) rs e h:=bI d c a j rfl rfl (cw k hb f) H
variable{j size:Nat}
def qI{b len cap:Nat}{k:IntKind}(H:WD T base ops bf R is (⟨i,⟨dst, .aC size x y,g⟩,er, .pointer (some ⟨b,o+j*size,none⟩), .quiet⟩::rs) (cN e dst (.pointer (some ⟨b,o+j*size,none⟩))) h)(d:bN ops i=some ⟨dst, .aC size x y,g⟩:=by rfl)(c:bN bf i=some mask:=by rfl)(a:cZ e (dK ⟨dst, .aC size x y,g⟩)=er:=by rfl)(f:cg er g=some true:=by rfl)(l:ev h er x=some (.slice (some ⟨b,o,none⟩) len cap):=by rfl)(m:ev h er y=some (.int k (j:Nat)):=by rfl)(hi:j<len:=by omega):WD T base ops bf R (i::is) rs e h:=bI d c a f rfl rfl (gU l m hi) H
def qJ{b len:Nat}{k:IntKind}(H:WD T base ops bf R is (⟨i,⟨dst, .dx len size x y,g⟩,er, .pointer (some ⟨b,o+j*size,none⟩), .quiet⟩::rs) (cN e dst (.pointer (some ⟨b,o+j*size,none⟩))) h)(d:bN ops i=some ⟨dst, .dx len size x y,g⟩:=by rfl)(c:bN bf i=some mask:=by rfl)(a:cZ e (dK ⟨dst, .dx len size x y,g⟩)=er:=by rfl)(f:cg er g=some true:=by rfl)(l:ev h er x=some (.pointer (some ⟨b,o,none⟩)):=by rfl)(m:ev h er y=some (.int k (j:Nat)):=by rfl)(hi:j<len:=by omega):WD T base ops bf R (i::is) rs e h:=bI d c a f rfl rfl (uO l m hi) H
def qO{op:AOp}(H:WD T base ops bf R is (⟨i,⟨dst,op,g⟩,er, .tuple #[], .skip⟩::rs) (cN e dst (.tuple #[])) h)(c:bN ops i=some ⟨dst,op,g⟩:=by rfl)(b:bN bf i=some mask:=by rfl)(a:cZ e (dK ⟨dst,op,g⟩)=er:=by rfl)(d:cg er g=some false:=by rfl):WD T base ops bf R (i::is) rs e h:=WX c b a d H
end
structure YQW (px:bO) (l:Nat) (L LX:bT) (W:Nat->Prop) (n:Nat) (R S:Heap->Prop) (x:bO) (e:Env) (ds:Dfs) (h3:Heap):Prop where
 busy:∃o,h3.get l=some o/\busy o=true
 log:∀z∈h3.log,W z
 rel:(x= .normal/\∀h5:Heap,n<=h5.next->(∀z,z<n->z≠l->h5.get z=h3.get z)->h5.get l=some L->R h5)∨(x=px/\∀h5:Heap,h5.next=h3.next->(∀z,z≠l->h5.get z=h3.get z)->h5.get l=some LX->S h5)
structure YAW (px:bO) (T:Nat->Option aq) (l:Nat) (e:Env) (ps:List Nat) (asg body:aZ) (W:Nat->Prop) (n:Nat) (R S:Heap->Prop) (x:bO) (e2:Env) (ds2:Dfs) (h2:Heap):Prop where
 x:x= .normal
 loop:h2.get l=some (.loop e ps asg body 0 .normal)
 body:WE T n (some l) body (YQW px l (.loop e ps asg body 0 .normal) (.loop e ps asg body 2 px) W n R S) e2 ds2 (h2.wr 0 l (.loop e ps asg body 1 .normal))
variable{px:bO}{l:Nat}{W:Nat->Prop}{ps:List Nat}{asg body:aZ}{args:List Value}
def FW.Xl(U:aK T)(J:px= .ret∨∃i,px= .exit i){e M:Env}{R S:Heap->Prop}(Q:h.get l=some (.loop e ps asg body 0 .normal))(P:j8 e ps args=some M)(t:l<h.next)(G:W l)
 (H:WE T h.next (some l) asg (YAW px T l e ps asg body W h.next R S) M [] h):
 FW T (.yield l) args h λr h'=>(∀z∈h'.log,W z)/\(r= .ret (.bool true)/\R h'∨r= .ret (.bool false)/\l∈h'.log/\S h'):=by
 obtain⟨x,e2,Z,O,⟨m,I⟩,⟨rfl,F,Y⟩⟩:=H.ok;obtain⟨x3,e3,ae,B,⟨D,q⟩,⟨⟨o,C,E⟩,g,f⟩⟩:=Y.ok;have u:notReady (O.get l)=false:=by rw[F];rfl
 have j:∃a b c d p,o= .loop a b c d 1 p:=by
  unfold A.busy at E;split at E
  ·exact⟨_,_,_,_,_,rfl⟩
  ·cases E
 obtain⟨oa,ob,oc,od,op,rfl⟩:=j;rcases f with⟨rfl,f⟩|⟨rfl,f⟩
 ·have L:=(fN.all U m).exec _ _ _ _ _ _ _ _ _ _ (I m (bl _)) (bl _);have V:=(fN.all U D).exec _ _ _ _ _ _ _ _ _ _ (q D (bl _)) L.next
  have X:AS 0 h (B.wr 0 l (.loop e ps asg body 0 .normal)):=((L.zero.trans (AS.wr 0 O l _)).trans V.zero).trans (AS.wr 0 B l _);obtain⟨N,g2,g3⟩:=Bv (v:= .bool true) X;refine⟨.ret (.bool true),gcA h (B.wr 0 l (.loop e ps asg body 0 .normal)) (.bool true),⟨m+D+1,λn hn=> ?_⟩,?_, .inl ⟨rfl,?_⟩⟩
  ·obtain⟨k,rfl⟩:∃k,n=k+1:=⟨n-1,ω⟩;have K:=I k ω;have y:=q k ω;rw[←wr0]at y;simp only[iw,Q,P,K,u,cond_false,y,C];rfl
  ·rw[g3];exact g
  ·refine f _ g2 (λz w s=>(N z w).trans (Heap.eH s)) ((N l t).trans ?_);exact Heap.aM C
 ·refine⟨.ret (.bool false),B.wr h.next l (.loop e ps asg body 2 x3),⟨m+D+1,λn hn=> ?_⟩,?_, .inr ⟨rfl,rB t,?_⟩⟩
  ·obtain⟨k,rfl⟩:∃k,n=k+1:=⟨n-1,ω⟩;have K:=I k ω;have y:=q k ω;rw[←wr0]at y;rcases J with rfl|⟨i,rfl⟩<;>simp only[iw,Q,P,K,u,cond_false,y,C]
  ·intro z w;rcases dW w with rfl|w
   ·exact G
   ·exact g z w
  ·exact f _ rfl (λz s=>Heap.eH s) (Heap.aM C)
structure Q7 {α:Type} (px:bO) (T:Nat->Option aq) (W:Nat->Prop) (N l:Nat) (V:α->List Value) (all:List α) (P:List α->Heap->Prop) (S:Heap->Prop):Prop where
 td:∀done x H,x∈all->Rdy H->N<=H.next->P done H->FW T (.yield l) (V x) H λr H'=>(∀z∈H'.log,W z)/\(r= .ret (.bool true)/\P (done++[x]) H'∨r= .ret (.bool false)/\l∈H'.log/\S H')
 fS:∀done H H',P done H->N<=H'.next->(∀x,x<N->H'.get x=H.get x)->P done H'
 Tp:∀H m,S H->S {H with log:=m}
 Jr:∀H,S H->∃a b c d,H.get l=some (.loop a b c d 2 px)
 low:∀z,W z->z<N
def Q7.call(n:aK T){α:Type}{px:bO}{W:Nat->Prop}{N l:Nat}{V:α->List Value}{all:List α}{P:List α->Heap->Prop}{S:Heap->Prop}(Y:Q7 px T W N l V all P S){K:Env->Dfs->Heap->Prop}{dst:Option Nat}{done:List α}{x:α}(p:x∈all)(o:WF h)(b:N<=h.next)(c:l<base)(j:P done h)
 (i:∀h',Ws W h h'→P (done++[x]) h'→K (cN e dst (.bool true)) ds h')
 (k:∀h',Ws W h h'→l∈h'.log->S h'→K (cN e dst (.bool false)) ds h'):FW T (.yield l) (V x) (η h) (KO K Q base dst e ds h.log):=by
 refine FW.mono' (FW.Ea n (Y.td done x _ p (.of o) b (Y.fS _ _ _ j b λ_ _=>rfl)) rfl) ?_;rintro r g ⟨d,m,a⟩;have f:Ws W (η h) g:=Ws.pX d m;rcases a with⟨rfl,a⟩|⟨rfl,hm,a⟩
 ·exact⟨i _ f.call (Y.fS _ _ _ a (gy b d.next) λ_ _=>rfl)⟩
 ·exact⟨k _ f.call (mem_merge c hm) (Y.Tp _ _ a)⟩
def GrW(T:Nat->Option aq)(f:Nat)(args:List Value)(h:Heap)(W:Nat->Prop)(P S:Heap->Prop):Prop:=CW T f args h λr h'=>Ws W h h'∧∃v,r= .ret v/\(P h'∨S h')
structure U8 (rs:List (Nat×Option (Option Nat))) (W:Nat->Prop) (l:Nat) (P S:Heap->Prop) (x:bO) (e:Env) (ds:Dfs) (h1:Heap):Prop where
 ok:(x= .normal∨x= .ret)/\ds=[]/\(∀z∈h1.log,W z)/\(∃vs,cI h1 e rs=some vs)/\(P h1∨l∈h1.log/\S h1)
variable{P:Heap->Prop}{vs:List Value}
def MS{rs:List (Nat×Option (Option Nat))}{S:Heap->Prop}(a:∀z∈h.log,W z)(hr:cI h e rs=some vs)(b:l∈h.log)(c:S h):U8 rs W l P S .ret e [] h:=⟨⟨.inr rfl,rfl,a,⟨vs,hr⟩, .inr ⟨b,c⟩⟩⟩
def MQ{rs:List (Nat×Option (Option Nat))}{S:Heap->Prop}(a:∀z∈h.log,W z)(hr:cI h e rs=some vs)(b:P h):U8 rs W l P S .normal e [] h:=⟨⟨.inl rfl,rfl,a,⟨vs,hr⟩, .inl b⟩⟩
variable{f:Nat}{c:aZ}
def GrW.of(B:aK T){rs:List (Nat×Option (Option Nat))}{S:Heap->Prop}(z:T f=some (.code c rs))(k:l<h.next)
 (w:∀g h2:Heap,h.next<=h2.next->(∀x,x<h.next->h2.get x=g.get x)->P g->P h2)(y:∀H,S H->∃a b c d,H.get l=some (.loop a b c d 2 px))(H:WE T h.next none c (U8 rs W l P S) (fu 0 args) [] h):GrW T f args h W P S:=by
 obtain⟨x,e,ds,g,⟨m,r⟩,⟨C,rfl,A,⟨j,o⟩,i⟩⟩:=H.ok;have q:=(fN.all B m).exec _ _ _ _ _ _ _ _ _ _ (r m (bl _)) (bl _);obtain⟨s,t,u,D⟩:=nI (v:=fB j) q;have p:Ws W h (gcA h g (fB j))/\∃v,Res.ret (fB j)= .ret v/\(P (gcA h g (fB j))∨S (gcA h g (fB j))):=by
  refine⟨Ws.pX (q.gc' _) (by rw[u];exact A),_,rfl,?_⟩;rcases i with i|⟨hml,i⟩
  ·exact .inl (w _ _ t s i)
  ·obtain⟨a,b,c,d,n⟩:=y _ i;rw[IT n k hml];exact .inr i
 refine CW.code z ⟨x,e,[],g,⟨m,r⟩,?_⟩;unfold zb;rcases C with rfl|rfl<;>(simp only[o];exact p)
def merge_lt{base z:Nat}:∀{m l:List Nat},z∈aJ base l m->z∈l∨z∈m/\z<base
 |[],l,h=> .inl h
 |b::m,l,h=>by
  simp only[aJ]at h;rcases merge_lt (m:=m) h with h|⟨h,hb⟩
  ·revert h;rw[cond_eq_ite,cond_eq_ite];split
   ·rename_i hlt;split
    ·exact .inl
    ·intro h;rcases List.mem_cons.1 h with rfl|h
     ·exact .inr ⟨b7 ..,by rw[blt_eq]at hlt;simpa using hlt⟩
     ·exact .inl h
   ·exact .inl
  ·exact .inr ⟨bz _ h,hb⟩
variable{h1:Heap}{cap first:Array Value}
def Lp{f:Operand}{g:Nat}{S:Heap->Prop}(hr:qS h1 rnd=true)(D:ev h1 e f=some (.func (.func g) first cap))(n:iu (T g)=false)
 (l:base<=h1.next)(F:WF h1)
 (x:GrW T g (eL first.toList (eL [.func (.yield h1.next) #[] #[]] cap.toList)) {h1.push (.loop e ps asg body 0 .normal)with log:=[]} W P S)
 (B:∀H,P H->∃a b c d,H.get h1.next=some (.loop a b c d 0 .normal))(C:∀H,S H->∃a b c d,H.get h1.next=some (.loop a b c d 2 px))
 (y:∀h h3:Heap,(∀z∈h3.log,z∈h1.log∨W z/\z<base)->WF h3->h1.next<h3.next->h3.next=h.next->(∀z,z≠h1.next->h3.get z=h.get z)->(∀z,z<h1.next->¬W z->h3.get z=h1.get z)->P h->Q .normal e ds h3)
 (A:∀h h3:Heap,(∀z∈h3.log,z∈h1.log∨W z/\z<base)->WF h3->h1.next<h3.next->h3.next=h.next->(∀z,z≠h1.next->h3.get z=h.get z)->(∀z,z<h1.next->¬W z->h3.get z=h1.get z)->S h->Q px e ds h3):WE T base rnd (.rangeFunc f ps asg body) Q e ds h1:=by
 refine vL hr D n (CW.mono x ?_);rintro r h ⟨k,v,rfl,j⟩;have s:∀z∈(({h with log:=aJ base h1.log h.log}:Heap).wr base h1.next .dead).log,z∈h1.log∨W z/\z<base:=by
  rw[Heap.aA ω];intro z i;rcases merge_lt (show z∈aJ base h1.log h.log from i)with i|⟨i,hb⟩
  ·exact .inl i
  ·rcases k.log z i with q|q
   ·cases q
   ·exact .inr ⟨q,hb⟩
 have t:WF (({h with log:=aJ base h1.log h.log}:Heap).wr base h1.next .dead):=((k.wf ((F.push _).log _)).log _).as (AS.wr _ _ _ _);have u:h1.next<h.next:=k.next
 have p:∀z,z≠h1.next->(({h with log:=aJ base h1.log h.log}:Heap).wr base h1.next .dead).get z=h.get z:=λz o=>Heap.eH o
 have w:∀z,z<h1.next->¬W z->(({h with log:=aJ base h1.log h.log}:Heap).wr base h1.next .dead).get z=h1.get z:=λz i E=>(p z ω).trans ((k.old z (EQ i) E).trans (Heap.eF i))
 rcases j with j|j
 ·obtain⟨a,b,c,d,m⟩:=B _ j;exact⟨_,rfl,_,_,_,_,_,_,m,rfl,y h _ s t u rfl p w j⟩
 ·obtain⟨a,b,c,d,m⟩:=C _ j;exact⟨_,rfl,_,_,_,_,_,_,m,rfl,A h _ s t u rfl p w j⟩
structure MP (h:Heap) (rs:List (Nat×Option (Option Nat))) (S:Nat->Prop) (Q:Value->Heap->Prop) (x:bO) (e:Env) (ds:Dfs) (h1:Heap):Prop where
 ok:(x= .normal∨x= .ret)/\ds=[]/\(∀z∈h1.log,S z)/\∃vs,cI h1 e rs=some vs/\Q (fB vs) h1/\((∃q,q<h.next/\q∈h1.log/\jJ h1 q)∨∀h2:Heap,h.next<=h2.next->(∀x,x<h.next->h2.get x=h1.get x)->Q (fB vs) h2)
variable{S:Nat->Prop}
def Gs.ofM(s:aK T){rs:List (Nat×Option (Option Nat))}{Q:Value->Heap->Prop}(p:T f=some (.code c rs))
 (H:WE T h.next none c (MP h rs S Q) (fu 0 args) [] h):Gs T f args h S Q:=by
 obtain⟨x,e,ds,b,⟨m,k⟩,⟨u,rfl,r,a,g,t,d⟩⟩:=H.ok;have j:=(fN.all s m).exec _ _ _ _ _ _ _ _ _ _ (k m (bl _)) (bl _);obtain⟨l,n,o,w⟩:=nI (v:=fB a) j;have i:Ws S h (gcA h b (fB a))/\∃v,Res.ret (fB a)= .ret v/\Q v (gcA h b (fB a)):=by
  refine⟨Ws.pX (j.gc' _) (by rw[o];exact r),_,rfl,?_⟩;rcases d with⟨q,hq1,hq2,hq3⟩|d
  ·rw[u9 hq1 hq2 hq3];exact t
  ·exact d _ n l
 refine CW.code p ⟨x,e,[],b,⟨m,k⟩,?_⟩;unfold zb;rcases u with rfl|rfl<;>(simp only[g];exact i)
def tw{rs:List (Nat×Option (Option Nat))}{Q:Value->Heap->Prop}(b:∀z∈h1.log,S z)(hr:cI h1 e rs=some vs)(c:Q (fB vs) h1)(a:(∃q,q<h.next/\q∈h1.log/\jJ h1 q)∨∀h2:Heap,h.next<=h2.next->(∀x,x<h.next->h2.get x=h1.get x)->Q (fB vs) h2):MP h rs S Q .ret e [] h1:=⟨⟨.inr rfl,rfl,b,vs,hr,c,a⟩⟩
def J1{rs:List (Nat×Option (Option Nat))}{Q:Value->Heap->Prop}(b:∀z∈h1.log,S z)(hr:cI h1 e rs=some vs)(c:Q (fB vs) h1)(a:(∃q,q<h.next/\q∈h1.log/\jJ h1 q)∨∀h2:Heap,h.next<=h2.next->(∀x,x<h.next->h2.get x=h1.get x)->Q (fB vs) h2):MP h rs S Q .normal e [] h1:=⟨⟨.inl rfl,rfl,b,vs,hr,c,a⟩⟩
variable{lo:Nat}
def Ie{f:Operand}{g:Nat}(hr:qS h1 rnd=true)(u:ev h1 e f=some (.func (.func g) first cap))(l:iu (T g)=false)
 (k:base<=lo)(o:lo<=h1.next)(B:WF h1)
 (s:Gr T g (eL first.toList (eL [.func (.yield h1.next) #[] #[]] cap.toList)) {h1.push (.loop e ps asg body 0 .normal)with log:=[]} lo λv h'=>v= .tuple #[]/\P h')
 (t:∀H,P H->∃a b c d,H.get h1.next=some (.loop a b c d 0 .normal))
 (K:∀h h3:Heap,h3.log=h1.log->WF h3->h1.next<h3.next->h3.next=h.next->(∀z,z≠h1.next->h3.get z=h.get z)->(∀z,z<lo->h3.get z=h1.get z)->P h->Q .normal e ds h3):WE T base rnd (.rangeFunc f ps asg body) Q e ds h1:=by
 refine vL hr u l (CW.mono s ?_);rintro r h ⟨i,v,rfl,rfl,p⟩;have j:fD base h.log:=λz n=>gy k (i.log (fD.nil _) z n);have x:(({h with log:=aJ base h1.log h.log}:Heap).wr base h1.next .dead).log=h1.log:=by
  rw[Heap.aA ω];show aJ base h1.log h.log=h1.log;rw[vp j]
 have y:WF (({h with log:=aJ base h1.log h.log}:Heap).wr base h1.next .dead):=((i.wf ((B.push _).log _)).log _).as (AS.wr _ _ _ _);have A:h1.next<h.next:=i.next
 have q:∀z,z≠h1.next->(({h with log:=aJ base h1.log h.log}:Heap).wr base h1.next .dead).get z=h.get z:=λz m=>Heap.eH m
 obtain⟨a,b,c,d,w⟩:=t _ p;refine⟨_,rfl,_,_,_,_,_,_,w,rfl,K h _ x y A rfl q (λz n=>(q z ω).trans ((i.old z n).trans ?_)) p⟩;exact Heap.eF ω
def Gq{sz d n:Nat}{dst:Option Nat}{os:List bg}{x y:Operand}{v u:Value}{cs c1:List Value}(s:Own lo h sz v n cs)(t:n<1000000)(k:0<sz)(hb:d<=100000)
 (p:ev h e x=some v)(r:ev h e y=some u)(m:dg h sz u=some (c1,1))(i:c1.length=sz)(h1:eN c1=true)
 (l:∀h',Own h.next h' sz (.slice (some ⟨h.next,0,none⟩) (n+1) UNK) (n+1) (cs++c1)->h'.next=h.next+1->(∀z∈h'.log,z∈h.log∨∃a c,v= .slice (some ⟨z,0,none⟩) a c)->(WF h->WF h')->(∀z,z<h.next->(∀q a c,v= .slice (some ⟨q,0,none⟩) a c->z≠q)->h'.get z=h.get z)->WO T base rnd Q os (cN e dst (.slice (some ⟨h.next,0,none⟩) (n+1) UNK)) ds h'):WO T base rnd Q (⟨dst, .append sz d x y,none⟩::os) e ds h:=by
 have g:(2*(n+1)+768)*d<=281474976710656:=by
  have:(2*(n+1)+768)*d<=2000768*100000:=Hn ω hb;omega
 cases s with
 |nil=>
  refine aG (pF (n:=1) p r m ω (by simpa using g) rfl) ?_;exact l _ (Own.full (lo:=h.next) (h:=h.push (.cells c1 true sz)) (sz:=sz) (q:=h.next) (n:=1) (cs:=c1) (bl _) (eA _) (Heap.fZ _ _) ω ω) rfl (λz f=> .inl f) (λw=>w.push _) (λz f _=>Heap.eF f)
 | @full q _ _ q1 q2 q3 q4 q5=>
   refine aG (jc (n:=1) (vs:=cs) (ws:=cs++c1) p r m ω q3 q4 k h1 g (dS _ _)) ?_;exact l _ (.full (bl _) (eA _) (Heap.fZ _ _) (by rw[dk,q4,i,Bo,ab5]) ω) rfl (λz f=>by
    rcases dW (b:=q) (o:= .dead) f with rfl|f
    ·exact .inr ⟨_,_,rfl⟩
    ·exact .inl f) (λw=>(w.as (AS.wr base _ q .dead)).push _) (λz f j=>(Heap.eF (by exact f)).trans (Heap.eH (j q _ _ rfl)))
structure WsL (base:Nat) (S:Nat->Prop) (h h':Heap):Prop extends Ws S h h' where
 R5:∀z∈h'.log,z∈h.log∨S z/\z<base
 Vp:∀z∈h.log,z∈h'.log
def Ws.Mv{h a:Heap}(x:Ws S (η h) a):WsL base S h {a with log:=aJ base h.log a.log}:=
 ⟨x.call,λz b=>(merge_lt (show z∈aJ base h.log a.log from b)).imp id λ⟨q,c⟩=>⟨(x.log z q).elim (λq=>by cases q) id,c⟩,λz b=>uw (show z∈h.log from b)⟩
def FW.gsL{b:Value->Heap->Prop}{K:Env->Dfs->Heap->Prop}{dst:Option Nat}(H:Gs T f args (η h) S b)(a:∀v (h':Heap) l,b v h'→b v {h' with log:=l})(d:∀v h',WsL base S h h'→b v h'→K (cN e dst v) ds h'):
 FW T (.func f) args (η h) (KO K Q base dst e ds h.log):=by
 refine .func (CW.mono H ?_);rintro r c ⟨i,v,rfl,g⟩;exact⟨d v _ i.Mv (a v c _ g)⟩
def FW.Ve{g:Value->Heap->Prop}{K:List Rec->Env->Heap->Prop}{a:Nat}{rs:List Rec}{dst:Option Nat}(H:Gs T f args (η h) S g)(d:∀v (h':Heap) l,g v h'→g v {h' with log:=l})
 (j:∀v h' lg,WsL base S h h'→(∀z∈lg,S z)->g v h'→∃b,bL h' base lg a rs=some b∧K b (cN e dst v) h'):FW T (.func f) args (η h) (KD K base a rs dst e h.log):=by
 refine .func (CW.mono H ?_);rintro r c ⟨i,v,rfl,k⟩;obtain⟨b,n,o⟩:=j v {c with log:=aJ base h.log c.log} c.log i.Mv (λz m=>(i.log z m).elim (λq=>by cases q) id) (d v c _ k);refine⟨?_⟩;show kD K base a rs dst e h.log (.ret v) c;unfold kD;simp only[n];exact o
end Go.A
end
section
namespace Go.A
section
variable{T:Nat->Option aq}{b:Nat}{r:Option Nat}{X:XQ}{os:List bg}{e:Env}{ds:Dfs}{h:Heap}{d:Option Nat}{x y z:Operand}{R:Prop}{n:Nat}{a c:aZ}{K:Env->Dfs->Heap->Prop}{E:bO}{rs:List Rec}{bf is:List Nat}{Z:Env->Heap->Prop}
abbrev YpO:=@id (R->WO T b r X os e ds h)
abbrev YpE:=@id (R->WE T b r a X e ds h)
abbrev YpD:=@id (R->WD T b os bf Z is rs e h)
abbrev Yp0:=@id (R->WO T b r X (⟨d, .mov x,none⟩::os) e ds h)
variable{t:Nat}{B:Bool}{p:AOp}{u:Gw}{l:List Operand}
abbrev Yp1:=@id (R->WO T b r X (⟨d, p,some (t,B)⟩::os) e ds h)
abbrev Yp2:=@id (R->WO T b r X [] e ds h)
abbrev Yp3:=@id (R->WO T b r X (⟨d, .bin u x y,none⟩::os) e ds h)
abbrev Yp4:=@id (R->WO T b r X (⟨d, .load (some n) x,none⟩::os) e ds h)
abbrev Yp5:=@id (R->WO T b r X (⟨d, .load none x,none⟩::os) e ds h)
abbrev Yp6:=@id (R->WO T b r X (⟨d, .call x l,none⟩::os) e ds h)
abbrev Yp7:=@id (R->WO T b r X (⟨d, .dN n x,none⟩::os) e ds h)
abbrev Yp8:=@id (R->WO T b r X (⟨d, .len n x,none⟩::os) e ds h)
abbrev Yp9:=@id (R->WO T b r X (⟨d, .box x,none⟩::os) e ds h)
abbrev Yp10:=@id (R->WO T b r X (⟨d, .extract x n,none⟩::os) e ds h)
abbrev Yp11:=@id (R->WO T b r X (⟨d, .pick x y z,none⟩::os) e ds h)
abbrev Yp12:=@id (R->WO T b r X (⟨d, .aC n x y,none⟩::os) e ds h)
abbrev Yp13:=@id (R->WO T b r X (⟨d, .store n x y,none⟩::os) e ds h)
variable{D:List Value}
abbrev Yp14:=@id (R->WO T b r X (⟨d, .new D,none⟩::os) e ds h)
abbrev Yp15:=@id (R->WE T b r (.seq a c) X e ds h)
abbrev Yp16:=@id (R->WE T b r (.cond x a c) X e ds h)
abbrev Yp17:=@id (R->WE T b r (.skip) X e ds h)
abbrev Yp18:=@id (R->WE T b r (.ret) X e ds h)
abbrev Yp19:=@id (R->WE T b r (.block n a) X e ds h)
abbrev Yp20:=@id (R->KS K X E e ds h)
abbrev Yp21:=@id (R->KB n X E e ds h)
end
def YW{h:Heap}{x b:Nat}{o p:bT}(g:h.get b=some p):(h.wr x b o).get b=some o:=by rw[z6,g];rfl
def YG{h:Heap}{b:Nat}{c:Option bT}(H:h.get b=c:=by first|assumption|exact z3 _ _|exact Go.A.z8 ω ω|exact YW τ|(rw[z5 ω];assumption)|(rw[z5 ω];exact YW τ)|exact YW ((z5 ω).trans τ)|(rw[z4 ω];assumption)|(rw[z6,Go.A.z8 ω ω];exact rfl)|(rw[z6,z3];exact rfl)|(simp(disch:=first|omega|(simp only[z1,z2];omega))only[z3,z4,z5,z6,z7,z1,z2, *];done)|(simp(disch:=first|omega|(simp only[z1,z2];omega))only[z3,z4,z5,z6,z7,z1,z2, *];exact rfl)|(simp(disch:=first|omega|(simp only[z1,z2];omega)|(simp only[z1,z2];done)|fail)only[Go.A.z8,z4,z5,z9,z7,z1,z2, *];done)|(simp(disch:=first|omega|(simp only[z1,z2];omega)|(simp only[z1,z2];done)|fail)only[Go.A.z8,z4,z5,z9,z7,z1,z2, *];exact rfl)|(simp(disch:=first|omega|(simp only[z1,z2];omega))only[z3,z4,z5,z6,z7,z1,z2];done)|(simp(disch:=first|omega|(simp only[z1,z2];omega))only[z3,z4,z5,z6,z7,z1,z2];exact rfl)|(simp(disch:=first|omega|(simp only[z1,z2];omega)|(simp only[z1,z2];done)|fail)only[Go.A.z8,z4,z5,z9,z7,z1,z2];done)|(simp(disch:=first|omega|(simp only[z1,z2];omega)|(simp only[z1,z2];done)|fail)only[Go.A.z8,z4,z5,z9,z7,z1,z2];exact rfl)):h.get b=c:=H
variable{P:Prop}
def Yc1{R:Prop}(s:R->P:=by first|(apply YpO;first|(apply Yp0;first|exact λH=>yM H)|(apply Yp1;first|exact λH=>yO H|exact λH=>yP H)|(apply Yp2;first|exact λH=>y3 H)|(apply Yp3;first|exact λH=>yW H|exact λH=>abH H|exact λH=>yt H|exact λH=>yf H)|(apply Yp4;first|exact λH=>yV H|exact λH=>yN H)|(apply Yp5;first|exact λH=>aG (cw ρ τ τ) H|exact λH=>yL H|exact λH=>yL (hb:=YG) H)|(apply Yp6;first|exact λH=>yC H)|(apply Yp7;first|exact λH=>yF H)|(apply Yp8;first|exact λH=>yD H)|(apply Yp9;first|exact λH=>yB H)|(apply Yp10;first|exact λH=>yE H)|(apply Yp11;first|exact λH=>yT H|exact λH=>yU H)|(apply Yp12;first|exact λH=>yI H)|(apply Yp13;first|exact λH=>yS H|exact λH=>yS (hb:=YG) H)|(apply Yp14;first|exact λH=>aG (wT) H)|(exact λH=>yA H)|(exact λH=>TU ρ H)|(exact λH=>aG (kA ρ ρ) H)|(exact λH=>aG (ZR ρ ρ) H)|(exact λH=>aG (mS ρ) H)|(exact λH=>aG (uO ρ ρ ω) H)|(exact λH=>aG (iN ρ) H)|(exact λH=>aG (LQ ρ ρ) H))|(apply YpE;first|(apply Yp15;first|exact λH=>y4 H|exact λH=>AO H)|(apply Yp16;first|exact λH=>yX H|exact λH=>yY H)|(apply Yp17;first|exact λH=>TR H)|(apply Yp18;first|exact λH=>pq H)|(apply Yp19;first|exact λH=>oe H)|(exact λH=>tQ H)|(exact λH=>TQ H)|(exact λH=>D6 H))|(apply YpD;first|(exact λH=>qM H)|(exact λH=>qF H)|(exact λH=>qV H)|(exact λH=>qW H)|(exact λH=>qI H)|(exact λH=>qC H)|(exact λH=>qK H)|(exact λH=>qJ H)|(exact λH=>qL H)|(exact λH=>qN H)|(exact λH=>qO H)|(exact λH=>pn H)|(exact λH=>bI rfl rfl rfl ρ ρ ρ (vV ρ) H)|(exact λH=>bI rfl rfl rfl ρ ρ ρ (Uq ρ) H)|(exact λH=>bI rfl rfl rfl ρ ρ ρ (Cj ρ ρ) H)|(exact λH=>bI rfl rfl rfl ρ ρ ρ (Eo ρ ρ) H)|(exact λH=>bI rfl rfl rfl ρ ρ ρ (iN ρ) H)|(exact λH=>bI rfl rfl rfl ρ ρ ρ (xR ρ ρ) H)|(exact λH=>bI rfl rfl rfl ρ ρ ρ (Ck ρ ρ) H))|(first|(apply Yp20;first|exact λH=>wj H|exact λH=>GZ H|exact λH=>abo H)|(apply Yp21;first|exact λH=>Nt H|exact λH=>Ns H|exact λH=>abn H)|(exact λH=>y1 H))):R->P:=s
variable{Q:Prop}
def Yc2{R:Prop}(s:Q->P:=by exact Yc1)(g:R->Q:=by exact Yc1):R->P:=λa=>s (g a)
def Yc3{R:Prop}(s:Q->P:=by exact Yc1)(g:R->Q:=by exact Yc2):R->P:=λa=>s (g a)
def Yc4{R:Prop}(s:Q->P:=by exact Yc1)(g:R->Q:=by exact Yc3):R->P:=λa=>s (g a)
def Yc5{R:Prop}(s:Q->P:=by exact Yc1)(g:R->Q:=by exact Yc4):R->P:=λa=>s (g a)
def Yc6{R:Prop}(s:Q->P:=by exact Yc1)(g:R->Q:=by exact Yc5):R->P:=λa=>s (g a)
def Yc7{R:Prop}(s:Q->P:=by exact Yc1)(g:R->Q:=by exact Yc6):R->P:=λa=>s (g a)
def Yc8{R:Prop}(s:Q->P:=by exact Yc1)(g:R->Q:=by exact Yc7):R->P:=λa=>s (g a)
def Yc9{R:Prop}(s:Q->P:=by exact Yc1)(g:R->Q:=by exact Yc8):R->P:=λa=>s (g a)
def Yc10{R:Prop}(s:Q->P:=by exact Yc1)(g:R->Q:=by exact Yc9):R->P:=λa=>s (g a)
def Yc11{R:Prop}(s:Q->P:=by exact Yc1)(g:R->Q:=by exact Yc10):R->P:=λa=>s (g a)
def Yc12{R:Prop}(s:Q->P:=by exact Yc1)(g:R->Q:=by exact Yc11):R->P:=λa=>s (g a)
def Yc13{R:Prop}(s:Q->P:=by exact Yc1)(g:R->Q:=by exact Yc12):R->P:=λa=>s (g a)
def Yc14{R:Prop}(s:Q->P:=by exact Yc1)(g:R->Q:=by exact Yc13):R->P:=λa=>s (g a)
def Yc15{R:Prop}(s:Q->P:=by exact Yc1)(g:R->Q:=by exact Yc14):R->P:=λa=>s (g a)
def Yc16{R:Prop}(s:Q->P:=by exact Yc1)(g:R->Q:=by exact Yc15):R->P:=λa=>s (g a)
def Yc17{R:Prop}(s:Q->P:=by exact Yc1)(g:R->Q:=by exact Yc16):R->P:=λa=>s (g a)
def Yc18{R:Prop}(s:Q->P:=by exact Yc1)(g:R->Q:=by exact Yc17):R->P:=λa=>s (g a)
def Yc19{R:Prop}(s:Q->P:=by exact Yc1)(g:R->Q:=by exact Yc18):R->P:=λa=>s (g a)
def Yc20{R:Prop}(s:Q->P:=by exact Yc1)(g:R->Q:=by exact Yc19):R->P:=λa=>s (g a)
def Yc21{R:Prop}(s:Q->P:=by exact Yc1)(g:R->Q:=by exact Yc20):R->P:=λa=>s (g a)
def Yc22{R:Prop}(s:Q->P:=by exact Yc1)(g:R->Q:=by exact Yc21):R->P:=λa=>s (g a)
def Yc23{R:Prop}(s:Q->P:=by exact Yc1)(g:R->Q:=by exact Yc22):R->P:=λa=>s (g a)
def Yc24{R:Prop}(s:Q->P:=by exact Yc1)(g:R->Q:=by exact Yc23):R->P:=λa=>s (g a)
def Yc25{R:Prop}(s:Q->P:=by exact Yc1)(g:R->Q:=by exact Yc24):R->P:=λa=>s (g a)
def Yc26{R:Prop}(s:Q->P:=by exact Yc1)(g:R->Q:=by exact Yc25):R->P:=λa=>s (g a)
def Yc27{R:Prop}(s:Q->P:=by exact Yc1)(g:R->Q:=by exact Yc26):R->P:=λa=>s (g a)
def Yc28{R:Prop}(s:Q->P:=by exact Yc1)(g:R->Q:=by exact Yc27):R->P:=λa=>s (g a)
def Yc29{R:Prop}(s:Q->P:=by exact Yc1)(g:R->Q:=by exact Yc28):R->P:=λa=>s (g a)
def Yc30{R:Prop}(s:Q->P:=by exact Yc1)(g:R->Q:=by exact Yc29):R->P:=λa=>s (g a)
def Yc31{R:Prop}(s:Q->P:=by exact Yc1)(g:R->Q:=by exact Yc30):R->P:=λa=>s (g a)
def Yc32{R:Prop}(s:Q->P:=by exact Yc1)(g:R->Q:=by exact Yc31):R->P:=λa=>s (g a)
def Yc33{R:Prop}(s:Q->P:=by exact Yc1)(g:R->Q:=by exact Yc32):R->P:=λa=>s (g a)
def Yc34{R:Prop}(s:Q->P:=by exact Yc1)(g:R->Q:=by exact Yc33):R->P:=λa=>s (g a)
def Yc35{R:Prop}(s:Q->P:=by exact Yc1)(g:R->Q:=by exact Yc34):R->P:=λa=>s (g a)
def Yc36{R:Prop}(s:Q->P:=by exact Yc1)(g:R->Q:=by exact Yc35):R->P:=λa=>s (g a)
def Yc37{R:Prop}(s:Q->P:=by exact Yc1)(g:R->Q:=by exact Yc36):R->P:=λa=>s (g a)
def Yc38{R:Prop}(s:Q->P:=by exact Yc1)(g:R->Q:=by exact Yc37):R->P:=λa=>s (g a)
def Yc39{R:Prop}(s:Q->P:=by exact Yc1)(g:R->Q:=by exact Yc38):R->P:=λa=>s (g a)
def Yc40{R:Prop}(s:Q->P:=by exact Yc1)(g:R->Q:=by exact Yc39):R->P:=λa=>s (g a)
def Y2{R:Prop}(H:R)(s:R->P:=by exact Yc2):P:=s H
def Y3{R:Prop}(H:R)(s:R->P:=by exact Yc3):P:=s H
def Y4{R:Prop}(H:R)(s:R->P:=by exact Yc4):P:=s H
def Y5{R:Prop}(H:R)(s:R->P:=by exact Yc5):P:=s H
def Y6{R:Prop}(H:R)(s:R->P:=by exact Yc6):P:=s H
def Y7{R:Prop}(H:R)(s:R->P:=by exact Yc7):P:=s H
def Y8{R:Prop}(H:R)(s:R->P:=by exact Yc8):P:=s H
def Y9{R:Prop}(H:R)(s:R->P:=by exact Yc9):P:=s H
def Y10{R:Prop}(H:R)(s:R->P:=by exact Yc10):P:=s H
def Y11{R:Prop}(H:R)(s:R->P:=by exact Yc11):P:=s H
def Y12{R:Prop}(H:R)(s:R->P:=by exact Yc12):P:=s H
def Y13{R:Prop}(H:R)(s:R->P:=by exact Yc13):P:=s H
def Y14{R:Prop}(H:R)(s:R->P:=by exact Yc14):P:=s H
def Y15{R:Prop}(H:R)(s:R->P:=by exact Yc15):P:=s H
def Y16{R:Prop}(H:R)(s:R->P:=by exact Yc16):P:=s H
def Y17{R:Prop}(H:R)(s:R->P:=by exact Yc17):P:=s H
def Y18{R:Prop}(H:R)(s:R->P:=by exact Yc18):P:=s H
def Y19{R:Prop}(H:R)(s:R->P:=by exact Yc19):P:=s H
def Y20{R:Prop}(H:R)(s:R->P:=by exact Yc20):P:=s H
def Y21{R:Prop}(H:R)(s:R->P:=by exact Yc21):P:=s H
def Y22{R:Prop}(H:R)(s:R->P:=by exact Yc22):P:=s H
def Y23{R:Prop}(H:R)(s:R->P:=by exact Yc23):P:=s H
def Y24{R:Prop}(H:R)(s:R->P:=by exact Yc24):P:=s H
def Y25{R:Prop}(H:R)(s:R->P:=by exact Yc25):P:=s H
def Y26{R:Prop}(H:R)(s:R->P:=by exact Yc26):P:=s H
def Y27{R:Prop}(H:R)(s:R->P:=by exact Yc27):P:=s H
def Y28{R:Prop}(H:R)(s:R->P:=by exact Yc28):P:=s H
def Y29{R:Prop}(H:R)(s:R->P:=by exact Yc29):P:=s H
def Y30{R:Prop}(H:R)(s:R->P:=by exact Yc30):P:=s H
def Y31{R:Prop}(H:R)(s:R->P:=by exact Yc31):P:=s H
def Y32{R:Prop}(H:R)(s:R->P:=by exact Yc32):P:=s H
def Y33{R:Prop}(H:R)(s:R->P:=by exact Yc33):P:=s H
def Y34{R:Prop}(H:R)(s:R->P:=by exact Yc34):P:=s H
def Y35{R:Prop}(H:R)(s:R->P:=by exact Yc35):P:=s H
def Y36{R:Prop}(H:R)(s:R->P:=by exact Yc36):P:=s H
def Y37{R:Prop}(H:R)(s:R->P:=by exact Yc37):P:=s H
def Y38{R:Prop}(H:R)(s:R->P:=by exact Yc38):P:=s H
def Y39{R:Prop}(H:R)(s:R->P:=by exact Yc39):P:=s H
def Y40{R:Prop}(H:R)(s:R->P:=by exact Yc40):P:=s H
def Ext.eU{h h':Heap}{b o}(x:Ext h h')(g:h.get b=o)(i:b<h.next:=by omega):h'.get b=o:=(x.old b i).trans g
abbrev qt(v:List Value):bT:=.cells v true 1
abbrev sb(b:Nat):Value:=.pointer (some ⟨b,0,none⟩)
abbrev sh(b:Nat):Nat->Nat->Value:=.slice (some ⟨b,0,none⟩)
abbrev zc(n:Int):Value:=.int .i64 n
abbrev zd(a b:Int)(c:Bool):Prop:=af .lss (.int .i64 a) (.int .i64 b)=some (.bool c)
abbrev zp(a b:Int)(c:Bool):Prop:=af .leq (.int .i64 a) (.int .i64 b)=some (.bool c)
abbrev zs(a b:Int)(c:Bool):Prop:=af .gtr (.int .i64 a) (.int .i64 b)=some (.bool c)
abbrev zt(a b:Int)(c:Bool):Prop:=af .geq (.int .i64 a) (.int .i64 b)=some (.bool c)
abbrev zz(a b:Int)(c:Bool):Prop:=af .eql (.int .i64 a) (.int .i64 b)=some (.bool c)
abbrev zB(a b:Int)(c:Bool):Prop:=af .neq (.int .i64 a) (.int .i64 b)=some (.bool c)
abbrev zE(a b c:Int):Prop:=af .add (.int .i64 a) (.int .i64 b)=some (.int .i64 c)
abbrev vi(a b c:Int):Prop:=af .sub (.int .i64 a) (.int .i64 b)=some (.int .i64 c)
abbrev vj(a b c:Int):Prop:=af .mul (.int .i64 a) (.int .i64 b)=some (.int .i64 c)
end Go.A
end
