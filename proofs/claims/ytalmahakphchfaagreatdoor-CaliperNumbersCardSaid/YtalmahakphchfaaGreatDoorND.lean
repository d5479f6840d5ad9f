/- How a run is reckoned. -/
import Derived.Test.YtalmahakphchfaaGreatDoorNC
import Derived.Test.YtalmahakphchfaaGreatDoorNA
import Derived.Lib.Bytealg
import Derived.Below
import Derived.Test.YtalmahakphchfaaGreatDoorNE
set_option linter.all false
set_option maxRecDepth 100000
section
namespace Go.A
variable {P:Program}
def Tr.all(Q:Nat->af->Prop):Tr->Prop
 | .nil=>True
 | .node l k v r=>l.all Q/\Q k v/\r.all Q
theorem Tr.all_nil{Q:Nat->af->Prop}:Tr.all Q .nil:=trivial
theorem Tr.aa{Q:Nat->af->Prop}{l r:Tr}{k:Nat}{v:af}(h1:l.all Q)(h2:Q k v)(h3:r.all Q):Tr.all Q (.node l k v r):=⟨h1,h2,h3⟩
theorem Tr.tH{Q:Nat->af->Prop}:∀{t:Tr} {n:Nat} {v:af},t.all Q->t.get n=some v->Q n v
 | .nil,_,_,_,h=>by cases h
 | .node l k v r,n,u,ha,h=>by
   simp only[Tr.get,cond_eq_ite,beq_eq,decide_eq_true_eq]at h;split at h
   ·rename_i e;subst e;cases h;exact ha.2.1
   ·split at h
    ·exact Tr.tH ha.1 h
    ·exact Tr.tH ha.2.2 h
def Bp(P:Program)(f:Nat)(p:List Value->Heap->Option (Value×Heap)):Prop:=∀args h v h',p args h=some (v,h')->h.log=[]->AS h.next h h'∧∀μ w args',R P μ h w->LR μ args args'→nh P (gQ P μ h w (.ret v) h') ((callFunc f args'.toArray).run P w)
inductive Entry (P:Program) (k:Nat):af->Prop
 |code {c rs fn ks}:P.funcs[k]? =some fn->aD P fn ks=some (.code c rs)->Entry P k (.code c rs)
 |mQ {p}:Bp P k p->Entry P k (.mQ p)
theorem Entry.of{k:Nat}{fn:Func}{a:af}{ks:List (List Nat)}(h1:P.funcs[k]? =some fn)(h2:aD P fn ks=some a):Entry P k a:=by
 have h3:=h2;unfold aD at h3;split at h3
 ·split at h3
  ·cases h3
  ·split at h3
   ·cases h3;exact .code h1 h2
   ·cases h3
 ·cases h3
theorem sD{t:Tr}(hm:P.follows .mixedOrders=true)(h:t.all (Entry P)):ew P t.get where
 mixed:=hm
 code:=λf c rs hf=>by
  have:=Tr.tH h hf;cases this with
  |code h1 h2=>exact⟨_,_,h1,h2⟩
 mQ:=λf p args h0 v h' hf hp hl=>by
  have:=Tr.tH h hf;cases this with
  |mQ h1=>exact h1 args h0 v h' hp hl
theorem R.grow{μ:Mu}{h:Heap}{w w':World}(hR:R P μ h w)(hs:w.heap.size<=w'.heap.size)(hk:∀r,r<w.heap.size->w'.heap[r]? =w.heap[r]?)(hsm:Same w w'):R P μ h w'∧St μ h w μ h w':=
 ⟨⟨hR.big,fun g o h1 h2=>let⟨k,a,b,c,x⟩:=hR.j8 g o h1 h2;⟨k,a,b,c,x.get (hk _ (hR.dom _ _ a).2)⟩,fun b o hb=>OR.mono (fun _ _ h=>h) rfl (fun k hk'=>hk _ (hR.dom _ _ hk').2) (hR.obj b o hb),hR.lt,fun b k hb=>⟨(hR.dom b k hb).1,Nat.lt_of_lt_of_le (hR.dom b k hb).2 hs⟩,hR.jP⟩,
   ⟨λ_ _=>rfl,hs,λr hr _=>hk r hr,λ_ _ h=>h,λr L h=>⟨L,(hk r (Array.getElem?_eq_some_iff.1 h).1).trans h, .refl L⟩,hsm⟩⟩
theorem EY{f:Nat}{fn:Func}(hf:P.funcs[f]? =some fn)(hn:fn.name≠ "runtime.NumGoroutine")(hb:fn.body.isSome=true)(args:Array Value)(w:World):(callFunc f args).run P w= .ok (.enter f args) w:=by
 cases hb':fn.body with
 |none=>rw[hb']at hb;cases hb
 |some b=>simp[callFunc,program,Sem.run,hf,hb',hn]
theorem o9{μ:Mu}{h:Heap}{w:World}{f:Nat}{fn:Func}(hf:P.funcs[f]? =some fn)(hn:fn.name≠ "runtime.NumGoroutine")(hb:fn.body.isSome=true){args:Array Value}{Q:Ending→World→Prop}(hc:Calls P f args w Q)
 {res:Res}{h':Heap}(hq:∀e w',Q e w'→gQ P μ h w res h' e w'):nh P (gQ P μ h w res h') ((callFunc f args).run P w):=by
 rw[EY hf hn hb];exact callsIn_wide.2 (hc.mono hq)
end Go.A
end
section
namespace Go.A
variable {T:Nat->Option af}
def Ev(T:Nat->Option af)(base:Nat)(rnd:Option Nat)(c:aQ)(e:Env)(ds:Dfs)(h:Heap)(r:br×Env×Dfs×Heap):Prop:=∃m,∀n,m<=n->ct T n base rnd c e ds h=some r
def EvO(T:Nat->Option af)(base:Nat)(rnd:Option Nat)(ops:List bg)(e:Env)(ds:Dfs)(h:Heap)(r:br×Env×Dfs×Heap):Prop:=∃m,∀n,m<=n->gh T n base rnd ops e ds h=some r
def EvD(T:Nat->Option af)(base:Nat)(ops:List bg)(is bf:List Nat)(rs:List Rec)(e:Env)(h:Heap)(r:br×Env×Heap):Prop:=∃m,∀n,m<=n->eH T n base ops is bf rs e h=some r
def EvF(T:Nat->Option af)(fn:Fn)(args:List Value)(h:Heap)(r:Res×Heap):Prop:=∃m,∀n,m<=n->fN T n fn args h=some r
def EvC(T:Nat->Option af)(f:Nat)(args:List Value)(h:Heap)(r:Res×Heap):Prop:=∃m,∀n,m<=n->iV T n f args h=some r
def XW(T:Nat->Option af)(base:Nat)(rnd:Option Nat)(c:aQ)(e:Env)(ds:Dfs)(h:Heap)(Q:br->Env->Dfs->Heap->Prop):Prop:=∃x e' ds' h',Ev T base rnd c e ds h (x,e',ds',h')/\Q x e' ds' h'
def FW(T:Nat->Option af)(fn:Fn)(args:List Value)(h:Heap)(Q:Res->Heap->Prop):Prop:=∃r h',EvF T fn args h (r,h')/\Q r h'
def CW(T:Nat->Option af)(f:Nat)(args:List Value)(h:Heap)(Q:Res->Heap->Prop):Prop:=∃r h',EvC T f args h (r,h')/\Q r h'
theorem XW.mono{base:Nat}{rnd:Option Nat}{c:aQ}{e:Env}{ds:Dfs}{h:Heap}{Q Q':br->Env->Dfs->Heap->Prop}(H:XW T base rnd c e ds h Q)(hq:∀x e ds h,Q x e ds h->Q' x e ds h):XW T base rnd c e ds h Q':=
 let⟨x,e',ds',h',h1,h2⟩:=H;⟨x,e',ds',h',h1,hq _ _ _ _ h2⟩
theorem CW.mono{f:Nat}{args:List Value}{h:Heap}{Q Q':Res->Heap->Prop}(H:CW T f args h Q)(hq:∀r h,Q r h->Q' r h):CW T f args h Q':=
 let⟨r,h',h1,h2⟩:=H;⟨r,h',h1,hq _ _ h2⟩
abbrev XQ:=br->Env->Dfs->Heap->Prop
def kR(keep:List Nat)(Q:XQ):XQ:=λx e ds h=>match x with
 | .normal=>Q .normal (cE e keep) ds h
 |x=>Q x e ds h
def kB(id:Nat)(Q:XQ):XQ:=λx e ds h=>match x with
 | .exit i=>(i=id->Q .normal e ds h)/\(i≠id->Q (.exit i) e ds h)
 |x=>Q x e ds h
def kS(K:Env->Dfs->Heap->Prop)(Q:XQ):XQ:=λx e ds h=>match x with
 | .normal=>K e ds h
 |x=>Q x e ds h
def kO(K:Env->Dfs->Heap->Prop)(Q:XQ)(base:Nat)(dst:Option Nat)(e:Env)(ds:Dfs)(log:List Nat):Res->Heap->Prop:=λr h2=>match r with
 | .ret v=>K (cI e dst v) ds {h2 with log:=aF base log h2.log}
 | .panic v=>Q (.panic v) e ds {h2 with log:=aF base log h2.log}
def kD(K:List Rec->Env->Heap->Prop)(base:Nat)(mask:Nat)(rs:List Rec)(dst:Option Nat)(e:Env)(log:List Nat):Res->Heap->Prop:=λr h2=>match r with
 | .ret v=>match bL {h2 with log:=aF base log h2.log} base h2.log mask rs with
   |some rs'=>K rs' (cI e dst v) {h2 with log:=aF base log h2.log}
   |none=>False
 | .panic _=>False
def wpA(T:Nat->Option af)(base:Nat)(rnd:Option Nat)(wpO:Env->Dfs->Heap->Prop)(Q:XQ)(dst:Option Nat)(e:Env)(ds:Dfs)(h:Heap):Option cN->Prop
 |some (.val v h')=>wpO (cI e dst v) ds h'
 |some (.call fn args h')=>FW T fn args {h' with log:=[]} (kO wpO Q base dst e ds h'.log)
 |some (.jv f args)=>rnd=none/\wpO (cI e dst (.tuple #[])) ((f,args)::ds) h
 |some (.panic v h')=>Q (.panic v) e ds h'
 |_=>False
def wpG(A:Prop)(B:Prop):Option Bool->Prop
 |some c=>(c=false->B)/\(c=true->A)
 |none=>False
def wpO(T:Nat->Option af)(base:Nat)(rnd:Option Nat)(Q:XQ):List bg->Env->Dfs->Heap->Prop
 |[],e,ds,h=>Q .normal e ds h
 |o::os,e,ds,h=>wpG (wpA T base rnd (wpO T base rnd Q os) Q o.dst e ds h (aop h base e o.op)) (wpO T base rnd Q os (cI e o.dst (.tuple #[])) ds h) (bX e o.guard)
def Rt(T:Nat->Option af)(base:Nat)(wpD:List Rec->Env->Heap->Prop)(i:Nat)(o:bg)(mask:Nat)(rs:List Rec)(er e:Env)(h:Heap):Prop:=
 match jw o.op with
 |true=>
  match aop h base er o.op with
  |some (.val v h')=>
   match dw o.op with
   |true=>mX h' base rs=true/\wpD (⟨i,o,er,v, .made h.next⟩::rs) (cI e o.dst v) h'
   |false=>h'.next=h.next/\wpD (⟨i,o,er,v, .quiet⟩::rs) (cI e o.dst v) h
  |_=>False
 |false=>
  match aop {h with log:=[]} h.next er o.op with
  |some (.val v h2)=>match bL {h2 with log:=aF base h.log h2.log} base h2.log mask rs with
   |some rs'=>wpD rs' (cI e o.dst v) {h2 with log:=aF base h.log h2.log}
   |none=>False
  |some (.call fn args _)=>FW T fn args {h with log:=[]} (kD wpD base mask rs o.dst e h.log)
  |_=>False
def wpD(T:Nat->Option af)(base:Nat)(ops:List bg)(bf:List Nat)(Q:Env->Heap->Prop):List Nat->List Rec->Env->Heap->Prop
 |[],_,e,h=>Q e h
 |i::is,rs,e,h=>
  match aT ops i,aT bf i with
  |some o,some mask=>wpG (Rt T base (wpD T base ops bf Q is) i o mask rs (cE e (cV o)) e h) (wpD T base ops bf Q is (⟨i,o,cE e (cV o), .tuple #[], .skip⟩::rs) (cI e o.dst (.tuple #[])) h) (bX (cE e (cV o)) o.guard)
  |_,_=>False
def wpC(A B:Prop):Option Value->Prop
 |some (.bool t)=>(t=true->A)/\(t=false->B)
 |_=>False
def wpE(T:Nat->Option af)(base:Nat)(rnd:Option Nat):aQ->XQ->Env->Dfs->Heap->Prop
 | .skip,Q,e,ds,h=>Q .normal e ds h
 | .region ops keep,Q,e,ds,h=>wpO T base rnd (kR keep Q) ops e ds h
 | .draw ops order bf keep,Q,e,ds,h=>wpD T base ops bf (λe' h'=>Q .normal (cE e' keep) ds h') order [] e h
 | .seq a b,Q,e,ds,h=>wpE T base rnd a (kS (wpE T base rnd b Q) Q) e ds h
 | .cond c a b,Q,e,ds,h=>wpC (wpE T base rnd a Q e ds h) (wpE T base rnd b Q e ds h) (ev h e c)
 | .block id b,Q,e,ds,h=>wpE T base rnd b (kB id Q) e ds h
 | .loop b,Q,e,ds,h=>XW T base rnd (.loop b) e ds h Q
 | .rangeFunc f ps a b,Q,e,ds,h=>XW T base rnd (.rangeFunc f ps a b) e ds h Q
 | .scope b,Q,e,ds,h=>wpE T base rnd b Q e ds h
 | .rangeMap o i x k ou nx pr o2 k2 b,Q,e,ds,h=>XW T base rnd (.rangeMap o i x k ou nx pr o2 k2 b) e ds h Q
 | .exit id,Q,e,ds,h=>Q (.exit id) e ds h
 | .ret,Q,e,ds,h=>Q .ret e ds h
theorem sI{base:Nat}{rnd:Option Nat}{Q:XQ}:∀{ops:List bg} {e:Env} {ds:Dfs} {h:Heap},wpO T base rnd Q ops e ds h->∃x e' ds' h',EvO T base rnd ops e ds h (x,e',ds',h')/\Q x e' ds' h'
 |[],e,ds,h,H=>⟨.normal,e,ds,h,⟨1,λn hn=>by obtain⟨k,rfl⟩:∃k,n=k+1:=⟨n-1,by omega⟩;simp only[gh]⟩,H⟩
 |o::os,e,ds,h,H=>by
  simp only[wpO]at H;unfold wpG at H;split at H
  ·rename_i c hc;cases c with
   |false=>
    obtain⟨x,e',ds',h',⟨m,h1⟩,h2⟩:=sI (H.1 rfl);exact⟨x,e',ds',h',⟨m+1,λn hn=>by
     obtain⟨k,rfl⟩:∃k,n=k+1:=⟨n-1,by omega⟩;simp only[gh,hc];exact h1 k (by omega)⟩,h2⟩
   |true=>
    have H:=H.2 rfl;unfold wpA at H;split at H
    ·rename_i v h3 ho;obtain⟨x,e',ds',h',⟨m,h1⟩,h2⟩:=sI H;exact⟨x,e',ds',h',⟨m+1,λn hn=>by
      obtain⟨k,rfl⟩:∃k,n=k+1:=⟨n-1,by omega⟩;simp only[gh,hc,ho];exact h1 k (by omega)⟩,h2⟩
    ·rename_i fn args h3 ho;obtain⟨r,h4,⟨m1,hf⟩,H⟩:=H;cases r with
     |ret v=>
      obtain⟨x,e',ds',h',⟨m,h1⟩,h2⟩:=sI H;exact⟨x,e',ds',h',⟨m+m1+1,λn hn=>by
       obtain⟨k,rfl⟩:∃k,n=k+1:=⟨n-1,by omega⟩;simp only[gh,hc,ho,hf k (by omega)];exact h1 k (by omega)⟩,h2⟩
     |panic v=>
      exact⟨_,_,_,_,⟨m1+1,λn hn=>by
       obtain⟨k,rfl⟩:∃k,n=k+1:=⟨n-1,by omega⟩;simp only[gh,hc,ho,hf k (by omega)]⟩,H⟩
    ·rename_i f args ho;obtain⟨hr,H⟩:=H;subst hr;obtain⟨x,e',ds',h',⟨m,h1⟩,h2⟩:=sI H;exact⟨x,e',ds',h',⟨m+1,λn hn=>by
      obtain⟨k,rfl⟩:∃k,n=k+1:=⟨n-1,by omega⟩;simp only[gh,hc,ho];exact h1 k (by omega)⟩,h2⟩
    ·rename_i v h3 ho;exact⟨_,_,_,_,⟨1,λn hn=>by
      obtain⟨k,rfl⟩:∃k,n=k+1:=⟨n-1,by omega⟩;simp only[gh,hc,ho]⟩,H⟩
    ·exact H.elim
  ·exact H.elim
theorem CB{base:Nat}{ops:List bg}{bf:List Nat}{Q:Env->Heap->Prop}:∀{is:List Nat} {rs:List Rec} {e:Env} {h:Heap},wpD T base ops bf Q is rs e h->∃e' h',EvD T base ops is bf rs e h (.normal,e',h')/\Q e' h'
 |[],rs,e,h,H=>⟨e,h,⟨1,λn hn=>by obtain⟨k,rfl⟩:∃k,n=k+1:=⟨n-1,by omega⟩;simp only[eH]⟩,H⟩
 |i::is,rs,e,h,H=>by
  simp only[wpD]at H;split at H
  ·rename_i o mask ho hm;unfold wpG at H;split at H
   ·rename_i c hc;have fin:∀{rs':List Rec} {e1:Env} {h1:Heap},wpD T base ops bf Q is rs' e1 h1->(∃m,∀n,m<=n->∀r,eH T n base ops is bf rs' e1 h1=some r->eH T (n+1) base ops (i::is) bf rs e h=some r)->∃e' h',EvD T base ops (i::is) bf rs e h (.normal,e',h')/\Q e' h':=λhw ⟨m0,hs⟩=>by
     obtain⟨e',h',⟨m,h1⟩,h2⟩:=CB hw;exact⟨e',h',⟨m+m0+1,λn hn=>by
      obtain⟨k,rfl⟩:∃k,n=k+1:=⟨n-1,by omega⟩;exact hs k (by omega) _ (h1 k (by omega))⟩,h2⟩
    cases c with
    |false=>
     exact fin (H.1 rfl) ⟨0,λn _ r hr=>by simp only[eH,ho,hm,hc];exact hr⟩
    |true=>
     have H:=H.2 rfl;unfold Rt at H;split at H
     ·rename_i he;split at H
      ·rename_i v h3 hop;split at H
       ·rename_i hnw;exact fin H.2 ⟨0,λn _ r hr=>by simp only[eH,ho,hm,hc,he,hop,hnw,H.1,cond_true];exact hr⟩
       ·rename_i hnw;exact fin H.2 ⟨0,λn _ r hr=>by
         have hb:Nat.beq h3.next h.next=true:=by rw[beq_eq];simpa using H.1
         simp only[eH,ho,hm,hc,he,hop,hnw,hb,cond_true,cond_false];exact hr⟩
      ·exact H.elim
     ·rename_i he;split at H
      ·rename_i v h3 hop;split at H
       ·rename_i rs' hrs;exact fin H ⟨0,λn _ r hr=>by simp only[eH,ho,hm,hc,he,hop,hrs,cond_false];exact hr⟩
       ·exact H.elim
      ·rename_i fn args h3 hop;obtain⟨r,h4,⟨m1,hf⟩,H⟩:=H;unfold kD at H;split at H
       ·rename_i v;split at H
        ·rename_i rs' hrs;exact fin H ⟨m1,λn hn r hr=>by simp only[eH,ho,hm,hc,he,hop,hf n hn,hrs,cond_false];exact hr⟩
        ·exact H.elim
       ·exact H.elim
      ·exact H.elim
   ·exact H.elim
  ·exact H.elim
theorem pY{base:Nat}{rnd:Option Nat}:∀{c:aQ} {Q:XQ} {e:Env} {ds:Dfs} {h:Heap},wpE T base rnd c Q e ds h->XW T base rnd c e ds h Q
 | .skip,Q,e,ds,h,H=>⟨_,_,_,_,⟨1,λn hn=>by obtain⟨k,rfl⟩:∃k,n=k+1:=⟨n-1,by omega⟩;simp only[ct]⟩,H⟩
 | .exit i,Q,e,ds,h,H=>⟨_,_,_,_,⟨1,λn hn=>by obtain⟨k,rfl⟩:∃k,n=k+1:=⟨n-1,by omega⟩;simp only[ct]⟩,H⟩
 | .ret,Q,e,ds,h,H=>⟨_,_,_,_,⟨1,λn hn=>by obtain⟨k,rfl⟩:∃k,n=k+1:=⟨n-1,by omega⟩;simp only[ct]⟩,H⟩
 | .loop b,Q,e,ds,h,H=>H
 | .rangeFunc f ps a b,Q,e,ds,h,H=>H
 | .rangeMap o i x k ou nx pr o2 k2 b,Q,e,ds,h,H=>H
 | .scope b,Q,e,ds,h,H=>by
   obtain⟨x,e',ds',h',⟨m,h1⟩,h2⟩:=pY (c:=b) H;exact⟨_,_,_,_,⟨m+1,λn hn=>by
    obtain⟨k,rfl⟩:∃k,n=k+1:=⟨n-1,by omega⟩;simp only[ct,h1 k (by omega)]⟩,h2⟩
 | .region ops keep,Q,e,ds,h,H=>by
   obtain⟨x,e',ds',h',⟨m,h1⟩,h2⟩:=sI H;cases x with
   |normal=>exact⟨_,_,_,_,⟨m+1,λn hn=>by
    obtain⟨k,rfl⟩:∃k,n=k+1:=⟨n-1,by omega⟩;simp only[ct,h1 k (by omega)]⟩,h2⟩
   |_=>exact⟨_,_,_,_,⟨m+1,fun n hn=>by
     obtain⟨k,rfl⟩:∃k,n=k+1:=⟨n-1,by omega⟩;simp only[ct,h1 k (by omega)]⟩,h2⟩
 | .draw ops order bf keep,Q,e,ds,h,H=>by
   obtain⟨e',h',⟨m,h1⟩,h2⟩:=CB H;exact⟨_,_,_,_,⟨m+1,λn hn=>by
    obtain⟨k,rfl⟩:∃k,n=k+1:=⟨n-1,by omega⟩;simp only[ct,h1 k (by omega)]⟩,h2⟩
 | .seq a b,Q,e,ds,h,H=>by
   obtain⟨x,e',ds',h',⟨m,h1⟩,h2⟩:=pY (c:=a) H;cases x with
   |normal=>
    obtain⟨x2,e2,ds2,h3,⟨m2,h4⟩,h5⟩:=pY (c:=b) h2;exact⟨_,_,_,_,⟨m+m2+1,λn hn=>by
     obtain⟨k,rfl⟩:∃k,n=k+1:=⟨n-1,by omega⟩;simp only[ct,h1 k (by omega)];exact h4 k (by omega)⟩,h5⟩
   |_=>exact⟨_,_,_,_,⟨m+1,fun n hn=>by
     obtain⟨k,rfl⟩:∃k,n=k+1:=⟨n-1,by omega⟩;simp only[ct,h1 k (by omega)]⟩,h2⟩
 | .cond c a b,Q,e,ds,h,H=>by
   simp only[wpE]at H;unfold wpC at H;split at H
   ·rename_i t ht;cases t with
    |true=>
     obtain⟨x,e',ds',h',⟨m,h1⟩,h2⟩:=pY (c:=a) (H.1 rfl);exact⟨_,_,_,_,⟨m+1,λn hn=>by
      obtain⟨k,rfl⟩:∃k,n=k+1:=⟨n-1,by omega⟩;simp only[ct,ht];exact h1 k (by omega)⟩,h2⟩
    |false=>
     obtain⟨x,e',ds',h',⟨m,h1⟩,h2⟩:=pY (c:=b) (H.2 rfl);exact⟨_,_,_,_,⟨m+1,λn hn=>by
      obtain⟨k,rfl⟩:∃k,n=k+1:=⟨n-1,by omega⟩;simp only[ct,ht];exact h1 k (by omega)⟩,h2⟩
   ·exact H.elim
 | .block id b,Q,e,ds,h,H=>by
   obtain⟨x,e',ds',h',⟨m,h1⟩,h2⟩:=pY (c:=b) H;cases x with
   |exit i=>
    by_cases hi:i=id
    ·exact⟨_,_,_,_,⟨m+1,λn hn=>by
      obtain⟨k,rfl⟩:∃k,n=k+1:=⟨n-1,by omega⟩;have hb:Nat.beq i id=true:=by rw[beq_eq];simpa using hi
      simp only[ct,h1 k (by omega),hb,cond_true]⟩,h2.1 hi⟩
    ·exact⟨_,_,_,_,⟨m+1,λn hn=>by
      obtain⟨k,rfl⟩:∃k,n=k+1:=⟨n-1,by omega⟩;have hb:Nat.beq i id=false:=by rw[beq_eq];simpa using hi
      simp only[ct,h1 k (by omega),hb,cond_false]⟩,h2.2 hi⟩
   |_=>exact⟨_,_,_,_,⟨m+1,fun n hn=>by
     obtain⟨k,rfl⟩:∃k,n=k+1:=⟨n-1,by omega⟩;simp only[ct,h1 k (by omega)]⟩,h2⟩
theorem XW.loop{base:Nat}{rnd:Option Nat}{b:aQ}{Q:br->Env->Dfs->Heap->Prop}(I:Nat->Env->Dfs->Heap->Prop)
 (hr:∀k e ds h,I k e ds h->XW T base rnd b e ds h λx e' ds' h'=>match x with| .normal=>∃k',k'<k/\I k' e' ds' h'|x=>Q x e' ds' h'):
 ∀{k:Nat} {e:Env} {ds:Dfs} {h:Heap},I k e ds h->XW T base rnd (.loop b) e ds h Q:=by
 intro k;induction k using Nat.strongRecOn with
 |ind k ih=>
  intro e ds h hI;obtain⟨x,e',ds',h',⟨m,h1⟩,h2⟩:=hr k e ds h hI;cases x with
  |normal=>
   obtain⟨k',hk,hI'⟩:=h2;obtain⟨x2,e2,ds2,h3,⟨m2,h4⟩,h5⟩:=ih k' hk hI';exact⟨_,_,_,_,⟨m+m2+1,λn hn=>by
    obtain⟨k,rfl⟩:∃k,n=k+1:=⟨n-1,by omega⟩;simp only[ct,h1 k (by omega)];exact h4 k (by omega)⟩,h5⟩
  |_=>exact⟨_,_,_,_,⟨m+1,fun n hn=>by
    obtain⟨k,rfl⟩:∃k,n=k+1:=⟨n-1,by omega⟩;simp only[ct,h1 k (by omega)]⟩,h2⟩
theorem XW.TX{base:Nat}{rnd:Option Nat}{a b:aQ}{e:Env}{ds:Dfs}{h:Heap}{Q:br->Env->Dfs->Heap->Prop}
 (H:XW T base rnd a e ds h λx e' ds' h'=>match x with| .normal=>XW T base rnd b e' ds' h' Q|x=>Q x e' ds' h'):XW T base rnd (.seq a b) e ds h Q:=by
 obtain⟨x,e',ds',h',⟨m,h1⟩,h2⟩:=H;cases x with
 |normal=>
  obtain⟨x2,e2,ds2,h3,⟨m2,h4⟩,h5⟩:=h2;exact⟨_,_,_,_,⟨m+m2+1,λn hn=>by
   obtain⟨k,rfl⟩:∃k,n=k+1:=⟨n-1,by omega⟩;simp only[ct,h1 k (by omega)];exact h4 k (by omega)⟩,h5⟩
 |_=>exact⟨_,_,_,_,⟨m+1,fun n hn=>by
   obtain⟨k,rfl⟩:∃k,n=k+1:=⟨n-1,by omega⟩;simp only[ct,h1 k (by omega)]⟩,h2⟩
theorem FW.func{f:Nat}{args:List Value}{h:Heap}{Q:Res->Heap->Prop}(H:CW T f args h Q):FW T (.func f) args h Q:=by
 obtain⟨r,h',⟨m,h1⟩,h2⟩:=H;exact⟨r,h',⟨m+1,λn hn=>by
  obtain⟨k,rfl⟩:∃k,n=k+1:=⟨n-1,by omega⟩;simp only[fN];exact h1 k (by omega)⟩,h2⟩
def xR(rs:List (Nat×Option (Option Nat)))(h:Heap)(Q:Res->Heap->Prop):br->Env->Dfs->Heap->Prop:=λx e ds h1=>
 match x with
 | .exit _=>False
 | .panic v=>match ds with
   |[]=>Q (.panic v) h1
   |_=>False
 |_=>match ds with
  |[]=>match cC h1 e rs with
   |some vs=>Q (.ret (fH vs)) (gcA h h1 (fH vs))
   |none=>False
  |_=>False
theorem CW.code{f:Nat}{args:List Value}{h:Heap}{Q:Res->Heap->Prop}{c:aQ}{rs:List (Nat×Option (Option Nat))}(hf:T f=some (.code c rs))
 (H:XW T h.next none c (eM 0 args) [] h (xR rs h Q)):CW T f args h Q:=by
 obtain⟨x,e,ds,h1,⟨m,he⟩,H⟩:=H;unfold xR at H;cases x with
 |exit _=>exact H.elim
 |panic v=>
  dsimp only at H;split at H
  ·refine⟨_,_,⟨m+2,λn hn=> ?_⟩,H⟩;obtain⟨k,rfl⟩:∃k,n=k+2:=⟨n-2,by omega⟩;have:=he (k+1) (by omega);simp only[iV,this,nA,hf]
  ·exact H.elim
 |normal=>
  dsimp only at H;split at H
  ·split at H
   ·rename_i vs hvs;refine⟨_,_,⟨m+2,λn hn=> ?_⟩,H⟩;obtain⟨k,rfl⟩:∃k,n=k+2:=⟨n-2,by omega⟩;have:=he (k+1) (by omega);simp only[iV,this,nA,hf,hvs]
   ·exact H.elim
  ·exact H.elim
 |ret=>
  dsimp only at H;split at H
  ·split at H
   ·rename_i vs hvs;refine⟨_,_,⟨m+2,λn hn=> ?_⟩,H⟩;obtain⟨k,rfl⟩:∃k,n=k+2:=⟨n-2,by omega⟩;have:=he (k+1) (by omega);simp only[iV,this,nA,hf,hvs]
   ·exact H.elim
  ·exact H.elim
end Go.A
end
section
namespace Go.A
variable {T:Nat->Option af} {base:Nat} {rnd:Option Nat} {Q:XQ} {e:Env} {ds:Dfs} {h:Heap} {c:aQ}
structure WE (T:Nat->Option af) (base:Nat) (rnd:Option Nat) (c:aQ) (Q:XQ) (e:Env) (ds:Dfs) (h:Heap):Prop where
 ok:XW T base rnd c e ds h Q
structure WO (T:Nat->Option af) (base:Nat) (rnd:Option Nat) (Q:XQ) (ops:List bg) (e:Env) (ds:Dfs) (h:Heap):Prop where
 ok:∃x e' ds' h',EvO T base rnd ops e ds h (x,e',ds',h')/\Q x e' ds' h'
structure WD (T:Nat->Option af) (base:Nat) (ops:List bg) (bf:List Nat) (Q:Env->Heap->Prop) (is:List Nat) (rs:List Rec) (e:Env) (h:Heap):Prop where
 ok:∃e' h',EvD T base ops is bf rs e h (.normal,e',h')/\Q e' h'
structure KR (keep:List Nat) (Q:XQ) (x:br) (e:Env) (ds:Dfs) (h:Heap):Prop where
 ok:kR keep Q x e ds h
structure KS (K:Env->Dfs->Heap->Prop) (Q:XQ) (x:br) (e:Env) (ds:Dfs) (h:Heap):Prop where
 ok:kS K Q x e ds h
structure KB (i:Nat) (Q:XQ) (x:br) (e:Env) (ds:Dfs) (h:Heap):Prop where
 ok:kB i Q x e ds h
structure KO (K:Env->Dfs->Heap->Prop) (Q:XQ) (base:Nat) (dst:Option Nat) (e:Env) (ds:Dfs) (log:List Nat) (r:Res) (h:Heap):Prop where
 ok:kO K Q base dst e ds log r h
structure KD (K:List Rec->Env->Heap->Prop) (base:Nat) (mask:Nat) (rs:List Rec) (dst:Option Nat) (e:Env) (log:List Nat) (r:Res) (h:Heap):Prop where
 ok:kD K base mask rs dst e log r h
theorem WE.of(H:wpE T base rnd c Q e ds h):WE T base rnd c Q e ds h:=⟨pY H⟩
theorem L9(H:Q .normal e ds h):WE T base rnd .skip Q e ds h:= .of H
theorem zH{i:Nat}(H:Q (.exit i) e ds h):WE T base rnd (.exit i) Q e ds h:= .of H
theorem vw(H:Q .ret e ds h):WE T base rnd .ret Q e ds h:= .of H
theorem vz{a b:aQ}(H:WE T base rnd a (KS (WE T base rnd b Q) Q) e ds h):WE T base rnd (.seq a b) Q e ds h:=by
 refine⟨XW.TX (H.ok.mono λx e ds h hq=> ?_)⟩;cases x<;>first|exact hq.ok.ok|exact hq.ok
theorem sH{ops:List bg}{keep:List Nat}(H:WO T base rnd (KR keep Q) ops e ds h):WE T base rnd (.region ops keep) Q e ds h:=by
 obtain⟨x,e',ds',h',⟨m,h1⟩,⟨h2⟩⟩:=H.ok;cases x with
 |normal=>exact⟨_,_,_,_,⟨m+1,λn hn=>by
  obtain⟨k,rfl⟩:∃k,n=k+1:=⟨n-1,by omega⟩;simp only[ct,h1 k (by omega)]⟩,h2⟩
 |_=>exact⟨_,_,_,_,⟨m+1,fun n hn=>by
   obtain⟨k,rfl⟩:∃k,n=k+1:=⟨n-1,by omega⟩;simp only[ct,h1 k (by omega)]⟩,h2⟩
theorem oy{i:Nat}{b:aQ}(H:WE T base rnd b (KB i Q) e ds h):WE T base rnd (.block i b) Q e ds h:=by
 obtain⟨x,e',ds',h',⟨m,h1⟩,⟨h2⟩⟩:=H.ok;cases x with
 |exit j=>
  by_cases hi:j=i
  ·exact⟨_,_,_,_,⟨m+1,λn hn=>by
    obtain⟨k,rfl⟩:∃k,n=k+1:=⟨n-1,by omega⟩;have hb:Nat.beq j i=true:=by rw[beq_eq];simpa using hi
    simp only[ct,h1 k (by omega),hb,cond_true]⟩,h2.1 hi⟩
  ·exact⟨_,_,_,_,⟨m+1,λn hn=>by
    obtain⟨k,rfl⟩:∃k,n=k+1:=⟨n-1,by omega⟩;have hb:Nat.beq j i=false:=by rw[beq_eq];simpa using hi
    simp only[ct,h1 k (by omega),hb,cond_false]⟩,h2.2 hi⟩
 |_=>exact⟨_,_,_,_,⟨m+1,fun n hn=>by
   obtain⟨k,rfl⟩:∃k,n=k+1:=⟨n-1,by omega⟩;simp only[ct,h1 k (by omega)]⟩,h2⟩
theorem DN{c:Operand}{a b:aQ}{t:Bool}(hc:ev h e c=some (.bool t))(h1:t=true->WE T base rnd a Q e ds h)(h2:t=false->WE T base rnd b Q e ds h):WE T base rnd (.cond c a b) Q e ds h:=by
 cases t with
 |true=>
  obtain⟨x,e',ds',h',⟨m,q1⟩,q2⟩:=(h1 rfl).ok;exact⟨_,_,_,_,⟨m+1,λn hn=>by
   obtain⟨k,rfl⟩:∃k,n=k+1:=⟨n-1,by omega⟩;simp only[ct,hc];exact q1 k (by omega)⟩,q2⟩
 |false=>
  obtain⟨x,e',ds',h',⟨m,q1⟩,q2⟩:=(h2 rfl).ok;exact⟨_,_,_,_,⟨m+1,λn hn=>by
   obtain⟨k,rfl⟩:∃k,n=k+1:=⟨n-1,by omega⟩;simp only[ct,hc];exact q1 k (by omega)⟩,q2⟩
theorem Ma{c:Operand}{a b:aQ}(hc:ev h e c=some (.bool true))(h1:WE T base rnd a Q e ds h):WE T base rnd (.cond c a b) Q e ds h:=DN hc (λ_=>h1) (λh=>by cases h)
theorem JJ{c:Operand}{a b:aQ}(hc:ev h e c=some (.bool false))(h1:WE T base rnd b Q e ds h):WE T base rnd (.cond c a b) Q e ds h:=DN hc (λh=>by cases h) (λ_=>h1)
theorem L8{ops:List bg}{is bf keep:List Nat}(H:WD T base ops bf (λe' h'=>KR keep Q .normal e' ds h') is [] e h):WE T base rnd (.draw ops is bf keep) Q e ds h:=by
 obtain⟨e',h',⟨m,h1⟩,⟨h2⟩⟩:=H.ok;exact⟨_,_,_,_,⟨m+1,λn hn=>by
  obtain⟨k,rfl⟩:∃k,n=k+1:=⟨n-1,by omega⟩;simp only[ct,h1 k (by omega)]⟩,h2⟩
theorem bW{b:aQ}(I:Nat->Env->Dfs->Heap->Prop){k:Nat}(hI:I k e ds h)
 (hr:∀k e ds h,I k e ds h->WE T base rnd b (KS (λe' ds' h'=>∃k',k'<k/\I k' e' ds' h') Q) e ds h):WE T base rnd (.loop b) Q e ds h:=
 ⟨XW.loop I (λk e ds h hI=>((hr k e ds h hI).ok.mono λx e ds h hq=>by cases x<;>exact hq.ok)) hI⟩
theorem WE.mono{c:aQ}{Q':XQ}(H:WE T base rnd c Q' e ds h)(hq:∀x e ds h,Q' x e ds h->Q x e ds h):WE T base rnd c Q e ds h:=⟨H.ok.mono hq⟩
theorem Qy{keep:List Nat}{e2:Env}(he:cE e keep=e2)(H:Q .normal e2 ds h):KR keep Q .normal e ds h:=by subst he;exact⟨H⟩
theorem vE{K:Env->Dfs->Heap->Prop}(H:K e ds h):KS K Q .normal e ds h:=⟨H⟩
theorem TK{K:Env->Dfs->Heap->Prop}(H:Q .ret e ds h):KS K Q .ret e ds h:=⟨H⟩
theorem Eg{K:Env->Dfs->Heap->Prop}{i:Nat}(H:Q (.exit i) e ds h):KS K Q (.exit i) e ds h:=⟨H⟩
theorem Nz{i:Nat}(H:Q .normal e ds h):KB i Q .normal e ds h:=⟨H⟩
theorem TI{i:Nat}(H:Q .ret e ds h):KB i Q .ret e ds h:=⟨H⟩
theorem Kz{i:Nat}(H:Q .normal e ds h):KB i Q (.exit i) e ds h:=⟨⟨λ_=>H,λh=>(h rfl).elim⟩⟩
theorem NA{i j:Nat}(hn:Nat.beq j i=false)(H:Q (.exit j) e ds h):KB i Q (.exit j) e ds h:=by
 rw[beq_eq]at hn;simp only[decide_eq_false_iff_not]at hn;exact⟨⟨λh=>(hn h).elim,λ_=>H⟩⟩
theorem aO(H:Q .normal e ds h):WO T base rnd Q [] e ds h:=⟨sI (T:=T) (base:=base) (rnd:=rnd) (ops:=[]) H⟩
theorem aA{dst:Option Nat}{op:AOp}{os:List bg}{v:Value}{h':Heap}(ho:aop h base e op=some (.val v h'))(H:WO T base rnd Q os (cI e dst v) ds h'):WO T base rnd Q (⟨dst,op,none⟩::os) e ds h:=by
 obtain⟨x,e',ds',h',⟨m,h1⟩,h2⟩:=H.ok;exact⟨x,e',ds',h',⟨m+1,λn hn=>by
  obtain⟨k,rfl⟩:∃k,n=k+1:=⟨n-1,by omega⟩;simp only[gh,bX,ho];exact h1 k (by omega)⟩,h2⟩
theorem zJ{dst:Option Nat}{op:AOp}{os:List bg}{fn:Fn}{args:List Value}{h':Heap}(ho:aop h base e op=some (.call fn args h'))(H:FW T fn args {h' with log:=[]} (KO (WO T base rnd Q os) Q base dst e ds h'.log)):WO T base rnd Q (⟨dst,op,none⟩::os) e ds h:=by
 obtain⟨r,h4,⟨m1,hf⟩,⟨H⟩⟩:=H;cases r with
 |ret v=>
  obtain⟨x,e',ds',h',⟨m,h1⟩,h2⟩:=WO.ok H;exact⟨x,e',ds',h',⟨m+m1+1,λn hn=>by
   obtain⟨k,rfl⟩:∃k,n=k+1:=⟨n-1,by omega⟩;simp only[gh,bX,ho,hf k (by omega)];exact h1 k (by omega)⟩,h2⟩
 |panic v=>
  exact⟨_,_,_,_,⟨m1+1,λn hn=>by
   obtain⟨k,rfl⟩:∃k,n=k+1:=⟨n-1,by omega⟩;simp only[gh,bX,ho,hf k (by omega)]⟩,H⟩
theorem JL{dst:Option Nat}{op:AOp}{os:List bg}{t:Nat}{b:Bool}(hg:geT e t=some (.bool b))(H:WO T base rnd Q (⟨dst,op,none⟩::os) e ds h):WO T base rnd Q (⟨dst,op,some (t,b)⟩::os) e ds h:=by
 obtain⟨x,e',ds',h',⟨m,h1⟩,h2⟩:=H.ok;exact⟨x,e',ds',h',⟨m+1,λn hn=>by
  obtain⟨k,rfl⟩:∃k,n=k+1:=⟨n-1,by omega⟩;have:=h1 (k+1) (by omega);have hb:(b==b)=true:=by simp
  simp only[gh,bX]at this;simp only[gh,bX,hg,hb];exact this⟩,h2⟩
theorem Pc{dst:Option Nat}{op:AOp}{os:List bg}{t:Nat}{b x:Bool}(hg:geT e t=some (.bool x))(hx:x= !b)(H:WO T base rnd Q os (cI e dst (.tuple #[])) ds h):WO T base rnd Q (⟨dst,op,some (t,b)⟩::os) e ds h:=by
 obtain⟨x',e',ds',h',⟨m,h1⟩,h2⟩:=H.ok;exact⟨x',e',ds',h',⟨m+1,λn hn=>by
  obtain⟨k,rfl⟩:∃k,n=k+1:=⟨n-1,by omega⟩;have hb:(x==b)=false:=by subst hx;cases b<;>rfl
  simp only[gh,bX,hg,hb];exact h1 k (by omega)⟩,h2⟩
theorem vt{ops:List bg}{bf:List Nat}{rs:List Rec}{Q:Env->Heap->Prop}(H:Q e h):WD T base ops bf Q [] rs e h:=⟨CB (T:=T) (base:=base) (ops:=ops) (bf:=bf) (is:=[]) (rs:=rs) H⟩
theorem rA{ops:List bg}{bf:List Nat}{rs rs':List Rec}{Q:Env->Heap->Prop}{i:Nat}{is:List Nat}{e1:Env}{h1:Heap}(hs:∃m,∀n,m<=n->∀r,eH T n base ops is bf rs' e1 h1=some r->eH T (n+1) base ops (i::is) bf rs e h=some r)
 (H:WD T base ops bf Q is rs' e1 h1):WD T base ops bf Q (i::is) rs e h:=by
 obtain⟨e',h',⟨m,q1⟩,q2⟩:=H.ok;obtain⟨m0,hs⟩:=hs;exact⟨e',h',⟨m+m0+1,λn hn=>by
  obtain⟨k,rfl⟩:∃k,n=k+1:=⟨n-1,by omega⟩;exact hs k (by omega) _ (q1 k (by omega))⟩,q2⟩
theorem O9{ops:List bg}{bf:List Nat}{rs:List Rec}{Q:Env->Heap->Prop}{i mask:Nat}{is:List Nat}{dst:Option Nat}{op:AOp}{g:Option (Nat×Bool)}{er:Env}(ho:aT ops i=some ⟨dst,op,g⟩)(hm:aT bf i=some mask)(he:cE e (cV ⟨dst,op,g⟩)=er)(hw:bX er g=some false)
 (H:WD T base ops bf Q is (⟨i,⟨dst,op,g⟩,er, .tuple #[], .skip⟩::rs) (cI e dst (.tuple #[])) h):WD T base ops bf Q (i::is) rs e h:=by
 subst he;exact rA ⟨0,λn _ r hr=>by simp only[eH,ho,hm,hw];exact hr⟩ H
theorem cD{ops:List bg}{bf:List Nat}{rs:List Rec}{Q:Env->Heap->Prop}{i mask:Nat}{is:List Nat}{dst:Option Nat}{op:AOp}{g:Option (Nat×Bool)}{er:Env}{v:Value}(ho:aT ops i=some ⟨dst,op,g⟩)(hm:aT bf i=some mask)(he:cE e (cV ⟨dst,op,g⟩)=er)(hw:bX er g=some true)
 (hq:jw op=true)(hn:dw op=false)(hop:aop h base er op=some (.val v h))(H:WD T base ops bf Q is (⟨i,⟨dst,op,g⟩,er,v, .quiet⟩::rs) (cI e dst v) h):WD T base ops bf Q (i::is) rs e h:=by
 subst he;have hb:Nat.beq h.next h.next=true:=by rw[beq_eq];simp
 exact rA ⟨0,λn _ r hr=>by simp only[eH,ho,hm,hw,hq,hop,hn,hb,cond_true,cond_false];exact hr⟩ H
theorem zG{ops:List bg}{bf:List Nat}{rs:List Rec}{Q:Env->Heap->Prop}{i mask:Nat}{is:List Nat}{dst:Option Nat}{op:AOp}{g:Option (Nat×Bool)}{er:Env}{v:Value}{h':Heap}(ho:aT ops i=some ⟨dst,op,g⟩)(hm:aT bf i=some mask)(he:cE e (cV ⟨dst,op,g⟩)=er)(hw:bX er g=some true)
 (hq:jw op=true)(hn:dw op=true)(hop:aop h base er op=some (.val v h'))(hrs:mX h' base rs=true)(H:WD T base ops bf Q is (⟨i,⟨dst,op,g⟩,er,v, .made h.next⟩::rs) (cI e dst v) h'):WD T base ops bf Q (i::is) rs e h:=by
 subst he;exact rA ⟨0,λn _ r hr=>by simp only[eH,ho,hm,hw,hq,hop,hn,hrs,cond_true];exact hr⟩ H
theorem O8{ops:List bg}{bf:List Nat}{rs rs':List Rec}{Q:Env->Heap->Prop}{i mask:Nat}{is:List Nat}{dst:Option Nat}{op:AOp}{g:Option (Nat×Bool)}{er:Env}{v:Value}{h2:Heap}(ho:aT ops i=some ⟨dst,op,g⟩)(hm:aT bf i=some mask)(he:cE e (cV ⟨dst,op,g⟩)=er)(hw:bX er g=some true)
 (hq:jw op=false)(hop:aop {h with log:=[]} h.next er op=some (.val v h2))(hrs:bL {h2 with log:=aF base h.log h2.log} base h2.log mask rs=some rs')
 (H:WD T base ops bf Q is rs' (cI e dst v) {h2 with log:=aF base h.log h2.log}):WD T base ops bf Q (i::is) rs e h:=by
 subst he;exact rA ⟨0,λn _ r hr=>by simp only[eH,ho,hm,hw,hq,hop,hrs,cond_false];exact hr⟩ H
theorem zF{ops:List bg}{bf:List Nat}{rs:List Rec}{Q:Env->Heap->Prop}{i mask:Nat}{is:List Nat}{dst:Option Nat}{op:AOp}{g:Option (Nat×Bool)}{er:Env}{fn:Fn}{args:List Value}{h3:Heap}(ho:aT ops i=some ⟨dst,op,g⟩)(hm:aT bf i=some mask)(he:cE e (cV ⟨dst,op,g⟩)=er)(hw:bX er g=some true)
 (hq:jw op=false)(hop:aop {h with log:=[]} h.next er op=some (.call fn args h3))(H:FW T fn args {h with log:=[]} (KD (WD T base ops bf Q is) base mask rs dst e h.log)):WD T base ops bf Q (i::is) rs e h:=by
 subst he;obtain⟨r,h4,⟨m1,hf⟩,⟨H⟩⟩:=H;unfold kD at H;split at H
 ·split at H
  ·rename_i rs' hrs;exact rA ⟨m1,λn hn r hr=>by simp only[eH,ho,hm,hw,hq,hop,hf n hn,hrs,cond_false];exact hr⟩ H
  ·exact H.elim
 ·exact H.elim
end Go.A
end
section
namespace Go.A
variable {T:Nat->Option af}
theorem iZ{base N:Nat}{rnd:Option Nat}{c:aQ}{e:Env}{ds:Dfs}{h:Heap}{r:br×Env×Dfs×Heap}(H:∀n,(nN T (n+N)).exec base rnd c e ds h=some r):Ev T base rnd c e ds h r:=
 ⟨N,λn hn=>by
  have:=H (n-N);rw[Db,show n-N+N=n by omega]at this;exact this⟩
theorem jx{base:Nat}{rnd:Option Nat}{c:aQ}{e e1:Env}{ds ds1:Dfs}{h h1:Heap}{r:br×Env×Dfs×Heap}(hc:c= .seq (cL c) (cR c))(H1:Ev T base rnd (cL c) e ds h (.normal,e1,ds1,h1))(H2:Ev T base rnd (cR c) e1 ds1 h1 r):Ev T base rnd c e ds h r:=by
 obtain⟨m1,q1⟩:=H1;obtain⟨m2,q2⟩:=H2;refine⟨m1+m2+1,λn hn=> ?_⟩;obtain⟨k,rfl⟩:∃k,n=k+1:=⟨n-1,by omega⟩;rw[hc];simp only[ct,q1 k (by omega)];exact q2 k (by omega)
theorem CW.TQ{f:Nat}{args:List Value}{h:Heap}{Q:Res->Heap->Prop}{c:aQ}{rs:List (Nat×Option (Option Nat))}{x:br}{e:Env}{ds:Dfs}{h1:Heap}(hf:T f=some (.code c rs))(H:Ev T h.next none c (eM 0 args) [] h (x,e,ds,h1))(hq:xR rs h Q x e ds h1):CW T f args h Q:=
 CW.code hf ⟨x,e,ds,h1,H,hq⟩
theorem R.none{P:Program}{w:World}{n:Nat}(hn:P.globals.size<=n):R P (λ_=>none) ⟨[],n,[]⟩ w:=
 {big:=hn
  j8:=λg o _ h=>by cases h
  obj:=λb o h=>by cases h
  lt:=λb o h=>by cases h
  dom:=λb k h=>by cases h
  jP:=λb b' o o' k k' _ h=>by cases h}
end Go.A
end
section
namespace Go.A
variable {T:Nat->Option af} {base:Nat} {rnd:Option Nat} {Q:XQ} {e:Env} {ds:Dfs} {h:Heap}
theorem Heap.ja(h:Heap)(o:bO):(h.push o).get h.next=some o:=by rw[Heap.di,if_pos rfl]
theorem Heap.gp{h:Heap}{o:bO}{x:Nat}(hx:x<h.next):(h.push o).get x=h.get x:=by rw[Heap.di,if_neg (by omega)]
theorem Heap.aB{h:Heap}{base b:Nat}{o o':bO}(hb:h.get b=some o'):(h.wr base b o).get b=some o:=by rw[Heap.kK,if_pos rfl,hb];rfl
theorem Heap.Ao(h:Heap)(base b:Nat)(o:bO):(h.wr base b o).get b=(h.get b).map λ_=>o:=by rw[Heap.kK,if_pos rfl]
theorem Heap.eD{h:Heap}{base b:Nat}{o:bO}{x:Nat}(hx:x≠b):(h.wr base b o).get x=h.get x:=by rw[Heap.kK,if_neg hx]
theorem Heap.uC(h:Heap)(o:bO):(h.push o).log=h.log:=rfl
theorem Heap.aq{h:Heap}{base b:Nat}{o:bO}(hb:base<=b):(h.wr base b o).log=h.log:=by
 simp only[Heap.wr,blt_eq];rw[decide_eq_false (by omega)];rfl
theorem gG{x:Operand}{v:Value}(hx:ev h e x=some v):aop h base e (.mov x)=some (.val v h):=by simp only[aop,hx,cM]
theorem CP{c a b:Operand}{v:Value}(hc:ev h e c=some (.bool true))(hx:ev h e a=some v):aop h base e (.pick c a b)=some (.val v h):=by simp only[aop,hc,hx,cM]
theorem CO{c a b:Operand}{v:Value}(hc:ev h e c=some (.bool false))(hx:ev h e b=some v):aop h base e (.pick c a b)=some (.val v h):=by simp only[aop,hc,hx,cM]
theorem sO{z:List Value}:aop h base e (.new z)=some (.val (.pointer (some ⟨h.next,0,none⟩)) (h.push (.cells z true 1))):=rfl
theorem PD{x:Operand}{v:Value}{vs:List Value}(hx:ev h e x=some v)(hc:cellsOf v=vs):aop h base e (.box x)=some (.val (.pointer (some ⟨h.next,0,none⟩)) (h.push (.cells vs true 1))):=by simp only[aop,hx,cM,hc]
theorem lE{z cs:List Value}{ps:List (Nat×Nat×Operand)}(hf:iO h e z ps=some cs):aop h base e (.build z ps)=some (.val (.agg cs.toArray) h):=by simp only[aop,hf]
theorem qi{z cs:List Value}{n m:Nat}{ps:List (Nat×Nat×Operand)}(hf:iO h e (fR n z) ps=some cs)(hm:bK z=m):aop h base e (.dh z n ps)=some (.val (.slice (some ⟨h.next,0,none⟩) n n) (h.push (.cells cs true m))):=by simp only[aop,hf,hm]
theorem fq{x:Operand}{b o sz:Nat}{vs:List Value}{own:Bool}{v:Value}(hx:ev h e x=some (.pointer (some ⟨b,o,none⟩)))(hb:h.get b=some (.cells vs own sz))(hv:aT vs o=some v):aop h base e (.load none x)=some (.val v h):=by
 simp only[aop,hx,cM,nT,hb,hv]
theorem cQ{x:Operand}{n b o sz:Nat}{vs l:List Value}{own:Bool}(hx:ev h e x=some (.pointer (some ⟨b,o,none⟩)))(hb:h.get b=some (.cells vs own sz))(hv:bB n (bA o vs)=l)(hl:Nat.beq (bK l) n=true):
 aop h base e (.load (some n) x)=some (.val (.agg l.toArray) h):=by
 simp only[aop,hx,cM,nT,hb,hv,hl,cond_true]
theorem dZ{x y:Operand}{n b o sz:Nat}{vs ws:List Value}{v:Value}(hx:ev h e x=some (.pointer (some ⟨b,o,none⟩)))(hy:ev h e y=some v)(hb:h.get b=some (.cells vs true sz))
 (hc:(Nat.beq (bK (cellsOf v)) n&&Nat.ble (o+n) (bK vs)&&cK (cellsOf v))=true)(hw:bZ vs o (cellsOf v)=ws):aop h base e (.store n x y)=some (.val (.tuple #[]) (h.wr base b (.cells ws true sz))):=by
 simp only[aop,hx,hy,cM,pW,hb,hc,hw,cond_true]
theorem tV{op:BinOp}{x y:Operand}{a b v:Value}(hx:ev h e x=some a)(hy:ev h e y=some b)(hv:ah op a b=some v):aop h base e (.bin (.num op) x y)=some (.val v h):=by simp only[aop,hx,hy,cM,hv]
theorem PC{neq b:Bool}{ls:List dN}{x y:Operand}{xs ys:Array Value}(hx:ev h e x=some (.agg xs))(hy:ev h e y=some (.agg ys))(hn:bG ls xs.toList ys.toList=some b):aop h base e (.bin (.agg neq ls) x y)=some (.val (.bool (bif neq then !b else b)) h):=by
 simp only[aop,hx,hy,cM,hn]
theorem MH{x:Operand}{b:Bool}(hx:ev h e x=some (.bool b)):aop h base e (.un .not x)=some (.val (.bool !b) h):=by simp only[aop,hx,cM,ry]
theorem ez{off b o:Nat}{x:Operand}(hx:ev h e x=some (.pointer (some ⟨b,o,none⟩))):aop h base e (.bF off x)=some (.val (.pointer (some ⟨b,o+off,none⟩)) h):=by simp only[aop,hx]
theorem qj{size b o len cap i:Nat}{k:IntKind}{x y:Operand}(hx:ev h e x=some (.slice (some ⟨b,o,none⟩) len cap))(hy:ev h e y=some (.int k (i:Nat)))(hi:i<len):aop h base e (.aH size x y)=some (.val (.pointer (some ⟨b,o+i*size,none⟩)) h):=by
 have:(.int k (i:Nat):Value)= .int k (Int.ofNat i):=rfl;rw[this]at hy;simp only[aop,hx,hy,blt_eq,decide_eq_true hi,cond_true]
theorem DX{x:Operand}{i:Nat}{vs:Array Value}{v:Value}(hx:ev h e x=some (.tuple vs))(hv:aT vs.toList i=some v):aop h base e (.extract x i)=some (.val v h):=by simp only[aop,hx,cM,hv]
theorem Br{x:Operand}{a:Option Addr}{n c:Nat}(hx:ev h e x=some (.slice a n c)):aop h base e (.len 1 x)=some (.val (.int .i64 n) h):=by simp only[aop,hx]
theorem FP{fn:Fn}{fs cs:List Operand}{as bs:List Value}(h1:evs h e fs=some as)(h2:evs h e cs=some bs):aop h base e (.dU fn fs cs)=some (.val (.func fn as.toArray bs.toArray) h):=by simp only[aop,h1,h2]
theorem ni{x:Operand}{b o:Nat}(hx:ev h e x=some (.pointer (some ⟨b,o,none⟩))):aop h base e (.bC x)=some (.val (.pointer (some ⟨b,o,none⟩)) h):=by simp only[aop,hx,cM]
theorem FL{f:Operand}{args:List Operand}{fv:Value}{as:List Value}{g:Nat}{first cap:Array Value}{all:List Value}(hf:ev h e f=some fv)(ha:evs h e args=some as)(hv:fv= .func (.func g) first cap)(hl:dP first.toList (dP as cap.toList)=all):
 aop h base e (.call f args)=some (.call (.func g) all h):=by subst hv;simp only[aop,hf,ha,nO,hl]
theorem bJ{n:Int}(h1: -9223372036854775808<=n)(h2:n<9223372036854775808):fG .i64 n=n:=by
 rw[rC,IntKind.wrap_i64];omega
theorem MV{k:IntKind}{a b:Int}:ah .lss (.int k a) (.int k b)=some (.bool (decide (a<b))):=by simp[ah,arith,lP]
theorem MU{k:IntKind}{a b:Int}:ah .leq (.int k a) (.int k b)=some (.bool (decide (a<=b))):=by simp[ah,arith,lP]
theorem MT{k:IntKind}{a b:Int}:ah .gtr (.int k a) (.int k b)=some (.bool (decide (b<a))):=by simp[ah,arith,lP]
theorem Dm{k:IntKind}{a b:Int}:ah .geq (.int k a) (.int k b)=some (.bool (decide (b<=a))):=by simp[ah,arith,lP]
theorem MS{k:IntKind}{a b:Int}:ah .eql (.int k a) (.int k b)=some (.bool (a==b)):=by simp[ah,arith,lP]
theorem Ht{k:IntKind}{a b:Int}:ah .neq (.int k a) (.int k b)=some (.bool (a !=b)):=by simp[ah,arith,lP]
theorem iD{k:IntKind}{a b c:Int}(hc:fG k (a+b)=c):ah .add (.int k a) (.int k b)=some (.int k c):=by simp[ah,arith,hc]
theorem mW{k:IntKind}{a b c:Int}(hc:fG k (a-b)=c):ah .sub (.int k a) (.int k b)=some (.int k c):=by simp[ah,arith,hc]
theorem QF{n:Nat}(hn:n<9223372036854775807):ah .add (.int .i64 n) (.int .i64 1)=some (.int .i64 (n+1:Nat)):=iD (by rw[bJ]<;>omega)
theorem M8{l m:List (Nat×bO)}(hk:l.map (·.1)=m.map (·.1))(hn:(m.map (·.1)).Nodup)(hg:∀b,b∈m.map (·.1)->eZ l b=eZ m b):l=m:=by
 induction m generalizing l with
 |nil=>simpa using hk
 |cons p m ih=>
  obtain⟨k,o⟩:=p;cases l with
  |nil=>simp at hk
  |cons q l=>
   obtain⟨k',o'⟩:=q;simp only[List.map_cons,List.cons.injEq]at hk;obtain⟨h1,h2⟩:=hk;subst h1;simp only[List.map_cons,List.nodup_cons]at hn;have h3:=hg k' (by simp);simp only[eZ,cond_eq_ite,beq_eq,decide_true,if_true]at h3;cases h3;congr 1;refine ih h2 hn.2 λb hb=> ?_;have h4:=hg b (by simp[hb]);have hne:k'≠b:=λe=>hn.1 (e▸hb);simpa only[eZ,cond_eq_ite,beq_eq,decide_eq_true_eq,if_neg hne]using h4
structure WF (h:Heap):Prop where
 nodup:(h.b8.map (·.1)).Nodup
 lt:∀b,b∈h.b8.map (·.1)->b<h.next
theorem pH{a n b:Nat}:b∈cW a n↔a<=b/\b<a+n:=by
 induction n with
 |zero=>simp[cW]
 |succ n ih=>simp[cW,ih];omega
theorem xP(a n:Nat):(cW a n).Nodup:=by
 induction n with
 |zero=>simp[cW]
 |succ n ih=>simp only[cW,List.nodup_cons,pH];exact⟨by omega,ih⟩
theorem WF.as{base:Nat}{h h':Heap}(hw:WF h)(hA:AS base h h'):WF h' where
 nodup:=by
  rw[hA.keys,List.nodup_append];refine⟨xP _ _,hw.nodup,λa ha b hb=> ?_⟩;rw[pH]at ha;have:=hw.lt b hb;omega
 lt:=λb hb=>by
  rw[hA.keys,List.mem_append]at hb;have:=hA.next
  rcases hb with hb|hb
  ·rw[pH]at hb;omega
  ·have:=hw.lt b hb;omega
theorem WF.log{h:Heap}(hw:WF h)(l:List Nat):WF {h with log:=l}:=⟨hw.nodup,hw.lt⟩
theorem WF.push{h:Heap}(hw:WF h)(o:bO):WF (h.push o):=hw.as (AS.push 0 h o)
structure Ext (h h':Heap):Prop where
 next:h.next<=h'.next
 log:h'.log=h.log
 old:∀b,b<h.next->h'.get b=h.get b
 wf:WF h->WF h'
theorem Ext.refl(h:Heap):Ext h h:=⟨Nat.le_refl _,rfl,λ_ _=>rfl,id⟩
theorem Ext.trans{a b c:Heap}(h:Ext a b)(g:Ext b c):Ext a c:=⟨Nat.le_trans h.next g.next,g.log.trans h.log,λx hx=>(g.old x (Nat.lt_of_lt_of_le hx h.next)).trans (h.old x hx),λw=>g.wf (h.wf w)⟩
theorem Ext.push{a b:Heap}(h:Ext a b)(o:bO):Ext a (b.push o):=⟨Nat.le_succ_of_le h.next,h.log,λx hx=>(Heap.gp (Nat.lt_of_lt_of_le hx h.next)).trans (h.old x hx),λw=>(h.wf w).push o⟩
theorem Ext.wr{a b:Heap}(h:Ext a b){base x:Nat}{o:bO}(hx:a.next<=x)(hb:base<=x):Ext a (b.wr base x o):=⟨h.next,(Heap.aq hb).trans h.log,λy hy=>(Heap.eD (by omega)).trans (h.old y hy),λw=>(h.wf w).as (AS.wr base b x o)⟩
theorem Ec{l:List (Nat×bO)}{b:Nat}(hb:b ∉ l.map (·.1)):eZ l b=none:=by
 induction l with
 |nil=>rfl
 |cons p l ih=>
  obtain⟨k,o⟩:=p;simp only[List.map_cons,List.mem_cons,not_or]at hb;simp only[eZ,cond_eq_ite,beq_eq,decide_eq_true_eq];rw[if_neg (Ne.symm hb.1)];exact ih hb.2
theorem Df{h h1:Heap}{v:Value}(hw:WF h)(hA:AS h.next h h1)(hl:h1.log=h.log)(h0:h.log=[])(hv:cT v=true):gcA h h1 v=h:=by
 have hA':=hA.keys;have e:bA (h1.next-h.next) h1.b8=h.b8:=by
  rw[cw];have hlen:(cW h.next (h1.next-h.next)).length=h1.next-h.next:=by
   generalize h1.next-h.next=n
   induction n with
   |zero=>rfl
   |succ n ih=>simp[cW,ih]
  have hk:(h1.b8.drop (h1.next-h.next)).map (·.1)=h.b8.map (·.1):=by
   rw[List.map_drop,hA',List.drop_append_of_le_length (by omega),List.drop_of_length_le (by omega),List.nil_append]
  refine M8 hk hw.nodup λb hb=> ?_;have hbl:=hw.lt b hb;have hs:=hA.same b hbl hbl (by rw[hl,h0];rfl);have hsplit:h1.b8=h1.b8.take (h1.next-h.next)++h1.b8.drop (h1.next-h.next):=(List.take_append_drop _ _).symm;have hkt:(h1.b8.take (h1.next-h.next)).map (·.1)=cW h.next (h1.next-h.next):=by
   rw[List.map_take,hA',List.take_append_of_le_length (by omega),List.take_of_length_le (by omega)]
  have:=kr _ h.next _ (h1.b8.drop (h1.next-h.next)) hkt b hbl
  rw[←hsplit]at this;exact this.symm.trans hs
 simp only[gcA,hv,hl,h0,gO,Bool.and_true,cond_true,nM,e];cases h;simp at h0⊢;exact h0
structure Rdy (h:Heap):Prop where
 wf:WF h
 log:h.log=[]
def Pu(T:Nat->Option af)(f:Nat)(args:List Value)(h:Heap)(v:Value):Prop:=CW T f args h λr h'=>r= .ret v/\h'=h
structure Qg (rs:List (Nat×Option (Option Nat))) (v0:Value) (x:br) (e:Env) (ds:Dfs) (h1:Heap):Prop where
 ok:(x= .normal∨x= .ret)/\ds=[]/\h1.log=[]/\∃vs,cC h1 e rs=some vs/\fH vs=v0
theorem ak{rs:List (Nat×Option (Option Nat))}{v0:Value}{vs:List Value}(hl:h.log=[])(hr:cC h e rs=some vs)(hv:fH vs=v0):Qg rs v0 .ret e [] h:=⟨⟨.inr rfl,rfl,hl,vs,hr,hv⟩⟩
theorem Pu.of(hp:aV T){f:Nat}{args:List Value}{c:aQ}{rs:List (Nat×Option (Option Nat))}{v0:Value}(hf:T f=some (.code c rs))(hr:Rdy h)(hv:cT v0=true)(H:WE T h.next none c (Qg rs v0) (eM 0 args) [] h):Pu T f args h v0:=by
 obtain⟨x,e,ds,h1,⟨m,hm⟩,⟨hx,rfl,hl,vs,hvs,rfl⟩⟩:=H.ok;have hA:=(eS.all hp m).exec _ _ _ _ _ _ _ _ _ _ (hm m (Nat.le_refl _)) (Nat.le_refl _);refine CW.code hf ⟨x,e,[],h1,⟨m,hm⟩,?_⟩;unfold xR;have hg:=Df hr.wf hA (hl.trans hr.log.symm) hr.log hv;rcases hx with rfl|rfl
 ·simp only[hvs,hg];exact⟨trivial,trivial⟩
 ·simp only[hvs,hg];exact⟨trivial,trivial⟩
theorem FW.pu{f:Nat}{args:List Value}{v:Value}{K:Env->Dfs->Heap->Prop}{dst:Option Nat}(H:Pu T f args {h with log:=[]} v)(hK:K (cI e dst v) ds h):FW T (.func f) args {h with log:=[]} (KO K Q base dst e ds h.log):=by
 refine .func (CW.mono H ?_);rintro r h' ⟨rfl,rfl⟩;exact⟨hK⟩
theorem Rdy.of{h:Heap}(hw:WF h):Rdy {h with log:=[]}:=⟨hw.log [],rfl⟩
theorem FW.puD{f:Nat}{args:List Value}{v:Value}{K:List Rec->Env->Heap->Prop}{mask:Nat}{rs rs':List Rec}{dst:Option Nat}(H:Pu T f args {h with log:=[]} v)(hrs:bL h base [] mask rs=some rs')(hK:K rs' (cI e dst v) h):
 FW T (.func f) args {h with log:=[]} (KD K base mask rs dst e h.log):=by
 refine .func (CW.mono H ?_);rintro r h' ⟨rfl,rfl⟩;refine⟨?_⟩;show(match bL {h with log:=aF base h.log []} base [] mask rs with
  |some rs'=>K rs' (cI e dst v) {h with log:=aF base h.log []}
  |none=>False)
 have:({h with log:=aF base h.log []}:Heap)=h:=rfl;rw[this,hrs];exact hK
structure qh (h:Heap) (b o n sz:Nat) (cs:List Value):Prop where
 lt:b<h.next
 obj:∃vs own s,h.get b=some (.cells vs own s)/\bB (n*sz) (bA o vs)=cs
 len:cs.length=n*sz
inductive bS (h:Heap) (sz:Nat):Value->Nat->List Value->Prop
 |nil {c}:bS h sz (.slice none 0 c) 0 []
 |mem {b o n cap cs}:qh h b o n sz cs->n<=cap->bS h sz (.slice (some ⟨b,o,none⟩) n cap) n cs
theorem qh.ext{h h':Heap}{b o n sz:Nat}{cs:List Value}(s:qh h b o n sz cs)(x:Ext h h'):qh h' b o n sz cs:=by
 obtain⟨vs,own,t,h1,h2⟩:=s.obj;exact⟨Nat.lt_of_lt_of_le s.lt x.next,⟨vs,own,t,(x.old _ s.lt).trans h1,h2⟩,s.len⟩
theorem bS.ext{h h':Heap}{sz n:Nat}{v:Value}{cs:List Value}(s:bS h sz v n cs)(x:Ext h h'):bS h' sz v n cs:=by
 cases s with
 |nil=>exact .nil
 |mem s hc=>exact .mem (s.ext x) hc
theorem bS.form{h:Heap}{sz n:Nat}{v:Value}{cs:List Value}(s:bS h sz v n cs):∃a c,v= .slice a n c:=by
 cases s<;>exact⟨_,_,rfl⟩
theorem bS.log{h:Heap}{sz n:Nat}{v:Value}{cs:List Value}(s:bS h sz v n cs)(l:List Nat):bS {h with log:=l} sz v n cs:=by
 cases s with
 |nil=>exact .nil
 |mem s hc=>exact .mem ⟨s.lt,s.obj,s.len⟩ hc
theorem bS.inv{h:Heap}{sz n:Nat}{v:Value}{cs:List Value}(s:bS h sz v n cs):(∃c,v= .slice none 0 c/\n=0/\cs=[])∨∃b o cap,v= .slice (some ⟨b,o,none⟩) n cap/\qh h b o n sz cs/\n<=cap:=by
 cases s with
 |nil=>exact .inl ⟨_,rfl,rfl,rfl⟩
 |mem s hc=>exact .inr ⟨_,_,_,rfl,s,hc⟩
theorem ye{k:IntKind}{a b:Int}(h:b<=a):ah .geq (.int k a) (.int k b)=some (.bool true):=by rw[Dm,decide_eq_true h]
theorem BM{k:IntKind}{a b:Int}(h:a<b):ah .geq (.int k a) (.int k b)=some (.bool false):=by rw[Dm,decide_eq_false (by omega)]
theorem kQ{k:IntKind}{a b:Int}(h:a<=b):ah .leq (.int k a) (.int k b)=some (.bool true):=by rw[MU,decide_eq_true h]
theorem lR{k:IntKind}{a b:Int}(h:b<a):ah .leq (.int k a) (.int k b)=some (.bool false):=by rw[MU,decide_eq_false (by omega)]
theorem dG{k:IntKind}{a b:Int}(h:a<b):ah .lss (.int k a) (.int k b)=some (.bool true):=by rw[MV,decide_eq_true h]
theorem dJ{k:IntKind}{a b:Int}(h:b<=a):ah .lss (.int k a) (.int k b)=some (.bool false):=by rw[MV,decide_eq_false (by omega)]
theorem kP{k:IntKind}{a b:Int}(h:b<a):ah .gtr (.int k a) (.int k b)=some (.bool true):=by rw[MT,decide_eq_true h]
theorem jB{k:IntKind}{a b:Int}(h:a<=b):ah .gtr (.int k a) (.int k b)=some (.bool false):=by rw[MT,decide_eq_false (by omega)]
theorem nU{k:IntKind}{a b:Int}(h:a=b):ah .eql (.int k a) (.int k b)=some (.bool true):=by rw[MS];simp[h]
theorem pN{k:IntKind}{a b:Int}(h:a≠b):ah .eql (.int k a) (.int k b)=some (.bool false):=by rw[MS];simp[h]
theorem yg{k:IntKind}{a b:Int}(h:a≠b):ah .neq (.int k a) (.int k b)=some (.bool true):=by rw[Ht];simp[h]
theorem BO{k:IntKind}{a b:Int}(h:a=b):ah .neq (.int k a) (.int k b)=some (.bool false):=by rw[Ht];simp[h]
def Al(T:Nat->Option af)(f:Nat)(args:List Value)(h:Heap)(Q:Value->Heap->Prop):Prop:=CW T f args h λr h'=>Ext h h'∧∃v,r= .ret v/\Q v h'
structure Qf (rs:List (Nat×Option (Option Nat))) (Q:Value->Heap->Prop) (x:br) (e:Env) (ds:Dfs) (h1:Heap):Prop where
 ok:(x= .normal∨x= .ret)/\ds=[]/\h1.log=[]/\∃vs,cC h1 e rs=some vs/\Q (fH vs) h1
theorem fA{rs:List (Nat×Option (Option Nat))}{Q:Value->Heap->Prop}{vs:List Value}(hl:h.log=[])(hr:cC h e rs=some vs)(hq:Q (fH vs) h):Qf rs Q .ret e [] h:=⟨⟨.inr rfl,rfl,hl,vs,hr,hq⟩⟩
theorem Ext.pg{h h1:Heap}(hr:Rdy h)(hA:AS h.next h h1)(hl:h1.log=[]):Ext h h1:=
 ⟨hA.next,hl.trans hr.log.symm,λb hb=>hA.same b hb hb (by rw[hl];rfl),λw=>w.as hA⟩
theorem Al.of(hp:aV T){f:Nat}{args:List Value}{c:aQ}{rs:List (Nat×Option (Option Nat))}{Q:Value->Heap->Prop}(hf:T f=some (.code c rs))(hr:Rdy h)(hQ:∀v h1,cT v=true->Q v h1->Q v h)(H:WE T h.next none c (Qf rs Q) (eM 0 args) [] h):Al T f args h Q:=by
 obtain⟨x,e,ds,h1,⟨m,hm⟩,⟨hx,rfl,hl,vs,hvs,hq⟩⟩:=H.ok;have hA:=(eS.all hp m).exec _ _ _ _ _ _ _ _ _ _ (hm m (Nat.le_refl _)) (Nat.le_refl _);refine CW.code hf ⟨x,e,[],h1,⟨m,hm⟩,?_⟩;have key:Ext h (gcA h h1 (fH vs))/\Q (fH vs) (gcA h h1 (fH vs)):=by
  cases hv:cT (fH vs)with
  |true=>
   rw[Df hr.wf hA (hl.trans hr.log.symm) hr.log hv];exact⟨.refl _,hQ _ _ hv hq⟩
  |false=>
   have:gcA h h1 (fH vs)=h1:=by simp[gcA,hv]
   rw[this];exact⟨.pg hr hA hl,hq⟩
 unfold xR;rcases hx with rfl|rfl
 ·simp only[hvs];exact⟨key.1,_,rfl,key.2⟩
 ·simp only[hvs];exact⟨key.1,_,rfl,key.2⟩
theorem Ext.NG{h h':Heap}(x:Ext {h with log:=[]} h'):Ext h {h' with log:=aF base h.log h'.log}:=by
 have:h'.log=[]:=x.log;refine⟨x.next,by rw[this];rfl,x.old,λw=>(x.wf (w.log [])).log _⟩
theorem FW.al{f:Nat}{args:List Value}{Q':Value->Heap->Prop}{K:Env->Dfs->Heap->Prop}{dst:Option Nat}(H:Al T f args {h with log:=[]} Q')(hlog:∀v (h':Heap) l,Q' v h'→Q' v {h' with log:=l})
 (hK:∀v h',Ext h h'→Q' v h'→K (cI e dst v) ds h'):FW T (.func f) args {h with log:=[]} (KO K Q base dst e ds h.log):=by
 refine .func (CW.mono H ?_);rintro r h' ⟨hx,v,rfl,hq⟩;exact⟨hK v _ hx.NG (hlog v h' _ hq)⟩
theorem Ly:cC h e []=some []:=rfl
theorem I9{t:Nat}{v:Value}{rs:List (Nat×Option (Option Nat))}{vs:List Value}(ht:geT e t=some v)(hr:cC h e rs=some vs):cC h e ((t,none)::rs)=some (v::vs):=by simp only[cC,ht,hr]
theorem bH{t n b o s:Nat}{own:Bool}{ws l:List Value}{rs:List (Nat×Option (Option Nat))}{vs:List Value}(ht:geT e t=some (.pointer (some ⟨b,o,none⟩)))(hb:h.get b=some (.cells ws own s))(hl:bB n (bA o ws)=l)(hn:Nat.beq (bK l) n=true)(hr:cC h e rs=some vs):
 cC h e ((t,some (some n))::rs)=some (.agg l.toArray::vs):=by simp only[cC,ht,nT,hb,hl,hn,cond_true,hr]
theorem I8{t b o s:Nat}{own:Bool}{ws:List Value}{v:Value}{rs:List (Nat×Option (Option Nat))}{vs:List Value}(ht:geT e t=some (.pointer (some ⟨b,o,none⟩)))(hb:h.get b=some (.cells ws own s))(hl:aT ws o=some v)(hr:cC h e rs=some vs):
 cC h e ((t,some none)::rs)=some (v::vs):=by simp only[cC,ht,nT,hb,hl,hr]
theorem bV{log:List Nat}{mask:Nat}:bL h base log mask []=some []:=rfl
theorem Lr{log:List Nat}{mask:Nat}{r:Rec}{rs rs':List Rec}(hb:Nat.testBit mask r.i=true)(H:bL h base log mask rs=some rs'):bL h base log mask (r::rs)=some rs':=by
 simp only[bL,hb,cond_true,H]
theorem Ls{log:List Nat}{mask:Nat}{r:Rec}{rs rs':List Rec}(hb:Nat.testBit mask r.i=false)(hq:pT h base r=true)(hm:ET log r=true)(H:bL h base log mask rs=some rs'):bL h base log mask (r::rs)=some (r::rs'):=by
 simp only[bL,hb,hq,hm,Bool.and_true,cond_true,cond_false,H]
theorem LA{r:Rec}{b:Nat}(hk:r.k= .made b):pT h base r=true:=by simp only[pT,hk]
theorem aG{r:Rec}(hk:r.k= .quiet)(hv:aop h base r.e r.o.op=some (.val r.v h))(hs:iG r.v r.v=true):pT h base r=true:=by
 have hb:Nat.beq h.next h.next=true:=by rw[beq_eq];simp
 simp only[pT,hk,hv,hs,hb,Bool.and_self]
theorem zj:mX h base []=true:=rfl
theorem dR{r:Rec}{rs:List Rec}(h1:pT h base r=true)(h2:mX h base rs=true):mX h base (r::rs)=true:=by simp only[mX,h1,cond_true,h2]
theorem dz(a:Option Addr):iG (.pointer a) (.pointer a)=true:=by simp[iG,jU]
theorem eR(k:IntKind)(n:Int):iG (.int k n) (.int k n)=true:=by simp[iG,jU]
theorem DK(b:Bool):iG (.bool b) (.bool b)=true:=by simp[iG,jU]
theorem ru(a:Option Addr)(n c:Nat):iG (.slice a n c) (.slice a n c)=true:=by simp[iG,jU]
theorem lB{c:Array Value}(h:jh c.toList c.toList=true):iG (.agg c) (.agg c)=true:=h
theorem zq:jh [] []=true:=rfl
theorem dg{v:Value}{l:List Value}(h1:jU v v=true)(h2:jh l l=true):jh (v::l) (v::l)=true:=by simp only[jh,h1,cond_true,h2]
theorem ej(k:IntKind)(n:Int):jU (.int k n) (.int k n)=true:=by simp[jU]
theorem qX(a:Option Addr)(n c:Nat):jU (.slice a n c) (.slice a n c)=true:=by simp[jU]
theorem kF{b o n c size:Nat}{vs cs:List Value}{own:Bool}{s:Nat}(hb:h.get b=some (.cells vs own s))(hc:bB (n*size) (bA o vs)=cs)(hl:cs.length=n*size):fE h size (.slice (some ⟨b,o,none⟩) n c)=some (cs,n):=by
 simp only[fE,hb,hc,bM,hl,beq_eq,decide_true,cond_true]
theorem rM{size bytes n c:Nat}{x y:Operand}{v:Value}{cs:List Value}(hx:ev h e x=some (.slice none 0 0))(hy:ev h e y=some v)(hs:fE h size v=some (cs,n))(hn:n≠0)(hb:(2*(0+n)+768)*bytes<=281474976710656)(hc:c=UNK):
 aop h base e (.append size bytes x y)=some (.val (.slice (some ⟨h.next,0,none⟩) n c) (h.push (.cells cs true size))):=by
 have h0:Nat.beq n 0=false:=by rw[beq_eq];simpa using hn
 have h1:Nat.ble ((2*(0+n)+768)*bytes) 281474976710656=true:=by rw[ble_eq];simpa using hb
 subst hc;simp only[aop,hx,hy,hs,jF,h0,h1,cond_true,cond_false,Nat.beq,Bool.and_self,gV]
theorem pF{size bytes len n q:Nat}{x y:Operand}{v:Value}{vs cs ws:List Value}(hx:ev h e x=some (.slice (some ⟨q,0,none⟩) len UNK))(hy:ev h e y=some v)(hs:fE h size v=some (cs,n))(hn:n≠0)(hq:h.get q=some (.cells vs true size))(hl:vs.length=len*size)
 (hsz:0<size)(h1:cK cs=true)(hb:(2*(len+n)+768)*bytes<=281474976710656)(hw:dP vs cs=ws):
 aop h base e (.append size bytes x y)=some (.val (.slice (some ⟨h.next,0,none⟩) (len+n) UNK) ((h.wr base q .dead).push (.cells ws true size))):=by
 have h0:Nat.beq n 0=false:=by rw[beq_eq];simpa using hn
 have h2:Nat.ble ((2*(len+n)+768)*bytes) 281474976710656=true:=by rw[ble_eq];simpa using hb
 have h3:Nat.beq UNK UNK=true:=by rw[beq_eq];simp
 have h4:Nat.beq size size=true:=by rw[beq_eq];simp
 have h5:Nat.ble (0+(len+n)*size) (bK vs)=false:=by
  rw[ble_eq,bM,hl,Nat.add_mul];have:0<n*size:=Nat.mul_pos (Nat.pos_of_ne_zero hn) hsz;simp;omega
 have h6:Nat.beq (len*size) (bK vs)=true:=by rw[beq_eq,bM,hl];simp
 simp only[aop,hx,hy,hs,jF,h0,h2,hq,h3,h4,h5,h6,h1,Bool.and_true,Bool.false_and,cond_true,cond_false,hw,gV,Nat.beq]
theorem rz{ops:List bg}{bf:List Nat}{rs rs':List Rec}{Q:Env->Heap->Prop}{i mask:Nat}{is:List Nat}{dst:Option Nat}{op:AOp}{g:Option (Nat×Bool)}{er:Env}{v:Value}{h2 h3:Heap}{lg:List Nat}(ho:aT ops i=some ⟨dst,op,g⟩)(hm:aT bf i=some mask)
 (he:cE e (cV ⟨dst,op,g⟩)=er)(hw:bX er g=some true)(hq:jw op=false)(hop:aop {h with log:=[]} h.next er op=some (.val v h2))(h3e:({h2 with log:=aF base h.log h2.log}:Heap)=h3)(hlg:h2.log=lg)
 (hrs:bL h3 base lg mask rs=some rs')(H:WD T base ops bf Q is rs' (cI e dst v) h3):WD T base ops bf Q (i::is) rs e h:=by
 subst h3e;subst hlg;exact O8 ho hm he hw hq hop hrs H
theorem uz{b:Nat}(hb:b<h.next)(o:bO):(({h with log:=[]}:Heap).wr h.next b o).log=[b]:=by
 simp[Heap.wr,blt_eq,hb,fB]
theorem Gz{b:Nat}(hb:b<h.next)(hbb:base<=b)(o:bO):({({h with log:=[]}:Heap).wr h.next b o with log:=aF base h.log (({h with log:=[]}:Heap).wr h.next b o).log}:Heap)=h.wr base b o:=by
 rw[uz hb];have h1:Nat.blt b base=false:=by rw[blt_eq];simp;omega
 simp only[Heap.wr,aF,h1,cond_false]
theorem gI{ops:List bg}{bf:List Nat}{rs rs':List Rec}{Q:Env->Heap->Prop}{i mask:Nat}{is:List Nat}{dst:Option Nat}{x y:Operand}{n b o sz:Nat}{vs ws:List Value}{v:Value}{g:Option (Nat×Bool)}{er:Env}(ho:aT ops i=some ⟨dst, .store n x y,g⟩)(hm:aT bf i=some mask)
 (he:cE e (cV ⟨dst, .store n x y,g⟩)=er)(hw:bX er g=some true)(hx:ev {h with log:=[]} er x=some (.pointer (some ⟨b,o,none⟩)))(hy:ev {h with log:=[]} er y=some v)(hb:h.get b=some (.cells vs true sz))
 (hc:(Nat.beq (bK (cellsOf v)) n&&Nat.ble (o+n) (bK vs)&&cK (cellsOf v))=true)(hws:bZ vs o (cellsOf v)=ws)(hlt:b<h.next)(hbb:base<=b)(hrs:bL (h.wr base b (.cells ws true sz)) base [b] mask rs=some rs')
 (H:WD T base ops bf Q is rs' (cI e dst (.tuple #[])) (h.wr base b (.cells ws true sz))):WD T base ops bf Q (i::is) rs e h:=
 rz ho hm he hw rfl (dZ (h:={h with log:=[]}) hx hy hb hc hws) (Gz hlt hbb _) (uz hlt _) hrs H
theorem Heap.An{h:Heap}{o:bO}{x:Nat}(h1:x<=h.next)(h2:h.next<=x):(h.push o).get x=some o:=by rw[Heap.di,if_pos (Nat.le_antisymm h1 h2)]
theorem Heap.Ed{h:Heap}{base b:Nat}{o:bO}{x:Nat}(h1:x<=b)(h2:b<=x):(h.wr base b o).get x=(h.get x).map λ_=>o:=by rw[Heap.kK,if_pos (Nat.le_antisymm h1 h2),Nat.le_antisymm h1 h2]
theorem aK{log:List Nat}{mask i:Nat}{o:bg}{e:Env}{v:Value}{k:Rk}{rs rs':List Rec}(hb:Nat.testBit mask i=true)(H:bL h base log mask rs=some rs'):bL h base log mask (⟨i,o,e,v,k⟩::rs)=some rs':=Lr hb H
theorem aM{log:List Nat}{mask i:Nat}{o:bg}{e:Env}{v:Value}{k:Rk}{rs rs':List Rec}(hb:Nat.testBit mask i=false)(hq:pT h base ⟨i,o,e,v,k⟩=true)(hm:ET log ⟨i,o,e,v,k⟩=true)(H:bL h base log mask rs=some rs'):
 bL h base log mask (⟨i,o,e,v,k⟩::rs)=some (⟨i,o,e,v,k⟩::rs'):=Ls hb hq hm H
theorem Eo(n:Nat):Nat.beq n n=true:=by rw[beq_eq];simp
theorem eT{a b:Nat}(h:a<=b):Nat.ble a b=true:=by rw[ble_eq];simpa using h
theorem jd{a b:Nat}(h:a<b):Nat.blt a b=true:=by rw[blt_eq];simpa using h
theorem qG{a b:Nat}(h:¬a<b):Nat.blt a b=false:=by rw[blt_eq];simpa using h
theorem GA{b:Nat}(hb:b<h.next)(o:bO):({({h with log:=[]}:Heap).wr h.next b o with log:=aF base h.log (({h with log:=[]}:Heap).wr h.next b o).log}:Heap)=h.wr base b o:=by
 rw[uz hb];rfl
theorem gM{α:Type}{l m:List α}{o:Nat}(ho:o+m.length<=l.length):bZ l o m=l.take o++m++l.drop (o+m.length):=by
 apply List.ext_getElem?;intro i;rw[l8 m l o i ho];by_cases h1:o<=i/\i<o+m.length
 ·rw[if_pos h1,List.getElem?_append_left (by simp;omega),List.getElem?_append_right (by simp;omega)];congr 1;simp;omega
 ·rw[if_neg h1];by_cases h2:i<o
  ·rw[List.getElem?_append_left (by simp;omega),List.getElem?_append_left (by simp;omega),List.getElem?_take_of_lt h2]
  ·rw[List.getElem?_append_right (by simp;omega),List.getElem?_drop];congr 1;simp;omega
structure Upd (h h':Heap) (b:Nat) (o:bO):Prop where
 next:h.next<=h'.next
 log:h'.log=[b]
 old:∀x,x<h.next->x≠b->h'.get x=h.get x
 obj:h'.get b=some o
 wf:WF h->WF h'
end Go.A
end
section
namespace Go.A
theorem z1(h:Heap)(o:bO):(h.push o).next=h.next+1:=rfl
theorem z2(h:Heap)(base b:Nat)(o:bO):(h.wr base b o).next=h.next:=rfl
theorem z3(h:Heap)(o:bO):(h.push o).get h.next=some o:=Heap.ja h o
theorem z4{h:Heap}{o:bO}{x:Nat}(hx:x<h.next):(h.push o).get x=h.get x:=Heap.gp hx
theorem z5{h:Heap}{base b:Nat}{o:bO}{x:Nat}(hx:x≠b):(h.wr base b o).get x=h.get x:=Heap.eD hx
theorem z6(h:Heap)(base b:Nat)(o:bO):(h.wr base b o).get b=(h.get b).map λ_=>o:=Heap.Ao h base b o
theorem z7{α β:Type}(f:α->β)(a:α):Option.map f (some a)=some (f a):=rfl
theorem z8{h:Heap}{o:bO}{x:Nat}(h1:x<=h.next)(h2:h.next<=x):(h.push o).get x=some o:=Heap.An h1 h2
theorem z9{h:Heap}{base b:Nat}{o:bO}{x:Nat}(h1:x<=b)(h2:b<=x):(h.wr base b o).get x=(h.get x).map λ_=>o:=Heap.Ed h1 h2
end Go.A
end
section
namespace Go.A
variable {T:Nat->Option af} {base:Nat} {rnd:Option Nat} {Q:XQ} {e:Env} {ds:Dfs} {h:Heap}
def fQ(lo:Nat)(l:List Nat):Prop:=∀x∈l,lo<=x
theorem fQ.nil(lo:Nat):fQ lo []:=λx hx=>by cases hx
theorem fQ.merge{lo base:Nat}:∀{m l:List Nat},fQ lo l->fQ lo m->fQ lo (aF base l m)
 |[],l,h1,_=>h1
 |b::m,l,h1,h2=>by
  simp only[aF];refine fQ.merge ?_ λx hx=>h2 x (List.mem_cons_of_mem _ hx);have hb:=h2 b (List.mem_cons_self ..);simp only[cond_eq_ite];split
  ·split
   ·exact h1
   ·intro x hx;rcases List.mem_cons.1 hx with rfl|hx
    ·exact hb
    ·exact h1 x hx
  ·exact h1
structure Lk (lo:Nat) (h h':Heap):Prop where
 next:h.next<=h'.next
 log:fQ lo h.log->fQ lo h'.log
 old:∀x,x<lo->h'.get x=h.get x
 wf:WF h->WF h'
theorem Lk.refl(lo:Nat)(h:Heap):Lk lo h h:=⟨Nat.le_refl _,id,λ_ _=>rfl,id⟩
theorem Lk.trans{lo:Nat}{a b c:Heap}(x:Lk lo a b)(y:Lk lo b c):Lk lo a c:=⟨Nat.le_trans x.next y.next,λh=>y.log (x.log h),λz hz=>(y.old z hz).trans (x.old z hz),λw=>y.wf (x.wf w)⟩
theorem Lk.push{lo:Nat}{a b:Heap}(x:Lk lo a b)(hlo:lo<=b.next)(o:bO):Lk lo a (b.push o):=x.trans ⟨Nat.le_succ _,id,λz hz=>Heap.gp (by omega),λw=>w.push o⟩
theorem Ext.lk{lo:Nat}{a b:Heap}(x:Ext a b)(hlo:lo<=a.next):Lk lo a b:=⟨x.next,λh=>by rw[x.log];exact h,λz hz=>x.old z (by omega),x.wf⟩
theorem mM{l:List Nat}{x:Nat}(h:x ∉ l):fB l x=false:=by
 cases e:fB l x with
 |false=>rfl
 |true=>exact(h (jc.1 e)).elim
theorem Lk.pg{lo:Nat}{h h':Heap}(hA:AS h.next h h')(hlo:lo<=h.next)(hl:fQ lo h'.log):Lk lo h h':=
 ⟨hA.next,λ_=>hl,λx hx=>hA.same x (by omega) (by omega) (mM λhm=>by have:=hl x hm;omega),λw=>w.as hA⟩
theorem Lk.call{lo:Nat}{h h2:Heap}(x:Lk lo {h with log:=[]} h2):Lk lo h {h2 with log:=aF base h.log h2.log}:=
 ⟨x.next,λhl=>hl.merge (x.log (fQ.nil _)),x.old,λw=>(x.wf (w.log [])).log _⟩
structure Uj (rs:List (Nat×Option (Option Nat))) (lo:Nat) (Q:Value->Heap->Prop) (x:br) (e:Env) (ds:Dfs) (h1:Heap):Prop where
 ok:(x= .normal∨x= .ret)/\ds=[]/\fQ lo h1.log/\∃vs,cC h1 e rs=some vs/\Q (fH vs) h1
theorem qx{h h1:Heap}{v:Value}(hA:AS h.next h h1):(∀x,x<h.next->(gcA h h1 v).get x=h1.get x)/\h.next<=(gcA h h1 v).next/\(gcA h h1 v).log=h1.log/\(cT v=false->gcA h h1 v=h1):=by
 unfold gcA;cases hc:(cT v&&gO h1 h.next h1.log)with
 |false=>exact⟨λ_ _=>rfl,hA.next,rfl,λ_=>rfl⟩
 |true=>
  refine⟨λx hx=> ?_,Nat.le_refl _,rfl,λhn=>by rw[hn]at hc;cases hc⟩;have hA':=hA.keys;have hlen:(cW h.next (h1.next-h.next)).length=h1.next-h.next:=by
   generalize h1.next-h.next=n
   induction n with
   |zero=>rfl
   |succ n ih=>simp[cW,ih]
  have hkt:(h1.b8.take (h1.next-h.next)).map (·.1)=cW h.next (h1.next-h.next):=by
   rw[List.map_take,hA',List.take_append_of_le_length (by omega),List.take_of_length_le (by omega)]
  have:=kr _ h.next _ (h1.b8.drop (h1.next-h.next)) hkt x hx
  rw[List.take_append_drop]at this;show eZ (bA (h1.next-h.next) h1.b8) x=eZ h1.b8 x;rw[cw];exact this.symm
theorem wr0(l:Nat)(o:bO):({h with b8:=iA h.b8 l o}:Heap)=h.wr 0 l o:=rfl
def busy:bO->Bool
 | .loop _ _ _ _ 1 _=>true
 |_=>false
theorem vu{f:Operand}{ps:List Nat}{asg body:aQ}{g:Nat}{first cap:Array Value}(hr:og h rnd=true)(hf:ev h e f=some (.func (.func g) first cap))(hnc:gT (T g)=false)
 (H:CW T g (dP first.toList (dP [.func (.yield h.next) #[] #[]] cap.toList)) {h.push (.loop e ps asg body 0 .normal)with log:=[]} fun r h2=>∃v,r= .ret v∧∃e' ps' a' b' st ic,h2.get h.next=some (.loop e' ps' a' b' st ic)∧Nat.beq st 1=false∧
   Q ic e ds (({h2 with log:=aF base h.log h2.log}:Heap).wr base h.next .dead)):WE T base rnd (.rangeFunc f ps asg body) Q e ds h:=by
 obtain⟨r,h2,⟨m,hm⟩,v,rfl,e',ps',a',b',st,ic,hl,hst,hq⟩:=H;refine⟨⟨ic,e,ds,_,⟨m+1,λn hn=> ?_⟩,hq⟩⟩;obtain⟨k,rfl⟩:∃k,n=k+1:=⟨n-1,by omega⟩;simp only[ct,hr,hf,hnc,cond_true,cond_false,hm k (by omega),hl,hst]
theorem FW.Cz(hp:aV T){fn:Fn}{args:List Value}{Q:Res->Heap->Prop}(H:FW T fn args h Q)(hl:h.log=[]):FW T fn args h λr h'=>AS h.next h h'∧Q r h':=by
 obtain⟨r,h',⟨m,hm⟩,hq⟩:=H;exact⟨r,h',⟨m,hm⟩,(eS.all hp m).iX _ _ _ _ _ (hm m (Nat.le_refl _)) hl,hq⟩
theorem FW.mono'{fn:Fn}{args:List Value}{Q Q':Res->Heap->Prop}(H:FW T fn args h Q)(hq:∀r h',Q r h'→Q' r h'):FW T fn args h Q':=
 let⟨r,h',h1,h2⟩:=H;⟨r,h',h1,hq _ _ h2⟩
theorem AS.zero{base:Nat}{h h':Heap}(a:AS base h h'):AS 0 h h':=⟨a.next,a.keys,λb hb=>by omega,λb hb=>by omega⟩
theorem rT{h h1:Heap}{v:Value}(hA:AS 0 h h1):(∀x,x<h.next->(gcA h h1 v).get x=h1.get x)/\h.next<=(gcA h h1 v).next/\(gcA h h1 v).log=h1.log:=by
 unfold gcA;cases hc:(cT v&&gO h1 h.next h1.log)with
 |false=>exact⟨λ_ _=>rfl,hA.next,rfl⟩
 |true=>
  refine⟨λx hx=> ?_,Nat.le_refl _,rfl⟩;have hA':=hA.keys;have hlen:(cW h.next (h1.next-h.next)).length=h1.next-h.next:=by
   generalize h1.next-h.next=n
   induction n with
   |zero=>rfl
   |succ n ih=>simp[cW,ih]
  have hkt:(h1.b8.take (h1.next-h.next)).map (·.1)=cW h.next (h1.next-h.next):=by
   rw[List.map_take,hA',List.take_append_of_le_length (by omega),List.take_of_length_le (by omega)]
  have:=kr _ h.next _ (h1.b8.drop (h1.next-h.next)) hkt x hx
  rw[List.take_append_drop]at this;show eZ (bA (h1.next-h.next) h1.b8) x=eZ h1.b8 x;rw[cw];exact this.symm
structure PW (l wb:Nat) (H0:Heap) (L:bO) (O:List (Nat×Nat)->bO) (done:List (Nat×Nat)) (H:Heap):Prop where
 old:∀x,x<l->x≠wb->H.get x=H0.get x
 obj:H.get wb=some (O done)
 loop:H.get l=some L
 nx:l<H.next
inductive Own (lo:Nat) (h:Heap) (sz:Nat):Value->Nat->List Value->Prop
 |nil:Own lo h sz (.slice none 0 0) 0 []
 |full {q n cs}:lo<=q->q<h.next->h.get q=some (.cells cs true sz)->cs.length=n*sz->n≠0->Own lo h sz (.slice (some ⟨q,0,none⟩) n UNK) n cs
theorem Own.slice{lo sz n:Nat}{v:Value}{cs:List Value}(s:Own lo h sz v n cs)(hn:n<4000000):bS h sz v n cs:=by
 cases s with
 |nil=>exact .nil
 |full h1 h2 h3 h4 h5=>
  refine .mem ⟨h2,⟨_,_,_,h3,?_⟩,h4⟩ (by unfold UNK;omega);rw[cZ,cw,List.drop_zero,List.take_of_length_le (by omega)]
theorem Own.keep{lo sz n:Nat}{h':Heap}{v:Value}{cs:List Value}(s:Own lo h sz v n cs)(hn:h.next<=h'.next)(ha:∀z,lo<=z->z<h.next->h'.get z=h.get z):Own lo h' sz v n cs:=by
 cases s with
 |nil=>exact .nil
 |full h1 h2 h3 h4 h5=>exact .full h1 (by omega) ((ha _ h1 h2).trans h3) h4 h5
theorem Own.ext{lo sz n:Nat}{h':Heap}{v:Value}{cs:List Value}(s:Own lo h sz v n cs)(x:Ext h h'):Own lo h' sz v n cs:=s.keep x.next λz _ hz=>x.old z hz
theorem Own.log{lo sz n:Nat}{v:Value}{cs:List Value}(s:Own lo h sz v n cs)(m:List Nat):Own lo {h with log:=m} sz v n cs:=s.keep (h':={h with log:=m}) (Nat.le_refl _) λ_ _ _=>rfl
theorem Own.low{lo lo' sz n:Nat}{v:Value}{cs:List Value}(s:Own lo h sz v n cs)(hl:lo'≤lo):Own lo' h sz v n cs:=by
 cases s with
 |nil=>exact .nil
 |full h1 h2 h3 h4 h5=>exact .full (by omega) h2 h3 h4 h5
structure Lx (lo:Nat) (h h':Heap):Prop where
 next:h.next<=h'.next
 log:h'.log=h.log
 old:∀z,z<lo->h'.get z=h.get z
 wf:WF h->WF h'
theorem Lx.refl(lo:Nat)(h:Heap):Lx lo h h:=⟨Nat.le_refl _,rfl,λ_ _=>rfl,id⟩
theorem Lx.trans{lo:Nat}{a b c:Heap}(x:Lx lo a b)(y:Lx lo b c):Lx lo a c:=⟨Nat.le_trans x.next y.next,y.log.trans x.log,λz hz=>(y.old z hz).trans (x.old z hz),λw=>y.wf (x.wf w)⟩
theorem Lx.push{lo:Nat}{a b:Heap}(x:Lx lo a b)(hlo:lo<=b.next)(o:bO):Lx lo a (b.push o):=x.trans ⟨Nat.le_succ _,rfl,λz hz=>Heap.gp (by omega),λw=>w.push o⟩
theorem Lx.wr{lo:Nat}{a b:Heap}(x:Lx lo a b){base y:Nat}{o:bO}(hy:lo<=y)(hb:base<=y):Lx lo a (b.wr base y o):=x.trans ⟨Nat.le_refl _,Heap.aq hb,λz hz=>Heap.eD (by omega),λw=>w.as (AS.wr _ _ _ _)⟩
theorem Ext.lx{lo:Nat}{a b:Heap}(x:Ext a b)(hlo:lo<=a.next):Lx lo a b:=⟨x.next,x.log,λz hz=>x.old z (by omega),x.wf⟩
theorem Lx.ext{a b:Heap}(x:Lx a.next a b):Ext a b:=⟨x.next,x.log,x.old,x.wf⟩
theorem Lx.mono{lo lo':Nat}{a b:Heap}(x:Lx lo a b)(h:lo'≤lo):Lx lo' a b:=⟨x.next,x.log,λz hz=>x.old z (by omega),x.wf⟩
theorem DQ{lo sz bytes n:Nat}{dst:Option Nat}{os:List bg}{x y:Operand}{v u:Value}{cs c1:List Value}(s:Own lo h sz v n cs)(hn:n<1000000)(hsz:0<sz)(hb:bytes<=100000)(hlo:lo<=h.next)(hbase:base<=lo)
 (hx:ev h e x=some v)(hy:ev h e y=some u)(hs:fE h sz u=some (c1,1))(hl1:c1.length=sz)(h1:cK c1=true)
 (hK:∀v' h',Own lo h' sz v' (n+1) (cs++c1)->Lx lo h h'→WO T base rnd Q os (cI e dst v') ds h'):WO T base rnd Q (⟨dst, .append sz bytes x y,none⟩::os) e ds h:=by
 have hbd:(2*(n+1)+768)*bytes<=281474976710656:=by
  have:(2*(n+1)+768)*bytes<=2000768*100000:=Nat.mul_le_mul (by omega) hb;omega
 cases s with
 |nil=>
  refine aA (rM (n:=1) hx hy hs (by omega) (by simpa using hbd) rfl) ?_;refine hK _ _ ?_ ((Lx.refl lo h).push hlo _);have:=Own.full (lo:=lo) (h:=h.push (.cells c1 true sz)) (sz:=sz) (q:=h.next) (n:=1) (cs:=c1) hlo (Nat.lt_succ_self _) (Heap.ja _ _) (by omega) (by omega);exact this
 | @full q _ _ q1 q2 q3 q4 q5=>
   refine aA (pF (n:=1) (vs:=cs) (ws:=cs++c1) hx hy hs (by omega) q3 q4 hsz h1 hbd (dQ _ _)) ?_;refine hK _ _ ?_ (((Lx.refl lo h).wr q1 (by omega)).push hlo _);refine .full hlo (Nat.lt_succ_self _) ?_ (by rw[List.length_append,q4,hl1,Nat.add_mul,Nat.one_mul]) (by omega);exact Heap.ja _ _
theorem Mf{base:Nat}{rnd:Option Nat}{Q:XQ}{e:Env}{ds:Dfs}{h:Heap}{dst:Option Nat}{op:AOp}{os:List bg}{t:Nat}{b:Bool}{vs:Array Value}(hg:geT e t=some (.tuple vs))(H:WO T base rnd Q os (cI e dst (.tuple #[])) ds h):WO T base rnd Q (⟨dst,op,some (t,b)⟩::os) e ds h:=by
 obtain⟨x',e',ds',h',⟨m,h1⟩,h2⟩:=H.ok;exact⟨x',e',ds',h',⟨m+1,λn hn=>by
  obtain⟨k,rfl⟩:∃k,n=k+1:=⟨n-1,by omega⟩;simp only[gh,bX,hg];exact h1 k (by omega)⟩,h2⟩
structure Ws (S:Nat->Prop) (h h':Heap):Prop where
 next:h.next<=h'.next
 log:∀z∈h'.log,z∈h.log∨S z
 old:∀z,z<h.next->¬S z->h'.get z=h.get z
 wf:WF h->WF h'
theorem Ws.pg{S:Nat->Prop}{h h':Heap}(hA:AS h.next h h')(hl:∀z∈h'.log,S z):Ws S h h':=
 ⟨hA.next,λz hz=> .inr (hl z hz),λz hz hn=>hA.same z hz hz (mM λhm=>hn (hl z hm)),λw=>w.as hA⟩
theorem wj{base z:Nat}:∀{m l:List Nat},z∈aF base l m->z∈l∨z∈m
 |[],l,h=> .inl h
 |b::m,l,h=>by
  simp only[aF]at h;rcases wj (m:=m) h with h|h
  ·revert h;rw[cond_eq_ite,cond_eq_ite];split
   ·split
    ·exact .inl
    ·intro h;rcases List.mem_cons.1 h with rfl|h
     ·exact .inr (List.mem_cons_self ..)
     ·exact .inl h
   ·exact .inl
  ·exact .inr (List.mem_cons_of_mem _ h)
theorem Ws.call{S:Nat->Prop}{h h2:Heap}(x:Ws S {h with log:=[]} h2):Ws S h {h2 with log:=aF base h.log h2.log}:=
 ⟨x.next,λz hz=>(wj hz).imp id λq=>(x.log z q).elim (λq=>by cases q) id,x.old,λw=>(x.wf (w.log [])).log _⟩
def Gs(T:Nat->Option af)(f:Nat)(args:List Value)(h:Heap)(S:Nat->Prop)(Q:Value->Heap->Prop):Prop:=CW T f args h λr h'=>Ws S h h'∧∃v,r= .ret v/\Q v h'
structure Qh (rs:List (Nat×Option (Option Nat))) (S:Nat->Prop) (Q:Value->Heap->Prop) (x:br) (e:Env) (ds:Dfs) (h1:Heap):Prop where
 ok:(x= .normal∨x= .ret)/\ds=[]/\(∀z∈h1.log,S z)/\∃vs,cC h1 e rs=some vs/\Q (fH vs) h1
theorem kJ{rs:List (Nat×Option (Option Nat))}{S:Nat->Prop}{Q:Value->Heap->Prop}{vs:List Value}(hl:∀z∈h.log,S z)(hr:cC h e rs=some vs)(hq:Q (fH vs) h):Qh rs S Q .ret e [] h:=⟨⟨.inr rfl,rfl,hl,vs,hr,hq⟩⟩
theorem Gs.of(hp:aV T){f:Nat}{args:List Value}{c:aQ}{rs:List (Nat×Option (Option Nat))}{S:Nat->Prop}{Q:Value->Heap->Prop}(hf:T f=some (.code c rs))
 (hQ:∀v h1 h2,cT v=true->h.next<=h2.next->(∀x,x<h.next->h2.get x=h1.get x)->Q v h1->Q v h2)(H:WE T h.next none c (Qh rs S Q) (eM 0 args) [] h):Gs T f args h S Q:=by
 obtain⟨x,e,ds,h1,⟨m,hm⟩,⟨hx,rfl,hl,vs,hvs,hq⟩⟩:=H.ok;have hA:=(eS.all hp m).exec _ _ _ _ _ _ _ _ _ _ (hm m (Nat.le_refl _)) (Nat.le_refl _);obtain⟨g1,g2,g3,g4⟩:=qx (v:=fH vs) hA;have key:Ws S h (gcA h h1 (fH vs))/\∃v,Res.ret (fH vs)= .ret v/\Q v (gcA h h1 (fH vs)):=by
  refine⟨Ws.pg (hA.gc' _) (by rw[g3];exact hl),_,rfl,?_⟩;cases hv:cT (fH vs)with
  |true=>exact hQ _ _ _ hv g2 g1 hq
  |false=>rw[g4 hv];exact hq
 refine CW.code hf ⟨x,e,[],h1,⟨m,hm⟩,?_⟩;unfold xR;rcases hx with rfl|rfl<;>(simp only[hvs];exact key)
theorem FW.gsD{f:Nat}{args:List Value}{S:Nat->Prop}{Q':Value->Heap->Prop}{K:List Rec->Env->Heap->Prop}{mask:Nat}{rs:List Rec}{dst:Option Nat}(H:Gs T f args {h with log:=[]} S Q')(hlog:∀v (h':Heap) l,Q' v h'→Q' v {h' with log:=l})
 (hK:∀v h' lg,Ws S h h'→(∀z∈lg,S z)->Q' v h'→∃rs',bL h' base lg mask rs=some rs'∧K rs' (cI e dst v) h'):FW T (.func f) args {h with log:=[]} (KD K base mask rs dst e h.log):=by
 refine .func (CW.mono H ?_);rintro r h2 ⟨hx,v,rfl,hq⟩;obtain⟨rs',q1,q2⟩:=hK v {h2 with log:=aF base h.log h2.log} h2.log hx.call (λz hz=>(hx.log z hz).elim (λq=>by cases q) id) (hlog v h2 _ hq);refine⟨?_⟩;show kD K base mask rs dst e h.log (.ret v) h2;unfold kD;simp only[q1];exact q2
theorem Pr{base b:Nat}{o:bO}{S:Nat->Prop}(hl:∀z∈h.log,S z)(hb:S b):∀z∈(h.wr base b o).log,S z:=by
 intro z hz;simp only[Heap.wr,cond_eq_ite]at hz;split at hz
 ·split at hz
  ·exact hl z hz
  ·rcases List.mem_cons.1 hz with rfl|hz
   ·exact hb
   ·exact hl z hz
 ·exact hl z hz
theorem Ws.trans{S:Nat->Prop}{a b c:Heap}(x:Ws S a b)(y:Ws S b c):Ws S a c:=
 ⟨Nat.le_trans x.next y.next,λz hz=>(y.log z hz).elim (x.log z) .inr,λz hz hn=>(y.old z (Nat.lt_of_lt_of_le hz x.next) hn).trans (x.old z hz hn),λw=>y.wf (x.wf w)⟩
theorem Ext.ws{S:Nat->Prop}{a b:Heap}(x:Ext a b):Ws S a b:=⟨x.next,λz hz=> .inl (x.log▸hz),λz hz _=>x.old z hz,x.wf⟩
theorem xy{k k':IntKind}{n m:Int}{x:Operand}(hx:ev h e x=some (.int k' n))(hm:fG k n=m):aop h base e (.conv (.int k) x)=some (.val (.int k m) h):=by
 subst hm;simp only[aop,hx,cM,o7,gV]
theorem En(k:IntKind)(n:Nat):nV (.int k (n:Int))=some n:=rfl
theorem oJ{z:List Value}{bytes l c m:Nat}{k1 k2:IntKind}{x y:Operand}(hx:ev h e x=some (.int k1 (l:Nat)))(hy:ev h e y=some (.int k2 (c:Nat)))(h1:l<=c)(h2:bytes*c<=281474976710656)(h3:c<1000000)(hm:bK z=m):
 aop h base e (.mkSlice z bytes x y)=some (.val (.slice (some ⟨h.next,0,none⟩) l c) (h.push (.cells (fR c z) true m))):=by
 subst hm;simp only[aop,hx,hy,En,eT h1,eT h2,jd (show c<UNK by unfold UNK;omega),Bool.and_self,cond_true]
theorem FM{len size i:Nat}{k:IntKind}{x y:Operand}{cs:Array Value}{v:Value}(hx:ev h e x=some (.agg cs))(hy:ev h e y=some (.int k (i:Nat)))(hi:i<len)(hv:aT cs.toList (i*size)=some v):aop h base e (.rW len size none x y)=some (.val v h):=by
 have:(.int k (i:Nat):Value)= .int k (Int.ofNat i):=rfl;rw[this]at hy;simp only[aop,hx,hy,jd hi,cond_true,hv,cM]
def mi(a b:Int):Int:=if b<a then b else a
theorem xz{x y:Operand}{a b:Int}(hx:ev h e x=some (.int .i64 a))(hy:ev h e y=some (.int .i64 b)):aop h base e (.dK false [x,y])=some (.val (.int .i64 (mi a b)) h):=by
 simp only[aop,evs,hx,hy,mmA,if_true,cM,mi];rfl
theorem mj{n:Nat}(h2:n<18446744073709551616):fG .u64 (n:Int)=n:=by
 have e1:((n:Nat):Int)=Int.ofNat n:=rfl;rw[e1];simp only[fG,jd h2,cond_true]
theorem QG{a b:Nat}(ha:a<18446744073709551616)(hb:b<18446744073709551616):ah .or (.int .u64 a) (.int .u64 b)=some (.int .u64 ((Nat.lor a b:Nat):Int)):=by
 have e1:((a:Nat):Int)=Int.ofNat a:=rfl;have e2:((b:Nat):Int)=Int.ofNat b:=rfl;rw[e1,e2];simp only[ah,arith,mC,jd ha,jd hb,Bool.and_self,cond_true,if_true];rfl
theorem qE{a b:Nat}(ha:a<18446744073709551616)(hb:b<18446744073709551616):ah .and (.int .u64 a) (.int .u64 b)=some (.int .u64 ((Nat.land a b:Nat):Int)):=by
 have e1:((a:Nat):Int)=Int.ofNat a:=rfl;have e2:((b:Nat):Int)=Int.ofNat b:=rfl;rw[e1,e2];simp only[ah,arith,mC,jd ha,jd hb,Bool.and_self,cond_true,if_true];rfl
theorem sW{a n:Nat}{k:IntKind}(hn:n<=64):ah .shr (.int .u64 a) (.int k n)=some (.int .u64 ((Nat.shiftRight a n:Nat):Int)):=by
 have e1:((a:Nat):Int)=Int.ofNat a:=rfl;have e2:((n:Nat):Int)=Int.ofNat n:=rfl;rw[e1,e2];simp only[ah,mT,Nat.min_eq_left hn];rfl
theorem rZ{a b:Nat}(h:a+b<18446744073709551616):ah .add (.int .u64 a) (.int .u64 b)=some (.int .u64 ((a+b:Nat):Int)):=iD (by rw[←Int.natCast_add];exact mj h)
theorem NM{a:Nat}:ah .rem (.int .i64 a) (.int .i64 8)=some (.int .i64 ((a % 8:Nat):Int)):=by
 have e:(a:Int).tmod 8=((a % 8:Nat):Int):=by rw[Int.tmod_eq_emod_of_nonneg (by omega)];omega
 simp[ah,arith,e]
theorem NL{a:Nat}(h1:a<9223372036854775808):ah .quo (.int .i64 a) (.int .i64 8)=some (.int .i64 ((a / 8:Nat):Int)):=by
 have e:fG .i64 ((a:Int).tdiv 8)=((a / 8:Nat):Int):=by
  rw[Int.tdiv_eq_ediv_of_nonneg (by omega),bJ (by omega) (by omega)];omega
 have e2:ah .quo (.int .i64 a) (.int .i64 8)=some (.int .i64 (fG .i64 ((a:Int).tdiv 8))):=rfl;rw[e2,e]
theorem pO{z:Nat}:∀{m l:List Nat},z∈l->z∈aF base l m
 |[],l,h=>h
 |b::m,l,h=>by
  simp only[aF];refine pO (m:=m) ?_;rw[cond_eq_ite,cond_eq_ite];split
  ·split
   ·exact h
   ·exact List.mem_cons_of_mem _ h
  ·exact h
theorem mem_merge{z:Nat}(hz:z<base):∀{m l:List Nat},z∈m->z∈aF base l m
 |b::m,l,h=>by
  simp only[aF];rcases List.mem_cons.1 h with rfl|h
  ·refine pO ?_;rw[jd hz,cond_true,cond_eq_ite];split
   ·rename_i hh;exact jc.1 hh
   ·exact List.mem_cons_self ..
  ·exact mem_merge hz h
theorem uh{l:Nat}{a:Env}{b:List Nat}{c d:aQ}{st:Nat}{p:br}(hl:h.get l=some (.loop a b c d st p))(hb:l<base):∀{lg:List Nat},l∈lg->gO h base lg=false
 |x::lg,hm=>by
  have ih:l∈lg->gO h base lg=false:=uh hl hb;by_cases hx:x=l
  ·subst hx;simp only[gO,jd hb,cond_true,hl]
  ·have hm':l∈lg:=by rcases List.mem_cons.1 hm with h1|h1;exact absurd h1.symm hx;exact h1
   simp only[gO,cond_eq_ite,ih hm'];split
   ·split<;>simp
   ·rfl
theorem xT{h1:Heap}{v:Value}{l:Nat}{a:Env}{b:List Nat}{c d:aQ}{st:Nat}{p:br}(hl:h1.get l=some (.loop a b c d st p))(hb:l<h.next)(hm:l∈h1.log):gcA h h1 v=h1:=by
 unfold gcA;rw[uh hl hb hm,Bool.and_false,cond_false]
theorem xe{b:Nat}{o:bO}(hb:b<base):(h.wr base b o).log=if fB h.log b=true then h.log else b::h.log:=by
 unfold Heap.wr;rw[jd hb];simp only[cond_eq_ite,if_true]
theorem dx{b z:Nat}{o:bO}(hz:z∈(h.wr base b o).log):z=b∨z∈h.log:=by
 by_cases hb:b<base
 ·rw[xe hb]at hz;by_cases hh:fB h.log b=true
  ·rw[if_pos hh]at hz;exact .inr hz
  ·rw[if_neg hh]at hz;exact List.mem_cons.1 hz
 ·rw[Heap.aq (by omega)]at hz;exact .inr hz
theorem pZ{b:Nat}{o:bO}(hb:b<base):b∈(h.wr base b o).log:=by
 rw[xe hb];by_cases hh:fB h.log b=true
 ·rw[if_pos hh];exact jc.1 hh
 ·rw[if_neg hh];exact List.mem_cons_self ..
structure YQX (l:Nat) (L LX:bO) (lo N n:Nat) (R S:Heap->Prop) (x:br) (e:Env) (ds:Dfs) (h3:Heap):Prop where
 busy:∃o,h3.get l=some o/\busy o=true
 log:∀z∈h3.log,lo<=z/\z<N
 rel:(x= .normal/\∀h5:Heap,n<=h5.next->(∀z,z<n->z≠l->h5.get z=h3.get z)->h5.get l=some L->R h5)∨(x= .ret/\∀h5:Heap,h5.next=h3.next->(∀z,z≠l->h5.get z=h3.get z)->h5.get l=some LX->S h5)
structure YAX (T:Nat->Option af) (l:Nat) (e:Env) (ps:List Nat) (asg body:aQ) (lo N n:Nat) (R S:Heap->Prop) (x:br) (e2:Env) (ds2:Dfs) (h2:Heap):Prop where
 x:x= .normal
 loop:h2.get l=some (.loop e ps asg body 0 .normal)
 body:WE T n (some l) body (YQX l (.loop e ps asg body 0 .normal) (.loop e ps asg body 2 .ret) lo N n R S) e2 ds2 (h2.wr 0 l (.loop e ps asg body 1 .normal))
theorem FW.J6(hp:aV T){l lo N:Nat}{e e1:Env}{ps:List Nat}{asg body:aQ}{args:List Value}{R S:Heap->Prop}(hl:h.get l=some (.loop e ps asg body 0 .normal))(he:iS e ps args=some e1)(hlN:l<h.next)(hlo:lo<=l/\l<N)
 (H:WE T h.next (some l) asg (YAX T l e ps asg body lo N h.next R S) e1 [] h):
 FW T (.yield l) args h λr h'=>(∀z∈h'.log,lo<=z/\z<N)/\(r= .ret (.bool true)/\R h'∨r= .ret (.bool false)/\l∈h'.log/\S h'):=by
 obtain⟨x,e2,ds2,h2,⟨m,hm⟩,⟨rfl,hl2,H2⟩⟩:=H.ok;obtain⟨x3,e3,ds3,h3,⟨m3,hm3⟩,⟨⟨o,ho,hb⟩,hlog,hrel⟩⟩:=H2.ok;have hnr:notReady (h2.get l)=false:=by rw[hl2];rfl
 have hloop:∃a b c d p,o= .loop a b c d 1 p:=by
  unfold A.busy at hb;split at hb
  ·exact⟨_,_,_,_,_,rfl⟩
  ·cases hb
 obtain⟨oa,ob,oc,od,op,rfl⟩:=hloop;rcases hrel with⟨rfl,hrel⟩|⟨rfl,hrel⟩
 ·have A1:=(eS.all hp m).exec _ _ _ _ _ _ _ _ _ _ (hm m (Nat.le_refl _)) (Nat.le_refl _);have A2:=(eS.all hp m3).exec _ _ _ _ _ _ _ _ _ _ (hm3 m3 (Nat.le_refl _)) A1.next
  have A3:AS 0 h (h3.wr 0 l (.loop e ps asg body 0 .normal)):=((A1.zero.trans (AS.wr 0 h2 l _)).trans A2.zero).trans (AS.wr 0 h3 l _);obtain⟨g1,g2,g3⟩:=rT (v:= .bool true) A3;refine⟨.ret (.bool true),gcA h (h3.wr 0 l (.loop e ps asg body 0 .normal)) (.bool true),⟨m+m3+1,λn hn=> ?_⟩,?_, .inl ⟨rfl,?_⟩⟩
  ·obtain⟨k,rfl⟩:∃k,n=k+1:=⟨n-1,by omega⟩;have q1:=hm k (by omega);have q2:=hm3 k (by omega);rw[←wr0]at q2;simp only[fN,hl,he,q1,hnr,cond_false,q2,ho];rfl
  ·rw[g3];exact hlog
  ·refine hrel _ g2 (λz hz hne=>(g1 z hz).trans (Heap.eD hne)) ((g1 l hlN).trans ?_);exact Heap.aB ho
 ·refine⟨.ret (.bool false),h3.wr h.next l (.loop e ps asg body 2 .ret),⟨m+m3+1,λn hn=> ?_⟩,?_, .inr ⟨rfl,pZ hlN,?_⟩⟩
  ·obtain⟨k,rfl⟩:∃k,n=k+1:=⟨n-1,by omega⟩;have q1:=hm k (by omega);have q2:=hm3 k (by omega);rw[←wr0]at q2;simp only[fN,hl,he,q1,hnr,cond_false,q2,ho]
  ·intro z hz;rcases dx hz with rfl|hz
   ·exact hlo
   ·exact hlog z hz
  ·exact hrel _ rfl (λz hne=>Heap.eD hne) (Heap.aB ho)
structure FJ {α:Type} (T:Nat->Option af) (lo N l:Nat) (V:α->Value) (all:List α) (P:List α->Heap->Prop) (S:Heap->Prop):Prop where
 oD:∀done x H,x∈all->Rdy H->N<=H.next->P done H->FW T (.yield l) [V x] H λr H'=>(∀z∈H'.log,lo<=z/\z<N)/\(r= .ret (.bool true)/\P (done++[x]) H'∨r= .ret (.bool false)/\l∈H'.log/\S H')
 fF:∀done H H',P done H->N<=H'.next->(∀x,x<N->H'.get x=H.get x)->P done H'
 E4:∀H m,S H->S {H with log:=m}
 wO:∀H,S H->∃a b c d,H.get l=some (.loop a b c d 2 .ret)
theorem FJ.call(hp:aV T){α:Type}{lo N l:Nat}{V:α->Value}{all:List α}{P:List α->Heap->Prop}{S:Heap->Prop}(Y:FJ T lo N l V all P S){K:Env->Dfs->Heap->Prop}{dst:Option Nat}{done:List α}{x:α}(hx:x∈all)(hw:WF h)(hlo:lo<=h.next)(hN:N<=h.next)(hlb:l<base)(hP:P done h)
 (hK:∀h',Lk lo h h'→(∀z,N<=z->z<h.next->h'.get z=h.get z)->P (done++[x]) h'→K (cI e dst (.bool true)) ds h')
 (hX:∀h',Lk lo h h'→l∈h'.log->S h'→K (cI e dst (.bool false)) ds h'):FW T (.yield l) [V x] {h with log:=[]} (KO K Q base dst e ds h.log):=by
 refine FW.mono' (FW.Cz hp (Y.oD done x _ hx (.of hw) hN (Y.fF _ _ _ hP hN λ_ _=>rfl)) rfl) ?_;rintro r h2 ⟨hA,hl,hq⟩;have hk:Lk lo {h with log:=[]} h2:=Lk.pg hA hlo λz hz=>(hl z hz).1;rcases hq with⟨rfl,hq⟩|⟨rfl,hm,hq⟩
 ·refine⟨hK _ hk.call (λz h1 h3=> ?_) (Y.fF _ _ _ hq (Nat.le_trans hN hA.next) λ_ _=>rfl)⟩;exact hA.same z h3 h3 (mM λhm=>by have:=(hl z hm).2;omega)
 ·exact⟨hX _ hk.call (mem_merge hlb hm) (Y.E4 _ _ hq)⟩
def GrX(T:Nat->Option af)(f:Nat)(args:List Value)(h:Heap)(lo:Nat)(P S:Heap->Prop):Prop:=CW T f args h λr h'=>Lk lo h h'∧∃v,r= .ret v/\(P h'∨S h')
structure Kn (rs:List (Nat×Option (Option Nat))) (lo l:Nat) (P S:Heap->Prop) (x:br) (e:Env) (ds:Dfs) (h1:Heap):Prop where
 ok:(x= .normal∨x= .ret)/\ds=[]/\fQ lo h1.log/\(∃vs,cC h1 e rs=some vs)/\(P h1∨l∈h1.log/\S h1)
theorem Ae{rs:List (Nat×Option (Option Nat))}{lo l:Nat}{P S:Heap->Prop}{vs:List Value}(hl:fQ lo h.log)(hr:cC h e rs=some vs)(hm:l∈h.log)(hq:S h):Kn rs lo l P S .ret e [] h:=⟨⟨.inr rfl,rfl,hl,⟨vs,hr⟩, .inr ⟨hm,hq⟩⟩⟩
theorem Ad{rs:List (Nat×Option (Option Nat))}{lo l:Nat}{P S:Heap->Prop}{vs:List Value}(hl:fQ lo h.log)(hr:cC h e rs=some vs)(hq:P h):Kn rs lo l P S .normal e [] h:=⟨⟨.inl rfl,rfl,hl,⟨vs,hr⟩, .inl hq⟩⟩
theorem GrX.of(hp:aV T){f:Nat}{args:List Value}{c:aQ}{rs:List (Nat×Option (Option Nat))}{lo l:Nat}{P S:Heap->Prop}(hf:T f=some (.code c rs))(hlo:lo<=h.next)(hlN:l<h.next)
 (hP:∀h1 h2:Heap,h.next<=h2.next->(∀x,x<h.next->h2.get x=h1.get x)->P h1->P h2)(hS:∀H,S H->∃a b c d,H.get l=some (.loop a b c d 2 .ret))(H:WE T h.next none c (Kn rs lo l P S) (eM 0 args) [] h):GrX T f args h lo P S:=by
 obtain⟨x,e,ds,h1,⟨m,hm⟩,⟨hx,rfl,hl,⟨vs,hvs⟩,hq⟩⟩:=H.ok;have hA:=(eS.all hp m).exec _ _ _ _ _ _ _ _ _ _ (hm m (Nat.le_refl _)) (Nat.le_refl _);obtain⟨g1,g2,g3,g4⟩:=qx (v:=fH vs) hA;have key:Lk lo h (gcA h h1 (fH vs))/\∃v,Res.ret (fH vs)= .ret v/\(P (gcA h h1 (fH vs))∨S (gcA h h1 (fH vs))):=by
  refine⟨Lk.pg (hA.gc' _) hlo (by rw[g3];exact hl),_,rfl,?_⟩;rcases hq with hq|⟨hml,hq⟩
  ·exact .inl (hP _ _ g2 g1 hq)
  ·obtain⟨a,b,c,d,hlp⟩:=hS _ hq;rw[xT hlp hlN hml];exact .inr hq
 refine CW.code hf ⟨x,e,[],h1,⟨m,hm⟩,?_⟩;unfold xR;rcases hx with rfl|rfl<;>(simp only[hvs];exact key)
theorem uI{base:Nat}:∀{m l:List Nat},fQ base m->aF base l m=l
 |[],_,_=>rfl
 |b::m,l,h=>by
  have hb:=h b (List.mem_cons_self ..);simp only[aF,qG (show¬b<base by omega),cond_false];exact uI λx hx=>h x (List.mem_cons_of_mem _ hx)
theorem wZ{h1:Heap}{f:Operand}{g lo:Nat}{first cap:Array Value}{ps:List Nat}{asg body:aQ}{P S:Heap->Prop}(hr:og h1 rnd=true)(hf:ev h1 e f=some (.func (.func g) first cap))(hnc:gT (T g)=false)
 (hlo:base<=lo)(hlo2:lo<=h1.next)(hlog:h1.log=[])(w1:WF h1)
 (HG:GrX T g (dP first.toList (dP [.func (.yield h1.next) #[] #[]] cap.toList)) {h1.push (.loop e ps asg body 0 .normal)with log:=[]} lo P S)
 (hP:∀H,P H->∃a b c d,H.get h1.next=some (.loop a b c d 0 .normal))(hS:∀H,S H->∃a b c d,H.get h1.next=some (.loop a b c d 2 .ret))
 (K1:∀h2 h3:Heap,h3.log=[]->WF h3->h1.next<h3.next->h3.next=h2.next->(∀z,z≠h1.next->h3.get z=h2.get z)->P h2->Q .normal e ds h3)
 (K2:∀h2 h3:Heap,h3.log=[]->WF h3->h1.next<h3.next->h3.next=h2.next->(∀z,z≠h1.next->h3.get z=h2.get z)->S h2->Q .ret e ds h3):WE T base rnd (.rangeFunc f ps asg body) Q e ds h1:=by
 refine vu hr hf hnc (CW.mono HG ?_);rintro r h2 ⟨hk,v,rfl,hq⟩;have hl2:fQ base h2.log:=λz hz=>Nat.le_trans hlo (hk.log (fQ.nil _) z hz);have q1:(({h2 with log:=aF base h1.log h2.log}:Heap).wr base h1.next .dead).log=[]:=by
  rw[Heap.aq (by omega)];show aF base h1.log h2.log=[];rw[uI hl2,hlog]
 have q2:WF (({h2 with log:=aF base h1.log h2.log}:Heap).wr base h1.next .dead):=((hk.wf ((w1.push _).log _)).log _).as (AS.wr _ _ _ _);have q3:h1.next<h2.next:=hk.next
 have q4:∀z,z≠h1.next->(({h2 with log:=aF base h1.log h2.log}:Heap).wr base h1.next .dead).get z=h2.get z:=λz hne=>Heap.eD hne
 rcases hq with hq|hq
 ·obtain⟨a,b,c,d,hl⟩:=hP _ hq;exact⟨_,rfl,_,_,_,_,_,_,hl,rfl,K1 h2 _ q1 q2 q3 rfl q4 hq⟩
 ·obtain⟨a,b,c,d,hl⟩:=hS _ hq;exact⟨_,rfl,_,_,_,_,_,_,hl,rfl,K2 h2 _ q1 q2 q3 rfl q4 hq⟩
structure YQM (px:br) (l:Nat) (L LX:bO) (lo N n:Nat) (R S:Heap->Prop) (x:br) (e:Env) (ds:Dfs) (h3:Heap):Prop where
 busy:∃o,h3.get l=some o/\busy o=true
 log:∀z∈h3.log,lo<=z/\z<N
 rel:(x= .normal/\∀h5:Heap,n<=h5.next->(∀z,z<n->z≠l->h5.get z=h3.get z)->h5.get l=some L->R h5)∨(x=px/\∀h5:Heap,h5.next=h3.next->(∀z,z≠l->h5.get z=h3.get z)->h5.get l=some LX->S h5)
structure YAM (px:br) (T:Nat->Option af) (l:Nat) (e:Env) (ps:List Nat) (asg body:aQ) (lo N n:Nat) (R S:Heap->Prop) (x:br) (e2:Env) (ds2:Dfs) (h2:Heap):Prop where
 x:x= .normal
 loop:h2.get l=some (.loop e ps asg body 0 .normal)
 body:WE T n (some l) body (YQM px l (.loop e ps asg body 0 .normal) (.loop e ps asg body 2 px) lo N n R S) e2 ds2 (h2.wr 0 l (.loop e ps asg body 1 .normal))
theorem FW.Pt(hp:aV T){px:br}(hpx:px= .ret∨∃i,px= .exit i){l lo N:Nat}{e e1:Env}{ps:List Nat}{asg body:aQ}{args:List Value}{R S:Heap->Prop}(hl:h.get l=some (.loop e ps asg body 0 .normal))(he:iS e ps args=some e1)(hlN:l<h.next)(hlo:lo<=l/\l<N)
 (H:WE T h.next (some l) asg (YAM px T l e ps asg body lo N h.next R S) e1 [] h):
 FW T (.yield l) args h λr h'=>(∀z∈h'.log,lo<=z/\z<N)/\(r= .ret (.bool true)/\R h'∨r= .ret (.bool false)/\l∈h'.log/\S h'):=by
 obtain⟨x,e2,ds2,h2,⟨m,hm⟩,⟨rfl,hl2,H2⟩⟩:=H.ok;obtain⟨x3,e3,ds3,h3,⟨m3,hm3⟩,⟨⟨o,ho,hb⟩,hlog,hrel⟩⟩:=H2.ok;have hnr:notReady (h2.get l)=false:=by rw[hl2];rfl
 have hloop:∃a b c d p,o= .loop a b c d 1 p:=by
  unfold A.busy at hb;split at hb
  ·exact⟨_,_,_,_,_,rfl⟩
  ·cases hb
 obtain⟨oa,ob,oc,od,op,rfl⟩:=hloop;rcases hrel with⟨rfl,hrel⟩|⟨rfl,hrel⟩
 ·have A1:=(eS.all hp m).exec _ _ _ _ _ _ _ _ _ _ (hm m (Nat.le_refl _)) (Nat.le_refl _);have A2:=(eS.all hp m3).exec _ _ _ _ _ _ _ _ _ _ (hm3 m3 (Nat.le_refl _)) A1.next
  have A3:AS 0 h (h3.wr 0 l (.loop e ps asg body 0 .normal)):=((A1.zero.trans (AS.wr 0 h2 l _)).trans A2.zero).trans (AS.wr 0 h3 l _);obtain⟨g1,g2,g3⟩:=rT (v:= .bool true) A3;refine⟨.ret (.bool true),gcA h (h3.wr 0 l (.loop e ps asg body 0 .normal)) (.bool true),⟨m+m3+1,λn hn=> ?_⟩,?_, .inl ⟨rfl,?_⟩⟩
  ·obtain⟨k,rfl⟩:∃k,n=k+1:=⟨n-1,by omega⟩;have q1:=hm k (by omega);have q2:=hm3 k (by omega);rw[←wr0]at q2;simp only[fN,hl,he,q1,hnr,cond_false,q2,ho];rfl
  ·rw[g3];exact hlog
  ·refine hrel _ g2 (λz hz hne=>(g1 z hz).trans (Heap.eD hne)) ((g1 l hlN).trans ?_);exact Heap.aB ho
 ·refine⟨.ret (.bool false),h3.wr h.next l (.loop e ps asg body 2 x3),⟨m+m3+1,λn hn=> ?_⟩,?_, .inr ⟨rfl,pZ hlN,?_⟩⟩
  ·obtain⟨k,rfl⟩:∃k,n=k+1:=⟨n-1,by omega⟩;have q1:=hm k (by omega);have q2:=hm3 k (by omega);rw[←wr0]at q2;rcases hpx with rfl|⟨i,rfl⟩<;>simp only[fN,hl,he,q1,hnr,cond_false,q2,ho]
  ·intro z hz;rcases dx hz with rfl|hz
   ·exact hlo
   ·exact hlog z hz
  ·exact hrel _ rfl (λz hne=>Heap.eD hne) (Heap.aB ho)
structure J7 {α:Type} (px:br) (T:Nat->Option af) (lo N l:Nat) (V:α->List Value) (all:List α) (P:List α->Heap->Prop) (S:Heap->Prop):Prop where
 oD:∀done x H,x∈all->Rdy H->N<=H.next->P done H->FW T (.yield l) (V x) H λr H'=>(∀z∈H'.log,lo<=z/\z<N)/\(r= .ret (.bool true)/\P (done++[x]) H'∨r= .ret (.bool false)/\l∈H'.log/\S H')
 fF:∀done H H',P done H->N<=H'.next->(∀x,x<N->H'.get x=H.get x)->P done H'
 E4:∀H m,S H->S {H with log:=m}
 wO:∀H,S H->∃a b c d,H.get l=some (.loop a b c d 2 px)
theorem J7.call(hp:aV T){α:Type}{px:br}{lo N l:Nat}{V:α->List Value}{all:List α}{P:List α->Heap->Prop}{S:Heap->Prop}(Y:J7 px T lo N l V all P S){K:Env->Dfs->Heap->Prop}{dst:Option Nat}{done:List α}{x:α}(hx:x∈all)(hw:WF h)(hlo:lo<=h.next)(hN:N<=h.next)(hlb:l<base)(hP:P done h)
 (hK:∀h',Lk lo h h'→(∀z,N<=z->z<h.next->h'.get z=h.get z)->P (done++[x]) h'→K (cI e dst (.bool true)) ds h')
 (hX:∀h',Lk lo h h'→l∈h'.log->S h'→K (cI e dst (.bool false)) ds h'):FW T (.yield l) (V x) {h with log:=[]} (KO K Q base dst e ds h.log):=by
 refine FW.mono' (FW.Cz hp (Y.oD done x _ hx (.of hw) hN (Y.fF _ _ _ hP hN λ_ _=>rfl)) rfl) ?_;rintro r h2 ⟨hA,hl,hq⟩;have hk:Lk lo {h with log:=[]} h2:=Lk.pg hA hlo λz hz=>(hl z hz).1;rcases hq with⟨rfl,hq⟩|⟨rfl,hm,hq⟩
 ·refine⟨hK _ hk.call (λz h1 h3=> ?_) (Y.fF _ _ _ hq (Nat.le_trans hN hA.next) λ_ _=>rfl)⟩;exact hA.same z h3 h3 (mM λhm=>by have:=(hl z hm).2;omega)
 ·exact⟨hX _ hk.call (mem_merge hlb hm) (Y.E4 _ _ hq)⟩
theorem GrX.ofM(hp:aV T){px:br}{f:Nat}{args:List Value}{c:aQ}{rs:List (Nat×Option (Option Nat))}{lo l:Nat}{P S:Heap->Prop}(hf:T f=some (.code c rs))(hlo:lo<=h.next)(hlN:l<h.next)
 (hP:∀h1 h2:Heap,h.next<=h2.next->(∀x,x<h.next->h2.get x=h1.get x)->P h1->P h2)(hS:∀H,S H->∃a b c d,H.get l=some (.loop a b c d 2 px))(H:WE T h.next none c (Kn rs lo l P S) (eM 0 args) [] h):GrX T f args h lo P S:=by
 obtain⟨x,e,ds,h1,⟨m,hm⟩,⟨hx,rfl,hl,⟨vs,hvs⟩,hq⟩⟩:=H.ok;have hA:=(eS.all hp m).exec _ _ _ _ _ _ _ _ _ _ (hm m (Nat.le_refl _)) (Nat.le_refl _);obtain⟨g1,g2,g3,g4⟩:=qx (v:=fH vs) hA;have key:Lk lo h (gcA h h1 (fH vs))/\∃v,Res.ret (fH vs)= .ret v/\(P (gcA h h1 (fH vs))∨S (gcA h h1 (fH vs))):=by
  refine⟨Lk.pg (hA.gc' _) hlo (by rw[g3];exact hl),_,rfl,?_⟩;rcases hq with hq|⟨hml,hq⟩
  ·exact .inl (hP _ _ g2 g1 hq)
  ·obtain⟨a,b,c,d,hlp⟩:=hS _ hq;rw[xT hlp hlN hml];exact .inr hq
 refine CW.code hf ⟨x,e,[],h1,⟨m,hm⟩,?_⟩;unfold xR;rcases hx with rfl|rfl<;>(simp only[hvs];exact key)
theorem Fp{px:br}{h1:Heap}{f:Operand}{g lo:Nat}{first cap:Array Value}{ps:List Nat}{asg body:aQ}{P S:Heap->Prop}(hr:og h1 rnd=true)(hf:ev h1 e f=some (.func (.func g) first cap))(hnc:gT (T g)=false)
 (hlo:base<=lo)(hlo2:lo<=h1.next)(hlog:h1.log=[])(w1:WF h1)
 (HG:GrX T g (dP first.toList (dP [.func (.yield h1.next) #[] #[]] cap.toList)) {h1.push (.loop e ps asg body 0 .normal)with log:=[]} lo P S)
 (hP:∀H,P H->∃a b c d,H.get h1.next=some (.loop a b c d 0 .normal))(hS:∀H,S H->∃a b c d,H.get h1.next=some (.loop a b c d 2 px))
 (K1:∀h2 h3:Heap,h3.log=[]->WF h3->h1.next<h3.next->h3.next=h2.next->(∀z,z≠h1.next->h3.get z=h2.get z)->P h2->Q .normal e ds h3)
 (K2:∀h2 h3:Heap,h3.log=[]->WF h3->h1.next<h3.next->h3.next=h2.next->(∀z,z≠h1.next->h3.get z=h2.get z)->S h2->Q px e ds h3):WE T base rnd (.rangeFunc f ps asg body) Q e ds h1:=by
 refine vu hr hf hnc (CW.mono HG ?_);rintro r h2 ⟨hk,v,rfl,hq⟩;have hl2:fQ base h2.log:=λz hz=>Nat.le_trans hlo (hk.log (fQ.nil _) z hz);have q1:(({h2 with log:=aF base h1.log h2.log}:Heap).wr base h1.next .dead).log=[]:=by
  rw[Heap.aq (by omega)];show aF base h1.log h2.log=[];rw[uI hl2,hlog]
 have q2:WF (({h2 with log:=aF base h1.log h2.log}:Heap).wr base h1.next .dead):=((hk.wf ((w1.push _).log _)).log _).as (AS.wr _ _ _ _);have q3:h1.next<h2.next:=hk.next
 have q4:∀z,z≠h1.next->(({h2 with log:=aF base h1.log h2.log}:Heap).wr base h1.next .dead).get z=h2.get z:=λz hne=>Heap.eD hne
 rcases hq with hq|hq
 ·obtain⟨a,b,c,d,hl⟩:=hP _ hq;exact⟨_,rfl,_,_,_,_,_,_,hl,rfl,K1 h2 _ q1 q2 q3 rfl q4 hq⟩
 ·obtain⟨a,b,c,d,hl⟩:=hS _ hq;exact⟨_,rfl,_,_,_,_,_,_,hl,rfl,K2 h2 _ q1 q2 q3 rfl q4 hq⟩
theorem Bi{b:aQ}(H:WE T base rnd b Q e ds h):WE T base rnd (.scope b) Q e ds h:=by
 obtain⟨x,e',ds',h',⟨m,h1⟩,h2⟩:=H.ok;exact⟨_,_,_,_,⟨m+1,λn hn=>by
  obtain⟨k,rfl⟩:∃k,n=k+1:=⟨n-1,by omega⟩;simp only[ct,h1 k (by omega)]⟩,h2⟩
def CE(h:Heap)(q:Nat):Prop:=∃vs own t,h.get q=some (.cells vs own t)/\cU vs=false
structure Ug {α:Type} (T:Nat->Option af) (lo N l q:Nat) (V:α->Value) (all:List α) (P:List α->Heap->Prop):Prop where
 hq:q<N
 oD:∀done x rest H,all=done++x::rest->Rdy H->N<=H.next->P done H->FW T (.yield l) [V x] H λr H'=>r= .ret (.bool true)/\(∀z∈H'.log,lo<=z)/\q∈H'.log/\CE H' q/\P (done++[x]) H'
 fF:∀done H H',P done H->H.next<=H'.next->(∀x,x<H.next->H'.get x=H.get x)->P done H'
structure Uh {α:Type} (T:Nat->Option af) (lo N l q:Nat) (V:α->List Value) (all:List α) (P:List α->Heap->Prop) (W:Heap->Nat->Prop):Prop where
 hq:q<N
 oD:∀done x H,x∈all->done.length<100000->Rdy H->N<=H.next->P done H->FW T (.yield l) (V x) H λr H'=>r= .ret (.bool true)/\(∀z∈H'.log,lo<=z)/\q∈H'.log/\CE H' q/\P (done++[x]) H'∧(∀z,z<H.next->¬W H z->H'.get z=H.get z)/\(∀z,W H' z->W H z∨H.next<=z)
 fF:∀done H H',P done H->H.next<=H'.next->(∀x,x<H.next->H'.get x=H.get x)->P done H'
 wst:∀done H H',P done H->H.next<=H'.next->(∀x,x<H.next->H'.get x=H.get x)->∀z,W H' z->W H z
 wlt:∀done H z,P done H->W H z->z<H.next
structure Uk (rs:List (Nat×Option (Option Nat))) (S:Nat->Prop) (Q Qp:Value->Heap->Prop) (x:br) (e:Env) (ds:Dfs) (h1:Heap):Prop where
 ok:ds=[]/\(∀z∈h1.log,S z)/\(((x= .normal∨x= .ret)/\∃vs,cC h1 e rs=some vs/\Q (fH vs) h1)∨∃v,x= .panic v/\Qp v h1)
structure SE (T:Nat->Option af) (base:Nat) (c:aQ) (K:br->Env->Option Value->Heap->Prop) (e:Env) (p:Option Value) (h:Heap):Prop where
 ok:∃x e' p' h',(∃m,∀n,m<=n->ir T n base c e p h=some (x,e',p',h'))/\K x e' p' h'
variable {p:Option Value} {K:br->Env->Option Value->Heap->Prop} {KO':Env->Option Value->Heap->Prop}
end Go.A
end
section
namespace Go.A
variable {T:Nat->Option af} {base:Nat} {rnd:Option Nat} {Q Q':XQ} {e e2:Env} {ds:Dfs} {h:Heap} {os:List bg} {dst:Option Nat} {v u:Value} {x y:Operand} {keep k2:List Nat} {K:Env->Dfs->Heap->Prop}
theorem y1(H:Q .normal e2 ds h)(he:cE e keep=e2:=by simp only[cE,cI,geT,eM,cond_true,cond_false,Nat.beq];exact rfl):KR keep Q .normal e ds h:=Qy he H
theorem y3(H:K e2 ds h)(he:cE e keep=e2:=by simp only[cE,cI,geT,eM,cond_true,cond_false,Nat.beq];exact rfl):WO T base rnd (KR keep (KS K Q)) [] e ds h:=aO (Qy he (vE H))
theorem y4{b:aQ}(H:WO T base rnd (KR keep (KS (WE T base rnd b Q) Q)) os e ds h):WE T base rnd (.seq (.region os keep) b) Q e ds h:=vz (sH H)
theorem yM(H:WO T base rnd Q os (cI e dst v) ds h)(hx:ev h e x=some v:=by exact rfl):WO T base rnd Q (⟨dst, .mov x,none⟩::os) e ds h:=aA (gG hx) H
theorem yE{i:Nat}{vs:Array Value}(H:WO T base rnd Q os (cI e dst v) ds h)(hx:ev h e x=some (.tuple vs):=by exact rfl)(hv:aT vs.toList i=some v:=by exact rfl):WO T base rnd Q (⟨dst, .extract x i,none⟩::os) e ds h:=aA (DX hx hv) H
theorem yL{b o sz:Nat}{vs:List Value}{own:Bool}(H:WO T base rnd Q os (cI e dst v) ds h)(hx:ev h e x=some (.pointer (some ⟨b,o,none⟩)):=by exact rfl)
 (hb:h.get b=some (.cells vs own sz):=by first|assumption|exact z3 _ _|exact Go.A.z8 (by omega) (by omega)|(simp(disch:=first|omega|(simp only[z1,z2];omega))only[z3,z4,z5,z6,z7,z1,z2, *];done)|(simp(disch:=first|omega|(simp only[z1,z2];omega))only[z3,z4,z5,z6,z7,z1,z2, *];exact rfl)|(simp(disch:=first|omega|(simp only[z1,z2];omega)|(simp only[z1,z2];done)|fail)only[Go.A.z8,z4,z5,z9,z7,z1,z2, *];done)|(simp(disch:=first|omega|(simp only[z1,z2];omega)|(simp only[z1,z2];done)|fail)only[Go.A.z8,z4,z5,z9,z7,z1,z2, *];exact rfl))
 (hv:aT vs o=some v:=by exact rfl):WO T base rnd Q (⟨dst, .load none x,none⟩::os) e ds h:=aA (fq hx hb hv) H
theorem yN{n b o sz:Nat}{vs l:List Value}{own:Bool}(H:WO T base rnd Q os (cI e dst (.agg l.toArray)) ds h)(hx:ev h e x=some (.pointer (some ⟨b,o,none⟩)):=by exact rfl)
 (hb:h.get b=some (.cells vs own sz):=by first|assumption|exact z3 _ _|exact Go.A.z8 (by omega) (by omega)|(simp(disch:=first|omega|(simp only[z1,z2];omega))only[z3,z4,z5,z6,z7,z1,z2, *];done)|(simp(disch:=first|omega|(simp only[z1,z2];omega))only[z3,z4,z5,z6,z7,z1,z2, *];exact rfl)|(simp(disch:=first|omega|(simp only[z1,z2];omega)|(simp only[z1,z2];done)|fail)only[Go.A.z8,z4,z5,z9,z7,z1,z2, *];done)|(simp(disch:=first|omega|(simp only[z1,z2];omega)|(simp only[z1,z2];done)|fail)only[Go.A.z8,z4,z5,z9,z7,z1,z2, *];exact rfl))
 (hv:bB n (bA o vs)=l:=by exact rfl)(hl:Nat.beq (bK l) n=true:=by exact rfl):WO T base rnd Q (⟨dst, .load (some n) x,none⟩::os) e ds h:=aA (cQ hx hb hv hl) H
theorem yS{n b o sz:Nat}{vs ws:List Value}(H:WO T base rnd Q os (cI e dst (.tuple #[])) ds (h.wr base b (.cells ws true sz)))(hx:ev h e x=some (.pointer (some ⟨b,o,none⟩)):=by exact rfl)(hy:ev h e y=some v:=by exact rfl)
 (hb:h.get b=some (.cells vs true sz):=by first|assumption|exact z3 _ _|exact Go.A.z8 (by omega) (by omega)|(simp(disch:=first|omega|(simp only[z1,z2];omega))only[z3,z4,z5,z6,z7,z1,z2, *];done)|(simp(disch:=first|omega|(simp only[z1,z2];omega))only[z3,z4,z5,z6,z7,z1,z2, *];exact rfl)|(simp(disch:=first|omega|(simp only[z1,z2];omega)|(simp only[z1,z2];done)|fail)only[Go.A.z8,z4,z5,z9,z7,z1,z2, *];done)|(simp(disch:=first|omega|(simp only[z1,z2];omega)|(simp only[z1,z2];done)|fail)only[Go.A.z8,z4,z5,z9,z7,z1,z2, *];exact rfl))
 (hc:(Nat.beq (bK (cellsOf v)) n&&Nat.ble (o+n) (bK vs)&&cK (cellsOf v))=true:=by exact rfl)(hw:bZ vs o (cellsOf v)=ws:=by exact rfl):WO T base rnd Q (⟨dst, .store n x y,none⟩::os) e ds h:=aA (dZ hx hy hb hc hw) H
theorem yF{off b o:Nat}(H:WO T base rnd Q os (cI e dst (.pointer (some ⟨b,o+off,none⟩))) ds h)(hx:ev h e x=some (.pointer (some ⟨b,o,none⟩)):=by exact rfl):WO T base rnd Q (⟨dst, .bF off x,none⟩::os) e ds h:=aA (ez hx) H
theorem yB{vs:List Value}(H:WO T base rnd Q os (cI e dst (.pointer (some ⟨h.next,0,none⟩))) ds (h.push (.cells vs true 1)))(hx:ev h e x=some v:=by exact rfl)(hc:cellsOf v=vs:=by exact rfl):WO T base rnd Q (⟨dst, .box x,none⟩::os) e ds h:=aA (PD hx hc) H
theorem yT{c:Operand}(H:WO T base rnd Q os (cI e dst v) ds h)(hc:ev h e c=some (.bool true):=by exact rfl)(hx:ev h e x=some v:=by exact rfl):WO T base rnd Q (⟨dst, .pick c x y,none⟩::os) e ds h:=aA (CP hc hx) H
theorem yU{c:Operand}(H:WO T base rnd Q os (cI e dst v) ds h)(hc:ev h e c=some (.bool false):=by exact rfl)(hx:ev h e y=some v:=by exact rfl):WO T base rnd Q (⟨dst, .pick c x y,none⟩::os) e ds h:=aA (CO hc hx) H
theorem yO{op:AOp}{t:Nat}{b:Bool}(H:WO T base rnd Q (⟨dst,op,none⟩::os) e ds h)(hg:geT e t=some (.bool b):=by exact rfl):WO T base rnd Q (⟨dst,op,some (t,b)⟩::os) e ds h:=JL hg H
theorem yP{op:AOp}{t:Nat}{b c:Bool}(H:WO T base rnd Q os (cI e dst (.tuple #[])) ds h)(hg:geT e t=some (.bool c):=by exact rfl)(hx:c= !b:=by exact rfl):WO T base rnd Q (⟨dst,op,some (t,b)⟩::os) e ds h:=Pc hg hx H
theorem yC{f:Operand}{args:List Operand}{fv:Value}{as:List Value}{g:Nat}{first cap:Array Value}{all:List Value}(H:FW T (.func g) all {h with log:=[]} (KO (WO T base rnd Q os) Q base dst e ds h.log))(hf:ev h e f=some fv:=by exact rfl)(ha:evs h e args=some as:=by exact rfl)(hv:fv= .func (.func g) first cap:=by exact rfl)(hl:dP first.toList (dP as cap.toList)=all:=by exact rfl):
 WO T base rnd Q (⟨dst, .call f args,none⟩::os) e ds h:=zJ (FL hf ha hv hl) H
theorem yX{c:Operand}{a b:aQ}(H:WE T base rnd b Q e ds h)(hc:ev h e c=some (.bool false):=by exact rfl):WE T base rnd (.cond c a b) Q e ds h:=JJ hc H
theorem yY{c:Operand}{a b:aQ}(H:WE T base rnd a Q e ds h)(hc:ev h e c=some (.bool true):=by exact rfl):WE T base rnd (.cond c a b) Q e ds h:=Ma hc H
theorem yA{b:Bool}(H:WO T base rnd Q os (cI e dst (.bool !b)) ds h)(hx:ev h e x=some (.bool b):=by exact rfl):WO T base rnd Q (⟨dst, .un .not x,none⟩::os) e ds h:=aA (MH hx) H
theorem yD{a:Option Addr}{n c:Nat}(H:WO T base rnd Q os (cI e dst (.int .i64 n)) ds h)(hx:ev h e x=some (.slice a n c):=by exact rfl):WO T base rnd Q (⟨dst, .len 1 x,none⟩::os) e ds h:=aA (Br hx) H
section
variable {k:IntKind} {a b:Int}
theorem yt{op:BinOp}{u:Value}(H:WO T base rnd Q os (cI e dst (.bool true)) ds h)(hx:ev h e x=some v:=by exact rfl)(hy:ev h e y=some u:=by exact rfl)(hv:ah op v u=some (.bool true):=by first|exact ye (by omega)|exact kQ (by omega)|exact dG (by omega)|exact kP (by omega)|exact nU (by omega)|exact yg (by omega)):
 WO T base rnd Q (⟨dst, .bin (.num op) x y,none⟩::os) e ds h:=aA (tV hx hy hv) H
theorem yf{op:BinOp}{u:Value}(H:WO T base rnd Q os (cI e dst (.bool false)) ds h)(hx:ev h e x=some v:=by exact rfl)(hy:ev h e y=some u:=by exact rfl)(hv:ah op v u=some (.bool false):=by first|exact BM (by omega)|exact lR (by omega)|exact dJ (by omega)|exact jB (by omega)|exact pN (by omega)|exact BO (by omega)):
 WO T base rnd Q (⟨dst, .bin (.num op) x y,none⟩::os) e ds h:=aA (tV hx hy hv) H
theorem T9{n:Nat}(H:WO T base rnd Q os (cI e dst (.int .i64 (n+1:Nat))) ds h)(hx:ev h e x=some (.int .i64 n):=by exact rfl)(hy:ev h e y=some (.int .i64 1):=by exact rfl)(hn:n<9223372036854775807:=by omega):WO T base rnd Q (⟨dst, .bin (.num .add) x y,none⟩::os) e ds h:=aA (tV hx hy (QF hn)) H
end
section
variable {ops:List bg} {bf:List Nat} {rs:List Rec} {R:Env->Heap->Prop} {i mask:Nat} {is:List Nat} {g:Option (Nat×Bool)} {er:Env}
theorem qM(H:WD T base ops bf R is (⟨i,⟨dst, .mov x,g⟩,er,v, .quiet⟩::rs) (cI e dst v) h)(ho:aT ops i=some ⟨dst, .mov x,g⟩:=by exact rfl)(hm:aT bf i=some mask:=by exact rfl)(he:cE e (cV ⟨dst, .mov x,g⟩)=er:=by exact rfl)(hw:bX er g=some true:=by exact rfl)(hx:ev h er x=some v:=by exact rfl):WD T base ops bf R (i::is) rs e h:=cD ho hm he hw rfl rfl (gG hx) H
theorem qF{off b o:Nat}(H:WD T base ops bf R is (⟨i,⟨dst, .bF off x,g⟩,er, .pointer (some ⟨b,o+off,none⟩), .quiet⟩::rs) (cI e dst (.pointer (some ⟨b,o+off,none⟩))) h)(ho:aT ops i=some ⟨dst, .bF off x,g⟩:=by exact rfl)(hm:aT bf i=some mask:=by exact rfl)(he:cE e (cV ⟨dst, .bF off x,g⟩)=er:=by exact rfl)(hw:bX er g=some true:=by exact rfl)(hx:ev h er x=some (.pointer (some ⟨b,o,none⟩)):=by exact rfl):
 WD T base ops bf R (i::is) rs e h:=cD ho hm he hw rfl rfl (ez hx) H
theorem qL{b o sz:Nat}{vs:List Value}{own:Bool}(H:WD T base ops bf R is (⟨i,⟨dst, .load none x,g⟩,er,v, .quiet⟩::rs) (cI e dst v) h)(ho:aT ops i=some ⟨dst, .load none x,g⟩:=by exact rfl)(hm:aT bf i=some mask:=by exact rfl)(he:cE e (cV ⟨dst, .load none x,g⟩)=er:=by exact rfl)(hw:bX er g=some true:=by exact rfl)(hx:ev h er x=some (.pointer (some ⟨b,o,none⟩)):=by exact rfl)
 (hb:h.get b=some (.cells vs own sz):=by first|assumption|exact z3 _ _|exact Go.A.z8 (by omega) (by omega)|(simp(disch:=first|omega|(simp only[z1,z2];omega))only[z3,z4,z5,z6,z7,z1,z2, *];done)|(simp(disch:=first|omega|(simp only[z1,z2];omega))only[z3,z4,z5,z6,z7,z1,z2, *];exact rfl)|(simp(disch:=first|omega|(simp only[z1,z2];omega)|(simp only[z1,z2];done)|fail)only[Go.A.z8,z4,z5,z9,z7,z1,z2, *];done)|(simp(disch:=first|omega|(simp only[z1,z2];omega)|(simp only[z1,z2];done)|fail)only[Go.A.z8,z4,z5,z9,z7,z1,z2, *];exact rfl))
 (hv:aT vs o=some v:=by exact rfl):WD T base ops bf R (i::is) rs e h:=cD ho hm he hw rfl rfl (fq hx hb hv) H
theorem qN{n b o sz:Nat}{vs l:List Value}{own:Bool}(H:WD T base ops bf R is (⟨i,⟨dst, .load (some n) x,g⟩,er, .agg l.toArray, .quiet⟩::rs) (cI e dst (.agg l.toArray)) h)(ho:aT ops i=some ⟨dst, .load (some n) x,g⟩:=by exact rfl)(hm:aT bf i=some mask:=by exact rfl)(he:cE e (cV ⟨dst, .load (some n) x,g⟩)=er:=by exact rfl)(hw:bX er g=some true:=by exact rfl)(hx:ev h er x=some (.pointer (some ⟨b,o,none⟩)):=by exact rfl)
 (hb:h.get b=some (.cells vs own sz):=by first|assumption|exact z3 _ _|exact Go.A.z8 (by omega) (by omega)|(simp(disch:=first|omega|(simp only[z1,z2];omega))only[z3,z4,z5,z6,z7,z1,z2, *];done)|(simp(disch:=first|omega|(simp only[z1,z2];omega))only[z3,z4,z5,z6,z7,z1,z2, *];exact rfl)|(simp(disch:=first|omega|(simp only[z1,z2];omega)|(simp only[z1,z2];done)|fail)only[Go.A.z8,z4,z5,z9,z7,z1,z2, *];done)|(simp(disch:=first|omega|(simp only[z1,z2];omega)|(simp only[z1,z2];done)|fail)only[Go.A.z8,z4,z5,z9,z7,z1,z2, *];exact rfl))
 (hv:bB n (bA o vs)=l:=by exact rfl)(hl:Nat.beq (bK l) n=true:=by exact rfl):WD T base ops bf R (i::is) rs e h:=cD ho hm he hw rfl rfl (cQ hx hb hv hl) H
theorem qC{f:Operand}{args:List Operand}{fv:Value}{as:List Value}{k:Nat}{first cap:Array Value}{all:List Value}(H:FW T (.func k) all {h with log:=[]} (KD (WD T base ops bf R is) base mask rs dst e h.log))(ho:aT ops i=some ⟨dst, .call f args,g⟩:=by exact rfl)(hm:aT bf i=some mask:=by exact rfl)(he:cE e (cV ⟨dst, .call f args,g⟩)=er:=by exact rfl)(hw:bX er g=some true:=by exact rfl)
 (hf:ev {h with log:=[]} er f=some fv:=by exact rfl)(ha:evs {h with log:=[]} er args=some as:=by exact rfl)(hv:fv= .func (.func k) first cap:=by exact rfl)(hl:dP first.toList (dP as cap.toList)=all:=by exact rfl):WD T base ops bf R (i::is) rs e h:=zF ho hm he hw rfl (FL hf ha hv hl) H
end
end Go.A
end
section
namespace Go.A
variable {T:Nat->Option af} {base:Nat} {rnd:Option Nat} {Q:XQ} {e:Env} {ds:Dfs} {h:Heap}
def mx(a b:Int):Int:=if b>a then b else a
theorem lW{base:Nat}{h:Heap}{e:Env}{len size b o i:Nat}{k:IntKind}{x y:Operand}(hx:ev h e x=some (.pointer (some ⟨b,o,none⟩)))(hy:ev h e y=some (.int k (i:Nat)))(hi:i<len):aop h base e (.bI len size x y)=some (.val (.pointer (some ⟨b,o+i*size,none⟩)) h):=by
 have e0:(.int k (i:Nat):Value)= .int k (Int.ofNat i):=rfl;rw[e0]at hy;simp only[aop,hx,hy,jd hi,cond_true]
theorem CN{base:Nat}{h:Heap}{e:Env}{x y:Operand}{a b:Int}(hx:ev h e x=some (.int .i64 a))(hy:ev h e y=some (.int .i64 b)):aop h base e (.dK true [x,y])=some (.val (.int .i64 (mx a b)) h):=by
 simp only[aop,evs,hx,hy,mmA,if_true,cM,mx]
theorem bh{x y:Operand}{b n sz:Nat}{vs cs:List Value}(hx:ev h e x=some (.pointer (some ⟨b,0,none⟩)))(hy:ev h e y=some (.agg cs.toArray))(hb:h.get b=some (.cells vs true sz))(hn:cs.length=n)(hv:vs.length=n)(h1:cK cs=true):
 aop h base e (.store n x y)=some (.val (.tuple #[]) (h.wr base b (.cells cs true sz))):=by
 have hc:cellsOf (.agg cs.toArray)=cs:=by show cs.toArray.toList=cs;simp
 refine dZ hx hy hb ?_ ?_
 ·rw[hc,bM,bM,hn,hv,h1,Eo,Nat.zero_add,eT (Nat.le_refl n)];rfl
 ·rw[hc,gM (by omega)];simp only[List.take_zero,List.nil_append,Nat.zero_add];rw[List.drop_of_length_le (by omega),List.append_nil]
theorem FQ{x y:Operand}{b o sz:Nat}{vs:List Value}{v:Value}(hx:ev h e x=some (.pointer (some ⟨b,o,none⟩)))(hy:ev h e y=some v)(hb:h.get b=some (.cells vs true sz))(hc:cellsOf v=[v])(h1:cK [v]=true)(ho:o<vs.length):
 aop h base e (.store 1 x y)=some (.val (.tuple #[]) (h.wr base b (.cells (vs.set o v) true sz))):=by
 refine dZ hx hy hb ?_ ?_
 ·rw[hc,h1,bM,bM,eT (by omega)];rfl
 ·rw[hc];show qD vs o v=vs.set o v;clear hx hy hb;induction vs generalizing o with
  |nil=>simp at ho
  |cons w vs ih=>
   cases o with
   |zero=>rfl
   |succ o=>simp only[qD,List.set_cons_succ];rw[ih (by simpa using ho)]
theorem FT{op:UnOp}{x:Operand}{a v:Value}(hx:ev h e x=some a)(hv:ry op a=some v):aop h base e (.un op x)=some (.val v h):=by simp only[aop,hx,cM,hv]
theorem qk{base:Nat}{h:Heap}{e:Env}:aop h base e .mkMap=some (.val (.map (some h.next)) (h.push (.map []))):=rfl
theorem Dn{a b:Int}(h1: -9223372036854775808<=a*b)(h2:a*b<9223372036854775808):ah .mul (.int .i64 a) (.int .i64 b)=some (.int .i64 (a*b)):=by
 simp[ah,arith,bJ h1 h2]
theorem sX{base:Nat}:∀{m l:List Nat},fQ base m->aF base l m=l
 |[],_,_=>rfl
 |b::m,l,h=>by
  have hb:=h b (List.mem_cons_self ..);simp only[aF,qG (show¬b<base by omega),cond_false];exact sX λx hx=>h x (List.mem_cons_of_mem _ hx)
theorem FW.gs0{base:Nat}{Q:XQ}{e:Env}{ds:Dfs}{h:Heap}{f:Nat}{args:List Value}{S:Nat->Prop}{Q':Value->Heap->Prop}{K:Env->Dfs->Heap->Prop}{dst:Option Nat}(H:Gs T f args {h with log:=[]} S Q')(hlog:∀v (h':Heap) l,Q' v h'→Q' v {h' with log:=l})(hS:∀z,S z->base<=z)(hK:∀v h',h.next<=h'.next->h'.log=h.log->(∀z,z<h.next->¬S z->h'.get z=h.get z)->(WF h->WF h')->Q' v h'→K (cI e dst v) ds h'):
 FW T (.func f) args {h with log:=[]} (KO K Q base dst e ds h.log):=by
 refine .func (CW.mono H ?_);rintro r h2 ⟨hx,v,rfl,hq⟩;exact⟨hK v _ hx.next (sX λz hz=>hS z ((hx.log z hz).elim (λq=>by cases q) id)) hx.old (λw=>(hx.wf (w.log [])).log _) (hlog v h2 _ hq)⟩
theorem wY{base:Nat}{h:Heap}{e:Env}{ops:List bg}{bf:List Nat}{rs rs':List Rec}{Q:Env->Heap->Prop}{i mask:Nat}{is:List Nat}{dst:Option Nat}{g:Option (Nat×Bool)}{er:Env}{x y:Operand}{b o sz:Nat}{vs:List Value}{v:Value}
 (ho:aT ops i=some ⟨dst, .store 1 x y,g⟩)(hm:aT bf i=some mask)(he:cE e (cV ⟨dst, .store 1 x y,g⟩)=er)(hwt:bX er g=some true)(hx:ev {h with log:=[]} er x=some (.pointer (some ⟨b,o,none⟩)))(hy:ev {h with log:=[]} er y=some v)(hb:h.get b=some (.cells vs true sz))
 (hc:cellsOf v=[v])(h1:cK [v]=true)(ho':o<vs.length)(hlt:b<h.next)(hbb:base<=b)(hrs:bL (h.wr base b (.cells (vs.set o v) true sz)) base [b] mask rs=some rs')
 (H:WD T base ops bf Q is rs' (cI e dst (.tuple #[])) (h.wr base b (.cells (vs.set o v) true sz))):WD T base ops bf Q (i::is) rs e h:=
 rz ho hm he hwt rfl (FQ (h:={h with log:=[]}) hx hy hb hc h1 ho') (Gz hlt hbb _) (uz hlt _) hrs H
theorem Bh{base:Nat}{h:Heap}{e:Env}{ops:List bg}{bf:List Nat}{rs rs':List Rec}{Q:Env->Heap->Prop}{i mask:Nat}{is:List Nat}{dst:Option Nat}{g:Option (Nat×Bool)}{er:Env}{x y:Operand}{b n sz:Nat}{vs cs:List Value}
 (ho:aT ops i=some ⟨dst, .store n x y,g⟩)(hm:aT bf i=some mask)(he:cE e (cV ⟨dst, .store n x y,g⟩)=er)(hwt:bX er g=some true)(hx:ev {h with log:=[]} er x=some (.pointer (some ⟨b,0,none⟩)))(hy:ev {h with log:=[]} er y=some (.agg cs.toArray))(hb:h.get b=some (.cells vs true sz))
 (hn:cs.length=n)(hv:vs.length=n)(h1:cK cs=true)(hlt:b<h.next)(hbb:base<=b)(hrs:bL (h.wr base b (.cells cs true sz)) base [b] mask rs=some rs')
 (H:WD T base ops bf Q is rs' (cI e dst (.tuple #[])) (h.wr base b (.cells cs true sz))):WD T base ops bf Q (i::is) rs e h:=
 rz ho hm he hwt rfl (bh (h:={h with log:=[]}) hx hy hb hn hv h1) (Gz hlt hbb _) (uz hlt _) hrs H
theorem eG{base:Nat}{e:Env}{h:Heap}{ops:List bg}{bf:List Nat}{rs rs':List Rec}{Q:Env->Heap->Prop}{i mask:Nat}{is:List Nat}{dst:Option Nat}{x y:Operand}{n b o sz:Nat}{vs ws:List Value}{v:Value}{g:Option (Nat×Bool)}{er:Env}(ho:aT ops i=some ⟨dst, .store n x y,g⟩)(hm:aT bf i=some mask)
 (he:cE e (cV ⟨dst, .store n x y,g⟩)=er)(hw:bX er g=some true)(hx:ev {h with log:=[]} er x=some (.pointer (some ⟨b,o,none⟩)))(hy:ev {h with log:=[]} er y=some v)(hb:h.get b=some (.cells vs true sz))
 (hc:(Nat.beq (bK (cellsOf v)) n&&Nat.ble (o+n) (bK vs)&&cK (cellsOf v))=true)(hws:bZ vs o (cellsOf v)=ws)(hlt:b<h.next)(hrs:bL (h.wr base b (.cells ws true sz)) base [b] mask rs=some rs')
 (H:WD T base ops bf Q is rs' (cI e dst (.tuple #[])) (h.wr base b (.cells ws true sz))):WD T base ops bf Q (i::is) rs e h:=
 rz ho hm he hw rfl (dZ (h:={h with log:=[]}) hx hy hb hc hws) (GA hlt _) (uz hlt _) hrs H
theorem sG{base:Nat}{rnd:Option Nat}{Q:XQ}{e:Env}{E0:Env->Env}{ds:Dfs}{h:Heap}{a b:aQ}{P:Heap->Prop}(H1:WE T base rnd a (λx e' ds' h'=>x= .normal/\(∃r,e'=E0 r)/\ds'=[]/\P h') e ds h)(H2:∀r h',P h'→WE T base rnd b Q (E0 r) [] h'):WE T base rnd (.seq a b) Q e ds h:=by
 refine vz (H1.mono ?_);rintro x e' ds' h' ⟨rfl,⟨r,rfl⟩,rfl,hp⟩;exact vE (H2 r h' hp)
theorem aX{base:Nat}{rnd:Option Nat}{Q:XQ}{e:Env}{E0:Env}{ds:Dfs}{h:Heap}{a b:aQ}{P:Heap->Prop}(H1:WE T base rnd a (λx e' ds' h'=>x= .normal/\e'=E0/\ds'=[]/\P h') e ds h)(H2:∀h',P h'→WE T base rnd b Q E0 [] h'):WE T base rnd (.seq a b) Q e ds h:=by
 refine vz (H1.mono ?_);rintro x e' ds' h' ⟨rfl,rfl,rfl,hp⟩;exact vE (H2 h' hp)
theorem oz{base:Nat}{rnd:Option Nat}{Q:XQ}{e:Env}{ds:Dfs}{h:Heap}{lo sz bytes n:Nat}{dst:Option Nat}{os:List bg}{x y:Operand}{v u:Value}{cs c1:List Value}(s:Own lo h sz v n cs)(hn:n<1000000)(hsz:0<sz)(hb:bytes<=100000)(hbase:base<=lo)
 (hx:ev h e x=some v)(hy:ev h e y=some u)(hs:fE h sz u=some (c1,1))(hl1:c1.length=sz)(h1:cK c1=true)
 (hK:∀h',Own h.next h' sz (.slice (some ⟨h.next,0,none⟩) (n+1) UNK) (n+1) (cs++c1)->h'.next=h.next+1->h'.log=h.log->(WF h->WF h')->(∀z,z<h.next->(∀q a c,v= .slice (some ⟨q,0,none⟩) a c->z≠q)->h'.get z=h.get z)->WO T base rnd Q os (cI e dst (.slice (some ⟨h.next,0,none⟩) (n+1) UNK)) ds h'):WO T base rnd Q (⟨dst, .append sz bytes x y,none⟩::os) e ds h:=by
 have hbd:(2*(n+1)+768)*bytes<=281474976710656:=by
  have:(2*(n+1)+768)*bytes<=2000768*100000:=Nat.mul_le_mul (by omega) hb;omega
 cases s with
 |nil=>
  refine aA (rM (n:=1) hx hy hs (by omega) (by simpa using hbd) rfl) ?_;exact hK _ (Own.full (lo:=h.next) (h:=h.push (.cells c1 true sz)) (sz:=sz) (q:=h.next) (n:=1) (cs:=c1) (Nat.le_refl _) (Nat.lt_succ_self _) (Heap.ja _ _) (by omega) (by omega)) rfl rfl (λw=>w.push _) (λz hz _=>Heap.gp hz)
 | @full q _ _ q1 q2 q3 q4 q5=>
   refine aA (pF (n:=1) (vs:=cs) (ws:=cs++c1) hx hy hs (by omega) q3 q4 hsz h1 hbd (dQ _ _)) ?_;exact hK _ (.full (Nat.le_refl _) (Nat.lt_succ_self _) (Heap.ja _ _) (by rw[List.length_append,q4,hl1,Nat.add_mul,Nat.one_mul]) (by omega)) rfl (Heap.aq (o:= .dead) (by omega)) (λw=>(w.as (AS.wr base _ q .dead)).push _) (λz hz hne=>(Heap.gp (by exact hz)).trans (Heap.eD (hne q _ _ rfl)))
theorem WF.fU{h:Heap}(w:WF h){x:Nat}{o:bO}(hx:h.get x=some o):x<h.next:=by
 refine w.lt x (Classical.byContradiction λhn=> ?_);have:=Ec hn;rw[show eZ h.b8 x=h.get x from rfl,hx]at this;cases this
end Go.A
end
section
namespace Go.A
variable {T:Nat->Option af} {base:Nat} {rnd:Option Nat} {Q:XQ} {e:Env} {ds:Dfs} {h:Heap} {os:List bg} {dst:Option Nat} {v:Value} {x y:Operand}
theorem yW{op:BinOp}{a b:Value}(H:WO T base rnd Q os (cI e dst v) ds h)(hx:ev h e x=some a:=by exact rfl)(hy:ev h e y=some b:=by exact rfl)(hv:ah op a b=some v:=by with_reducible assumption):WO T base rnd Q (⟨dst, .bin (.num op) x y,none⟩::os) e ds h:=aA (tV hx hy hv) H
theorem yV{n b o sz:Nat}{vs l:List Value}{own:Bool}(H:WO T base rnd Q os (cI e dst (.agg l.toArray)) ds h)(hx:ev h e x=some (.pointer (some ⟨b,o,none⟩)):=by exact rfl)(hb:h.get b=some (.cells vs own sz):=by assumption)(hv:bB n (bA o vs)=l:=by assumption)(hl:Nat.beq (bK l) n=true:=by assumption):WO T base rnd Q (⟨dst, .load (some n) x,none⟩::os) e ds h:=aA (cQ hx hb hv hl) H
theorem yI{size b o len cap i:Nat}{k:IntKind}(H:WO T base rnd Q os (cI e dst (.pointer (some ⟨b,o+i*size,none⟩))) ds h)(hx:ev h e x=some (.slice (some ⟨b,o,none⟩) len cap):=by exact rfl)(hy:ev h e y=some (.int k (i:Nat)):=by exact rfl)(hi:i<len:=by omega):WO T base rnd Q (⟨dst, .aH size x y,none⟩::os) e ds h:=aA (qj hx hy hi) H
section
variable {ops:List bg} {bf:List Nat} {rs:List Rec} {R:Env->Heap->Prop} {i mask:Nat} {is:List Nat} {g:Option (Nat×Bool)} {er:Env}
theorem qW{op:BinOp}{a b:Value}(H:WD T base ops bf R is (⟨i,⟨dst, .bin (.num op) x y,g⟩,er,v, .quiet⟩::rs) (cI e dst v) h)(ho:aT ops i=some ⟨dst, .bin (.num op) x y,g⟩:=by exact rfl)(hm:aT bf i=some mask:=by exact rfl)(he:cE e (cV ⟨dst, .bin (.num op) x y,g⟩)=er:=by exact rfl)(hw:bX er g=some true:=by exact rfl)(hx:ev h er x=some a:=by exact rfl)(hy:ev h er y=some b:=by exact rfl)(hv:ah op a b=some v:=by with_reducible assumption):WD T base ops bf R (i::is) rs e h:=cD ho hm he hw rfl rfl (tV hx hy hv) H
theorem qV{n b o sz:Nat}{vs l:List Value}{own:Bool}(H:WD T base ops bf R is (⟨i,⟨dst, .load (some n) x,g⟩,er, .agg l.toArray, .quiet⟩::rs) (cI e dst (.agg l.toArray)) h)(ho:aT ops i=some ⟨dst, .load (some n) x,g⟩:=by exact rfl)(hm:aT bf i=some mask:=by exact rfl)(he:cE e (cV ⟨dst, .load (some n) x,g⟩)=er:=by exact rfl)(hw:bX er g=some true:=by exact rfl)(hx:ev h er x=some (.pointer (some ⟨b,o,none⟩)):=by exact rfl)(hb:h.get b=some (.cells vs own sz):=by assumption)(hv:bB n (bA o vs)=l:=by assumption)(hl:Nat.beq (bK l) n=true:=by assumption):WD T base ops bf R (i::is) rs e h:=cD ho hm he hw rfl rfl (cQ hx hb hv hl) H
theorem qK{b o sz:Nat}{vs:List Value}{own:Bool}(H:WD T base ops bf R is (⟨i,⟨dst, .load none x,g⟩,er,v, .quiet⟩::rs) (cI e dst v) h)(ho:aT ops i=some ⟨dst, .load none x,g⟩:=by exact rfl)(hm:aT bf i=some mask:=by exact rfl)(he:cE e (cV ⟨dst, .load none x,g⟩)=er:=by exact rfl)(hw:bX er g=some true:=by exact rfl)(hx:ev h er x=some (.pointer (some ⟨b,o,none⟩)):=by exact rfl)(hb:h.get b=some (.cells vs own sz):=by assumption)(hv:aT vs o=some v:=by assumption):WD T base ops bf R (i::is) rs e h:=cD ho hm he hw rfl rfl (fq hx hb hv) H
theorem qI{size b o len cap j:Nat}{k:IntKind}(H:WD T base ops bf R is (⟨i,⟨dst, .aH size x y,g⟩,er, .pointer (some ⟨b,o+j*size,none⟩), .quiet⟩::rs) (cI e dst (.pointer (some ⟨b,o+j*size,none⟩))) h)(ho:aT ops i=some ⟨dst, .aH size x y,g⟩:=by exact rfl)(hm:aT bf i=some mask:=by exact rfl)(he:cE e (cV ⟨dst, .aH size x y,g⟩)=er:=by exact rfl)(hw:bX er g=some true:=by exact rfl)(hx:ev h er x=some (.slice (some ⟨b,o,none⟩) len cap):=by exact rfl)(hy:ev h er y=some (.int k (j:Nat)):=by exact rfl)(hi:j<len:=by omega):WD T base ops bf R (i::is) rs e h:=cD ho hm he hw rfl rfl (qj hx hy hi) H
theorem qJ{size b o len j:Nat}{k:IntKind}(H:WD T base ops bf R is (⟨i,⟨dst, .bI len size x y,g⟩,er, .pointer (some ⟨b,o+j*size,none⟩), .quiet⟩::rs) (cI e dst (.pointer (some ⟨b,o+j*size,none⟩))) h)(ho:aT ops i=some ⟨dst, .bI len size x y,g⟩:=by exact rfl)(hm:aT bf i=some mask:=by exact rfl)(he:cE e (cV ⟨dst, .bI len size x y,g⟩)=er:=by exact rfl)(hw:bX er g=some true:=by exact rfl)(hx:ev h er x=some (.pointer (some ⟨b,o,none⟩)):=by exact rfl)(hy:ev h er y=some (.int k (j:Nat)):=by exact rfl)(hi:j<len:=by omega):WD T base ops bf R (i::is) rs e h:=cD ho hm he hw rfl rfl (lW hx hy hi) H
theorem qO{op:AOp}(H:WD T base ops bf R is (⟨i,⟨dst,op,g⟩,er, .tuple #[], .skip⟩::rs) (cI e dst (.tuple #[])) h)(ho:aT ops i=some ⟨dst,op,g⟩:=by exact rfl)(hm:aT bf i=some mask:=by exact rfl)(he:cE e (cV ⟨dst,op,g⟩)=er:=by exact rfl)(hw:bX er g=some false:=by exact rfl):WD T base ops bf R (i::is) rs e h:=O9 ho hm he hw H
end
end Go.A
end
section
namespace Go.A
variable {T:Nat->Option af} {base:Nat} {rnd:Option Nat} {Q:XQ} {e:Env} {ds:Dfs} {h:Heap}
structure YQW (px:br) (l:Nat) (L LX:bO) (W:Nat->Prop) (n:Nat) (R S:Heap->Prop) (x:br) (e:Env) (ds:Dfs) (h3:Heap):Prop where
 busy:∃o,h3.get l=some o/\busy o=true
 log:∀z∈h3.log,W z
 rel:(x= .normal/\∀h5:Heap,n<=h5.next->(∀z,z<n->z≠l->h5.get z=h3.get z)->h5.get l=some L->R h5)∨(x=px/\∀h5:Heap,h5.next=h3.next->(∀z,z≠l->h5.get z=h3.get z)->h5.get l=some LX->S h5)
structure YAW (px:br) (T:Nat->Option af) (l:Nat) (e:Env) (ps:List Nat) (asg body:aQ) (W:Nat->Prop) (n:Nat) (R S:Heap->Prop) (x:br) (e2:Env) (ds2:Dfs) (h2:Heap):Prop where
 x:x= .normal
 loop:h2.get l=some (.loop e ps asg body 0 .normal)
 body:WE T n (some l) body (YQW px l (.loop e ps asg body 0 .normal) (.loop e ps asg body 2 px) W n R S) e2 ds2 (h2.wr 0 l (.loop e ps asg body 1 .normal))
theorem FW.Pv(hp:aV T){px:br}(hpx:px= .ret∨∃i,px= .exit i){l:Nat}{W:Nat->Prop}{e e1:Env}{ps:List Nat}{asg body:aQ}{args:List Value}{R S:Heap->Prop}(hl:h.get l=some (.loop e ps asg body 0 .normal))(he:iS e ps args=some e1)(hlN:l<h.next)(hlo:W l)
 (H:WE T h.next (some l) asg (YAW px T l e ps asg body W h.next R S) e1 [] h):
 FW T (.yield l) args h λr h'=>(∀z∈h'.log,W z)/\(r= .ret (.bool true)/\R h'∨r= .ret (.bool false)/\l∈h'.log/\S h'):=by
 obtain⟨x,e2,ds2,h2,⟨m,hm⟩,⟨rfl,hl2,H2⟩⟩:=H.ok;obtain⟨x3,e3,ds3,h3,⟨m3,hm3⟩,⟨⟨o,ho,hb⟩,hlog,hrel⟩⟩:=H2.ok;have hnr:notReady (h2.get l)=false:=by rw[hl2];rfl
 have hloop:∃a b c d p,o= .loop a b c d 1 p:=by
  unfold A.busy at hb;split at hb
  ·exact⟨_,_,_,_,_,rfl⟩
  ·cases hb
 obtain⟨oa,ob,oc,od,op,rfl⟩:=hloop;rcases hrel with⟨rfl,hrel⟩|⟨rfl,hrel⟩
 ·have A1:=(eS.all hp m).exec _ _ _ _ _ _ _ _ _ _ (hm m (Nat.le_refl _)) (Nat.le_refl _);have A2:=(eS.all hp m3).exec _ _ _ _ _ _ _ _ _ _ (hm3 m3 (Nat.le_refl _)) A1.next
  have A3:AS 0 h (h3.wr 0 l (.loop e ps asg body 0 .normal)):=((A1.zero.trans (AS.wr 0 h2 l _)).trans A2.zero).trans (AS.wr 0 h3 l _);obtain⟨g1,g2,g3⟩:=rT (v:= .bool true) A3;refine⟨.ret (.bool true),gcA h (h3.wr 0 l (.loop e ps asg body 0 .normal)) (.bool true),⟨m+m3+1,λn hn=> ?_⟩,?_, .inl ⟨rfl,?_⟩⟩
  ·obtain⟨k,rfl⟩:∃k,n=k+1:=⟨n-1,by omega⟩;have q1:=hm k (by omega);have q2:=hm3 k (by omega);rw[←wr0]at q2;simp only[fN,hl,he,q1,hnr,cond_false,q2,ho];rfl
  ·rw[g3];exact hlog
  ·refine hrel _ g2 (λz hz hne=>(g1 z hz).trans (Heap.eD hne)) ((g1 l hlN).trans ?_);exact Heap.aB ho
 ·refine⟨.ret (.bool false),h3.wr h.next l (.loop e ps asg body 2 x3),⟨m+m3+1,λn hn=> ?_⟩,?_, .inr ⟨rfl,pZ hlN,?_⟩⟩
  ·obtain⟨k,rfl⟩:∃k,n=k+1:=⟨n-1,by omega⟩;have q1:=hm k (by omega);have q2:=hm3 k (by omega);rw[←wr0]at q2;rcases hpx with rfl|⟨i,rfl⟩<;>simp only[fN,hl,he,q1,hnr,cond_false,q2,ho]
  ·intro z hz;rcases dx hz with rfl|hz
   ·exact hlo
   ·exact hlog z hz
  ·exact hrel _ rfl (λz hne=>Heap.eD hne) (Heap.aB ho)
structure Ui {α:Type} (px:br) (T:Nat->Option af) (W:Nat->Prop) (N l:Nat) (V:α->List Value) (all:List α) (P:List α->Heap->Prop) (S:Heap->Prop):Prop where
 oD:∀done x H,x∈all->Rdy H->N<=H.next->P done H->FW T (.yield l) (V x) H λr H'=>(∀z∈H'.log,W z)/\(r= .ret (.bool true)/\P (done++[x]) H'∨r= .ret (.bool false)/\l∈H'.log/\S H')
 fF:∀done H H',P done H->N<=H'.next->(∀x,x<N->H'.get x=H.get x)->P done H'
 E4:∀H m,S H->S {H with log:=m}
 wO:∀H,S H->∃a b c d,H.get l=some (.loop a b c d 2 px)
 low:∀z,W z->z<N
def GrW(T:Nat->Option af)(f:Nat)(args:List Value)(h:Heap)(W:Nat->Prop)(P S:Heap->Prop):Prop:=CW T f args h λr h'=>Ws W h h'∧∃v,r= .ret v/\(P h'∨S h')
structure Np (rs:List (Nat×Option (Option Nat))) (W:Nat->Prop) (l:Nat) (P S:Heap->Prop) (x:br) (e:Env) (ds:Dfs) (h1:Heap):Prop where
 ok:(x= .normal∨x= .ret)/\ds=[]/\(∀z∈h1.log,W z)/\(∃vs,cC h1 e rs=some vs)/\(P h1∨l∈h1.log/\S h1)
theorem Ac{rs:List (Nat×Option (Option Nat))}{W:Nat->Prop}{l:Nat}{P S:Heap->Prop}{vs:List Value}(hl:∀z∈h.log,W z)(hr:cC h e rs=some vs)(hm:l∈h.log)(hq:S h):Np rs W l P S .ret e [] h:=⟨⟨.inr rfl,rfl,hl,⟨vs,hr⟩, .inr ⟨hm,hq⟩⟩⟩
theorem Gx{rs:List (Nat×Option (Option Nat))}{W:Nat->Prop}{l:Nat}{P S:Heap->Prop}{vs:List Value}(hl:∀z∈h.log,W z)(hr:cC h e rs=some vs)(hq:P h):Np rs W l P S .normal e [] h:=⟨⟨.inl rfl,rfl,hl,⟨vs,hr⟩, .inl hq⟩⟩
theorem GrW.of(hp:aV T){px:br}{f:Nat}{args:List Value}{c:aQ}{rs:List (Nat×Option (Option Nat))}{W:Nat->Prop}{l:Nat}{P S:Heap->Prop}(hf:T f=some (.code c rs))(hlN:l<h.next)
 (hP:∀h1 h2:Heap,h.next<=h2.next->(∀x,x<h.next->h2.get x=h1.get x)->P h1->P h2)(hS:∀H,S H->∃a b c d,H.get l=some (.loop a b c d 2 px))(H:WE T h.next none c (Np rs W l P S) (eM 0 args) [] h):GrW T f args h W P S:=by
 obtain⟨x,e,ds,h1,⟨m,hm⟩,⟨hx,rfl,hl,⟨vs,hvs⟩,hq⟩⟩:=H.ok;have hA:=(eS.all hp m).exec _ _ _ _ _ _ _ _ _ _ (hm m (Nat.le_refl _)) (Nat.le_refl _);obtain⟨g1,g2,g3,g4⟩:=qx (v:=fH vs) hA;have key:Ws W h (gcA h h1 (fH vs))/\∃v,Res.ret (fH vs)= .ret v/\(P (gcA h h1 (fH vs))∨S (gcA h h1 (fH vs))):=by
  refine⟨Ws.pg (hA.gc' _) (by rw[g3];exact hl),_,rfl,?_⟩;rcases hq with hq|⟨hml,hq⟩
  ·exact .inl (hP _ _ g2 g1 hq)
  ·obtain⟨a,b,c,d,hlp⟩:=hS _ hq;rw[xT hlp hlN hml];exact .inr hq
 refine CW.code hf ⟨x,e,[],h1,⟨m,hm⟩,?_⟩;unfold xR;rcases hx with rfl|rfl<;>(simp only[hvs];exact key)
theorem merge_lt{base z:Nat}:∀{m l:List Nat},z∈aF base l m->z∈l∨z∈m/\z<base
 |[],l,h=> .inl h
 |b::m,l,h=>by
  simp only[aF]at h;rcases merge_lt (m:=m) h with h|⟨h,hb⟩
  ·revert h;rw[cond_eq_ite,cond_eq_ite];split
   ·rename_i hlt;split
    ·exact .inl
    ·intro h;rcases List.mem_cons.1 h with rfl|h
     ·exact .inr ⟨List.mem_cons_self ..,by rw[blt_eq]at hlt;simpa using hlt⟩
     ·exact .inl h
   ·exact .inl
  ·exact .inr ⟨List.mem_cons_of_mem _ h,hb⟩
theorem Fq{px:br}{h1:Heap}{f:Operand}{g:Nat}{W:Nat->Prop}{first cap:Array Value}{ps:List Nat}{asg body:aQ}{P S:Heap->Prop}(hr:og h1 rnd=true)(hf:ev h1 e f=some (.func (.func g) first cap))(hnc:gT (T g)=false)
 (hbase:base<=h1.next)(w1:WF h1)
 (HG:GrW T g (dP first.toList (dP [.func (.yield h1.next) #[] #[]] cap.toList)) {h1.push (.loop e ps asg body 0 .normal)with log:=[]} W P S)
 (hP:∀H,P H->∃a b c d,H.get h1.next=some (.loop a b c d 0 .normal))(hS:∀H,S H->∃a b c d,H.get h1.next=some (.loop a b c d 2 px))
 (K1:∀h2 h3:Heap,(∀z∈h3.log,z∈h1.log∨W z/\z<base)->WF h3->h1.next<h3.next->h3.next=h2.next->(∀z,z≠h1.next->h3.get z=h2.get z)->(∀z,z<h1.next->¬W z->h3.get z=h1.get z)->P h2->Q .normal e ds h3)
 (K2:∀h2 h3:Heap,(∀z∈h3.log,z∈h1.log∨W z/\z<base)->WF h3->h1.next<h3.next->h3.next=h2.next->(∀z,z≠h1.next->h3.get z=h2.get z)->(∀z,z<h1.next->¬W z->h3.get z=h1.get z)->S h2->Q px e ds h3):WE T base rnd (.rangeFunc f ps asg body) Q e ds h1:=by
 refine vu hr hf hnc (CW.mono HG ?_);rintro r h2 ⟨hk,v,rfl,hq⟩;have q1:∀z∈(({h2 with log:=aF base h1.log h2.log}:Heap).wr base h1.next .dead).log,z∈h1.log∨W z/\z<base:=by
  rw[Heap.aq (by omega)];intro z hz;rcases merge_lt (show z∈aF base h1.log h2.log from hz)with hz|⟨hz,hb⟩
  ·exact .inl hz
  ·rcases hk.log z hz with q|q
   ·cases q
   ·exact .inr ⟨q,hb⟩
 have q2:WF (({h2 with log:=aF base h1.log h2.log}:Heap).wr base h1.next .dead):=((hk.wf ((w1.push _).log _)).log _).as (AS.wr _ _ _ _);have q3:h1.next<h2.next:=hk.next
 have q4:∀z,z≠h1.next->(({h2 with log:=aF base h1.log h2.log}:Heap).wr base h1.next .dead).get z=h2.get z:=λz hne=>Heap.eD hne
 have q5:∀z,z<h1.next->¬W z->(({h2 with log:=aF base h1.log h2.log}:Heap).wr base h1.next .dead).get z=h1.get z:=λz hz hn=>(q4 z (by omega)).trans ((hk.old z (Nat.lt_succ_of_lt hz) hn).trans (Heap.gp hz))
 rcases hq with hq|hq
 ·obtain⟨a,b,c,d,hl⟩:=hP _ hq;exact⟨_,rfl,_,_,_,_,_,_,hl,rfl,K1 h2 _ q1 q2 q3 rfl q4 q5 hq⟩
 ·obtain⟨a,b,c,d,hl⟩:=hS _ hq;exact⟨_,rfl,_,_,_,_,_,_,hl,rfl,K2 h2 _ q1 q2 q3 rfl q4 q5 hq⟩
structure Uc (h:Heap) (rs:List (Nat×Option (Option Nat))) (S:Nat->Prop) (Q:Value->Heap->Prop) (x:br) (e:Env) (ds:Dfs) (h1:Heap):Prop where
 ok:(x= .normal∨x= .ret)/\ds=[]/\(∀z∈h1.log,S z)/\∃vs,cC h1 e rs=some vs/\Q (fH vs) h1/\((∃q,q<h.next/\q∈h1.log/\CE h1 q)∨∀h2:Heap,h.next<=h2.next->(∀x,x<h.next->h2.get x=h1.get x)->Q (fH vs) h2)
structure WsL (base:Nat) (S:Nat->Prop) (h h':Heap):Prop extends Ws S h h' where
 QD:∀z∈h'.log,z∈h.log∨S z/\z<base
 Ul:∀z∈h.log,z∈h'.log
theorem Ws.Qd{S:Nat->Prop}{h h2:Heap}(x:Ws S {h with log:=[]} h2):WsL base S h {h2 with log:=aF base h.log h2.log}:=
 ⟨x.call,λz hz=>(merge_lt (show z∈aF base h.log h2.log from hz)).imp id λ⟨q,hb⟩=>⟨(x.log z q).elim (λq=>by cases q) id,hb⟩,λz hz=>pO (show z∈h.log from hz)⟩
theorem FW.Nu{f:Nat}{args:List Value}{S:Nat->Prop}{Q':Value->Heap->Prop}{K:List Rec->Env->Heap->Prop}{mask:Nat}{rs:List Rec}{dst:Option Nat}(H:Gs T f args {h with log:=[]} S Q')(hlog:∀v (h':Heap) l,Q' v h'→Q' v {h' with log:=l})
 (hK:∀v h' lg,WsL base S h h'→(∀z∈lg,S z)->Q' v h'→∃rs',bL h' base lg mask rs=some rs'∧K rs' (cI e dst v) h'):FW T (.func f) args {h with log:=[]} (KD K base mask rs dst e h.log):=by
 refine .func (CW.mono H ?_);rintro r h2 ⟨hx,v,rfl,hq⟩;obtain⟨rs',q1,q2⟩:=hK v {h2 with log:=aF base h.log h2.log} h2.log hx.Qd (λz hz=>(hx.log z hz).elim (λq=>by cases q) id) (hlog v h2 _ hq);refine⟨?_⟩;show kD K base mask rs dst e h.log (.ret v) h2;unfold kD;simp only[q1];exact q2
theorem M4(l:Nat):iG (.func (.yield l) #[] #[]) (.func (.yield l) #[] #[])=true:=by simp[iG,jh]
structure J8 {α:Type} (px:br) (T:Nat->Option af) (W:Nat->Prop) (N l:Nat) (V:α->List Value) (all:List α) (P:List α->Heap->Prop) (S:Heap->Prop):Prop where
 oD:∀done x H,done++[x]<+:all->Rdy H->N<=H.next->P done H->FW T (.yield l) (V x) H λr H'=>(∀z∈H'.log,W z)/\(r= .ret (.bool true)/\P (done++[x]) H'∨r= .ret (.bool false)/\l∈H'.log/\S H')
 fF:∀done H H',P done H->N<=H'.next->(∀x,x<N->H'.get x=H.get x)->P done H'
 E4:∀H m,S H->S {H with log:=m}
 wO:∀H,S H->∃a b c d,H.get l=some (.loop a b c d 2 px)
 low:∀z,W z->z<N
theorem J8.MN(hp:aV T){α:Type}{px:br}{W:Nat->Prop}{N l:Nat}{V:α->List Value}{all:List α}{P:List α->Heap->Prop}{S:Heap->Prop}(Y:J8 px T W N l V all P S){K:List Rec->Env->Heap->Prop}{mask:Nat}{rs:List Rec}{dst:Option Nat}{done:List α}{x:α}(hx:done++[x]<+:all)(hw:WF h)(hN:N<=h.next)(hlb:l<base)(hP:P done h)
 (hK:∀h' lg,Ws W h h'→(∀z∈lg,W z)->P (done++[x]) h'→∃rs',bL h' base lg mask rs=some rs'∧K rs' (cI e dst (.bool true)) h')
 (hX:∀h' lg,Ws W h h'→(∀z∈lg,W z)->l∈h'.log->S h'→∃rs',bL h' base lg mask rs=some rs'∧K rs' (cI e dst (.bool false)) h'):FW T (.yield l) (V x) {h with log:=[]} (KD K base mask rs dst e h.log):=by
 refine FW.mono' (FW.Cz hp (Y.oD done x _ hx (.of hw) hN (Y.fF _ _ _ hP hN λ_ _=>rfl)) rfl) ?_;rintro r h2 ⟨hA,hl,hq⟩;have hk:Ws W {h with log:=[]} h2:=Ws.pg hA hl;rcases hq with⟨rfl,hq⟩|⟨rfl,hm,hq⟩
 ·obtain⟨rs',q1,q2⟩:=hK {h2 with log:=aF base h.log h2.log} h2.log hk.call hl (Y.fF _ _ _ hq (Nat.le_trans hN hA.next) λ_ _=>rfl);refine⟨?_⟩;show kD K base mask rs dst e h.log (.ret (.bool true)) h2;unfold kD;simp only[q1];exact q2
 ·obtain⟨rs',q1,q2⟩:=hX {h2 with log:=aF base h.log h2.log} h2.log hk.call hl (mem_merge hlb hm) (Y.E4 _ _ hq);refine⟨?_⟩;show kD K base mask rs dst e h.log (.ret (.bool false)) h2;unfold kD;simp only[q1];exact q2
end Go.A
end
section
namespace Go.A
section
variable{T:Nat->Option af}{b:Nat}{r:Option Nat}{X:XQ}{os:List bg}{e:Env}{ds:Dfs}{h:Heap}{d:Option Nat}{x y z:Operand}{R:Prop}{n:Nat}{a c:aQ}{K:Env->Dfs->Heap->Prop}{E:br}{rs:List Rec}{bf is:List Nat}{Z:Env->Heap->Prop}
abbrev YpO:=@id (R->WO T b r X os e ds h)
abbrev YpE:=@id (R->WE T b r a X e ds h)
abbrev YpD:=@id (R->WD T b os bf Z is rs e h)
abbrev Yp0:=@id (R->WO T b r X (⟨d, .mov x,none⟩::os) e ds h)
variable{t:Nat}{B:Bool}{p:AOp}{u:Bl}{l:List Operand}
abbrev Yp1:=@id (R->WO T b r X (⟨d, p,some (t,B)⟩::os) e ds h)
abbrev Yp2:=@id (R->WO T b r X [] e ds h)
abbrev Yp3:=@id (R->WO T b r X (⟨d, .bin u x y,none⟩::os) e ds h)
abbrev Yp4:=@id (R->WO T b r X (⟨d, .load (some n) x,none⟩::os) e ds h)
abbrev Yp5:=@id (R->WO T b r X (⟨d, .load none x,none⟩::os) e ds h)
abbrev Yp6:=@id (R->WO T b r X (⟨d, .call x l,none⟩::os) e ds h)
abbrev Yp7:=@id (R->WO T b r X (⟨d, .bF n x,none⟩::os) e ds h)
abbrev Yp8:=@id (R->WO T b r X (⟨d, .len n x,none⟩::os) e ds h)
abbrev Yp9:=@id (R->WO T b r X (⟨d, .box x,none⟩::os) e ds h)
abbrev Yp10:=@id (R->WO T b r X (⟨d, .extract x n,none⟩::os) e ds h)
abbrev Yp11:=@id (R->WO T b r X (⟨d, .pick x y z,none⟩::os) e ds h)
abbrev Yp12:=@id (R->WO T b r X (⟨d, .aH n x y,none⟩::os) e ds h)
abbrev Yp13:=@id (R->WO T b r X (⟨d, .store n x y,none⟩::os) e ds h)
variable{D:List Value}
abbrev Yp14:=@id (R->WO T b r X (⟨d, .new D,none⟩::os) e ds h)
abbrev Yp15:=@id (R->WE T b r (.seq a c) X e ds h)
abbrev Yp16:=@id (R->WE T b r (.cond x a c) X e ds h)
abbrev Yp17:=@id (R->WE T b r (.skip) X e ds h)
abbrev Yp18:=@id (R->WE T b r (.ret) X e ds h)
abbrev Yp19:=@id (R->WE T b r (.block n a) X e ds h)
abbrev Yp20:=@id (R->KS K X E e ds h)
abbrev Yp21:=@id (R->KB n X E e ds h)
end
theorem YW{h:Heap}{x b:Nat}{o p:bO}(g:h.get b=some p):(h.wr x b o).get b=some o:=by rw[z6,g];rfl
theorem YG{h:Heap}{b:Nat}{c:Option bO}(H:h.get b=c:=by first|assumption|exact z3 _ _|exact Go.A.z8 (by omega) (by omega)|exact YW (by assumption)|(rw[z5 (by omega)];assumption)|(rw[z5 (by omega)];exact YW (by assumption))|exact YW ((z5 (by omega)).trans (by assumption))|(rw[z4 (by omega)];assumption)|(rw[z6,Go.A.z8 (by omega) (by omega)];exact rfl)|(rw[z6,z3];exact rfl)|(simp(disch:=first|omega|(simp only[z1,z2];omega))only[z3,z4,z5,z6,z7,z1,z2, *];done)|(simp(disch:=first|omega|(simp only[z1,z2];omega))only[z3,z4,z5,z6,z7,z1,z2, *];exact rfl)|(simp(disch:=first|omega|(simp only[z1,z2];omega)|(simp only[z1,z2];done)|fail)only[Go.A.z8,z4,z5,z9,z7,z1,z2, *];done)|(simp(disch:=first|omega|(simp only[z1,z2];omega)|(simp only[z1,z2];done)|fail)only[Go.A.z8,z4,z5,z9,z7,z1,z2, *];exact rfl)|(simp(disch:=first|omega|(simp only[z1,z2];omega))only[z3,z4,z5,z6,z7,z1,z2];done)|(simp(disch:=first|omega|(simp only[z1,z2];omega))only[z3,z4,z5,z6,z7,z1,z2];exact rfl)|(simp(disch:=first|omega|(simp only[z1,z2];omega)|(simp only[z1,z2];done)|fail)only[Go.A.z8,z4,z5,z9,z7,z1,z2];done)|(simp(disch:=first|omega|(simp only[z1,z2];omega)|(simp only[z1,z2];done)|fail)only[Go.A.z8,z4,z5,z9,z7,z1,z2];exact rfl)):h.get b=c:=H
theorem Yc1{P R:Prop}(s:R->P:=by first|(apply YpO;first|(apply Yp0;first|exact λH=>yM H)|(apply Yp1;first|exact λH=>yO H|exact λH=>yP H)|(apply Yp2;first|exact λH=>y3 H)|(apply Yp3;first|exact λH=>yW H|exact λH=>T9 H|exact λH=>yt H|exact λH=>yf H)|(apply Yp4;first|exact λH=>yV H|exact λH=>yN H)|(apply Yp5;first|exact λH=>aA (fq (by exact rfl) (by assumption) (by assumption)) H|exact λH=>yL H|exact λH=>yL (hb:=YG) H)|(apply Yp6;first|exact λH=>yC H)|(apply Yp7;first|exact λH=>yF H)|(apply Yp8;first|exact λH=>yD H)|(apply Yp9;first|exact λH=>yB H)|(apply Yp10;first|exact λH=>yE H)|(apply Yp11;first|exact λH=>yT H|exact λH=>yU H)|(apply Yp12;first|exact λH=>yI H)|(apply Yp13;first|exact λH=>yS H|exact λH=>yS (hb:=YG) H)|(apply Yp14;first|exact λH=>aA (sO) H)|(exact λH=>yA H)|(exact λH=>Mf (by exact rfl) H)|(exact λH=>aA (qi (by exact rfl) (by exact rfl)) H)|(exact λH=>aA (Rx (by exact rfl) (by exact rfl)) H)|(exact λH=>aA (lE (by exact rfl)) H)|(exact λH=>aA (lW (by exact rfl) (by exact rfl) (by omega)) H)|(exact λH=>aA (ni (by exact rfl)) H)|(exact λH=>aA (FP (by exact rfl) (by exact rfl)) H))|(apply YpE;first|(apply Yp15;first|exact λH=>y4 H|exact λH=>vz H)|(apply Yp16;first|exact λH=>yX H|exact λH=>yY H)|(apply Yp17;first|exact λH=>L9 H)|(apply Yp18;first|exact λH=>vw H)|(apply Yp19;first|exact λH=>oy H)|(exact λH=>sH H)|(exact λH=>L8 H)|(exact λH=>zH H))|(apply YpD;first|(exact λH=>qM H)|(exact λH=>qF H)|(exact λH=>qV H)|(exact λH=>qW H)|(exact λH=>qI H)|(exact λH=>qC H)|(exact λH=>qK H)|(exact λH=>qJ H)|(exact λH=>qL H)|(exact λH=>qN H)|(exact λH=>qO H)|(exact λH=>vt H)|(exact λH=>cD rfl rfl rfl (by exact rfl) (by exact rfl) (by exact rfl) (Br (by exact rfl)) H)|(exact λH=>cD rfl rfl rfl (by exact rfl) (by exact rfl) (by exact rfl) (MH (by exact rfl)) H)|(exact λH=>cD rfl rfl rfl (by exact rfl) (by exact rfl) (by exact rfl) (xz (by exact rfl) (by exact rfl)) H)|(exact λH=>cD rfl rfl rfl (by exact rfl) (by exact rfl) (by exact rfl) (CN (by exact rfl) (by exact rfl)) H)|(exact λH=>cD rfl rfl rfl (by exact rfl) (by exact rfl) (by exact rfl) (ni (by exact rfl)) H)|(exact λH=>cD rfl rfl rfl (by exact rfl) (by exact rfl) (by exact rfl) (CP (by exact rfl) (by exact rfl)) H)|(exact λH=>cD rfl rfl rfl (by exact rfl) (by exact rfl) (by exact rfl) (CO (by exact rfl) (by exact rfl)) H))|(first|(apply Yp20;first|exact λH=>vE H|exact λH=>Eg H|exact λH=>TK H)|(apply Yp21;first|exact λH=>Nz H|exact λH=>Kz H|exact λH=>TI H)|(exact λH=>y1 H))):R->P:=s
theorem Yc2{P Q R:Prop}(s:Q->P:=by exact Yc1)(g:R->Q:=by exact Yc1):R->P:=λa=>s (g a)
theorem Yc3{P Q R:Prop}(s:Q->P:=by exact Yc1)(g:R->Q:=by exact Yc2):R->P:=λa=>s (g a)
theorem Yc4{P Q R:Prop}(s:Q->P:=by exact Yc1)(g:R->Q:=by exact Yc3):R->P:=λa=>s (g a)
theorem Yc5{P Q R:Prop}(s:Q->P:=by exact Yc1)(g:R->Q:=by exact Yc4):R->P:=λa=>s (g a)
theorem Yc6{P Q R:Prop}(s:Q->P:=by exact Yc1)(g:R->Q:=by exact Yc5):R->P:=λa=>s (g a)
theorem Yc7{P Q R:Prop}(s:Q->P:=by exact Yc1)(g:R->Q:=by exact Yc6):R->P:=λa=>s (g a)
theorem Yc8{P Q R:Prop}(s:Q->P:=by exact Yc1)(g:R->Q:=by exact Yc7):R->P:=λa=>s (g a)
theorem Yc9{P Q R:Prop}(s:Q->P:=by exact Yc1)(g:R->Q:=by exact Yc8):R->P:=λa=>s (g a)
theorem Yc10{P Q R:Prop}(s:Q->P:=by exact Yc1)(g:R->Q:=by exact Yc9):R->P:=λa=>s (g a)
theorem Yc11{P Q R:Prop}(s:Q->P:=by exact Yc1)(g:R->Q:=by exact Yc10):R->P:=λa=>s (g a)
theorem Yc12{P Q R:Prop}(s:Q->P:=by exact Yc1)(g:R->Q:=by exact Yc11):R->P:=λa=>s (g a)
theorem Yc13{P Q R:Prop}(s:Q->P:=by exact Yc1)(g:R->Q:=by exact Yc12):R->P:=λa=>s (g a)
theorem Yc14{P Q R:Prop}(s:Q->P:=by exact Yc1)(g:R->Q:=by exact Yc13):R->P:=λa=>s (g a)
theorem Yc15{P Q R:Prop}(s:Q->P:=by exact Yc1)(g:R->Q:=by exact Yc14):R->P:=λa=>s (g a)
theorem Yc16{P Q R:Prop}(s:Q->P:=by exact Yc1)(g:R->Q:=by exact Yc15):R->P:=λa=>s (g a)
theorem Yc17{P Q R:Prop}(s:Q->P:=by exact Yc1)(g:R->Q:=by exact Yc16):R->P:=λa=>s (g a)
theorem Yc18{P Q R:Prop}(s:Q->P:=by exact Yc1)(g:R->Q:=by exact Yc17):R->P:=λa=>s (g a)
theorem Yc19{P Q R:Prop}(s:Q->P:=by exact Yc1)(g:R->Q:=by exact Yc18):R->P:=λa=>s (g a)
theorem Yc20{P Q R:Prop}(s:Q->P:=by exact Yc1)(g:R->Q:=by exact Yc19):R->P:=λa=>s (g a)
theorem Yc21{P Q R:Prop}(s:Q->P:=by exact Yc1)(g:R->Q:=by exact Yc20):R->P:=λa=>s (g a)
theorem Yc22{P Q R:Prop}(s:Q->P:=by exact Yc1)(g:R->Q:=by exact Yc21):R->P:=λa=>s (g a)
theorem Yc23{P Q R:Prop}(s:Q->P:=by exact Yc1)(g:R->Q:=by exact Yc22):R->P:=λa=>s (g a)
theorem Yc24{P Q R:Prop}(s:Q->P:=by exact Yc1)(g:R->Q:=by exact Yc23):R->P:=λa=>s (g a)
theorem Yc25{P Q R:Prop}(s:Q->P:=by exact Yc1)(g:R->Q:=by exact Yc24):R->P:=λa=>s (g a)
theorem Yc26{P Q R:Prop}(s:Q->P:=by exact Yc1)(g:R->Q:=by exact Yc25):R->P:=λa=>s (g a)
theorem Yc27{P Q R:Prop}(s:Q->P:=by exact Yc1)(g:R->Q:=by exact Yc26):R->P:=λa=>s (g a)
theorem Yc28{P Q R:Prop}(s:Q->P:=by exact Yc1)(g:R->Q:=by exact Yc27):R->P:=λa=>s (g a)
theorem Yc29{P Q R:Prop}(s:Q->P:=by exact Yc1)(g:R->Q:=by exact Yc28):R->P:=λa=>s (g a)
theorem Yc30{P Q R:Prop}(s:Q->P:=by exact Yc1)(g:R->Q:=by exact Yc29):R->P:=λa=>s (g a)
theorem Yc31{P Q R:Prop}(s:Q->P:=by exact Yc1)(g:R->Q:=by exact Yc30):R->P:=λa=>s (g a)
theorem Yc32{P Q R:Prop}(s:Q->P:=by exact Yc1)(g:R->Q:=by exact Yc31):R->P:=λa=>s (g a)
theorem Yc33{P Q R:Prop}(s:Q->P:=by exact Yc1)(g:R->Q:=by exact Yc32):R->P:=λa=>s (g a)
theorem Yc34{P Q R:Prop}(s:Q->P:=by exact Yc1)(g:R->Q:=by exact Yc33):R->P:=λa=>s (g a)
theorem Yc35{P Q R:Prop}(s:Q->P:=by exact Yc1)(g:R->Q:=by exact Yc34):R->P:=λa=>s (g a)
theorem Yc36{P Q R:Prop}(s:Q->P:=by exact Yc1)(g:R->Q:=by exact Yc35):R->P:=λa=>s (g a)
theorem Yc37{P Q R:Prop}(s:Q->P:=by exact Yc1)(g:R->Q:=by exact Yc36):R->P:=λa=>s (g a)
theorem Yc38{P Q R:Prop}(s:Q->P:=by exact Yc1)(g:R->Q:=by exact Yc37):R->P:=λa=>s (g a)
theorem Yc39{P Q R:Prop}(s:Q->P:=by exact Yc1)(g:R->Q:=by exact Yc38):R->P:=λa=>s (g a)
theorem Yc40{P Q R:Prop}(s:Q->P:=by exact Yc1)(g:R->Q:=by exact Yc39):R->P:=λa=>s (g a)
theorem Y2{P R:Prop}(H:R)(s:R->P:=by exact Yc2):P:=s H
theorem Y3{P R:Prop}(H:R)(s:R->P:=by exact Yc3):P:=s H
theorem Y4{P R:Prop}(H:R)(s:R->P:=by exact Yc4):P:=s H
theorem Y5{P R:Prop}(H:R)(s:R->P:=by exact Yc5):P:=s H
theorem Y6{P R:Prop}(H:R)(s:R->P:=by exact Yc6):P:=s H
theorem Y7{P R:Prop}(H:R)(s:R->P:=by exact Yc7):P:=s H
theorem Y8{P R:Prop}(H:R)(s:R->P:=by exact Yc8):P:=s H
theorem Y9{P R:Prop}(H:R)(s:R->P:=by exact Yc9):P:=s H
theorem Y10{P R:Prop}(H:R)(s:R->P:=by exact Yc10):P:=s H
theorem Y11{P R:Prop}(H:R)(s:R->P:=by exact Yc11):P:=s H
theorem Y12{P R:Prop}(H:R)(s:R->P:=by exact Yc12):P:=s H
theorem Y13{P R:Prop}(H:R)(s:R->P:=by exact Yc13):P:=s H
theorem Y14{P R:Prop}(H:R)(s:R->P:=by exact Yc14):P:=s H
theorem Y15{P R:Prop}(H:R)(s:R->P:=by exact Yc15):P:=s H
theorem Y16{P R:Prop}(H:R)(s:R->P:=by exact Yc16):P:=s H
theorem Y17{P R:Prop}(H:R)(s:R->P:=by exact Yc17):P:=s H
theorem Y18{P R:Prop}(H:R)(s:R->P:=by exact Yc18):P:=s H
theorem Y19{P R:Prop}(H:R)(s:R->P:=by exact Yc19):P:=s H
theorem Y20{P R:Prop}(H:R)(s:R->P:=by exact Yc20):P:=s H
theorem Y21{P R:Prop}(H:R)(s:R->P:=by exact Yc21):P:=s H
theorem Y22{P R:Prop}(H:R)(s:R->P:=by exact Yc22):P:=s H
theorem Y23{P R:Prop}(H:R)(s:R->P:=by exact Yc23):P:=s H
theorem Y24{P R:Prop}(H:R)(s:R->P:=by exact Yc24):P:=s H
theorem Y25{P R:Prop}(H:R)(s:R->P:=by exact Yc25):P:=s H
theorem Y26{P R:Prop}(H:R)(s:R->P:=by exact Yc26):P:=s H
theorem Y27{P R:Prop}(H:R)(s:R->P:=by exact Yc27):P:=s H
theorem Y28{P R:Prop}(H:R)(s:R->P:=by exact Yc28):P:=s H
theorem Y29{P R:Prop}(H:R)(s:R->P:=by exact Yc29):P:=s H
theorem Y30{P R:Prop}(H:R)(s:R->P:=by exact Yc30):P:=s H
theorem Y31{P R:Prop}(H:R)(s:R->P:=by exact Yc31):P:=s H
theorem Y32{P R:Prop}(H:R)(s:R->P:=by exact Yc32):P:=s H
theorem Y33{P R:Prop}(H:R)(s:R->P:=by exact Yc33):P:=s H
theorem Y34{P R:Prop}(H:R)(s:R->P:=by exact Yc34):P:=s H
theorem Y35{P R:Prop}(H:R)(s:R->P:=by exact Yc35):P:=s H
theorem Y36{P R:Prop}(H:R)(s:R->P:=by exact Yc36):P:=s H
theorem Y37{P R:Prop}(H:R)(s:R->P:=by exact Yc37):P:=s H
theorem Y38{P R:Prop}(H:R)(s:R->P:=by exact Yc38):P:=s H
theorem Y39{P R:Prop}(H:R)(s:R->P:=by exact Yc39):P:=s H
theorem Y40{P R:Prop}(H:R)(s:R->P:=by exact Yc40):P:=s H
end Go.A
end
