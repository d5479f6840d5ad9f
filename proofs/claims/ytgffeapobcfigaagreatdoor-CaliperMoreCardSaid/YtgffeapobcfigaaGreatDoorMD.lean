/- How a run is reckoned. -/
import Derived.Test.YtgffeapobcfigaaGreatDoorMC
import Derived.Test.YtgffeapobcfigaaGreatDoorMA
import Derived.Lib.Bytealg
import Derived.Below
import Derived.Test.YtgffeapobcfigaaGreatDoorME
set_option linter.all false
section
namespace Go.A
variable {P:Program}
def Tr.all(Q:Nat→af→Prop):Tr→Prop
 | .nil=>True
 | .node l k v r=>l.all Q∧Q k v∧r.all Q
theorem Tr.all_nil{Q:Nat→af→Prop}:Tr.all Q .nil:=trivial
theorem Tr.aa{Q:Nat→af→Prop}{l r:Tr}{k:Nat}{v:af}(h1:l.all Q)(h2:Q k v)(h3:r.all Q):Tr.all Q (.node l k v r):=⟨h1,h2,h3⟩
theorem Tr.sP{Q:Nat→af→Prop}:∀{t:Tr} {n:Nat} {v:af},t.all Q→t.get n=some v→Q n v
 | .nil,_,_,_,h=>by cases h
 | .node l k v r,n,u,ha,h=>by
   simp only[Tr.get,cond_eq_ite,beq_eq,decide_eq_true_eq]at h
   split at h
   ·rename_i e;subst e;cases h;exact ha.2.1
   ·split at h
    ·exact Tr.sP ha.1 h
    ·exact Tr.sP ha.2.2 h
def wE(P:Program)(f:Nat)(p:List Value→Heap→Option (Value×Heap)):Prop:=∀args h v h',p args h=some (v,h')→h.log=[]→AS h.next h h'∧∀μ w args',R P μ h w→LR μ args args'→mO P (gj P μ h w (.ret v) h') ((callFunc f args'.toArray).run P w)
inductive Entry (P:Program) (k:Nat):af→Prop
 |code {c rs fn ks}:P.funcs[k]? =some fn→aO P fn ks=some (.code c rs)→Entry P k (.code c rs)
 |jW {p}:wE P k p→Entry P k (.jW p)
theorem Entry.of{k:Nat}{fn:Func}{a:af}{ks:List (List Nat)}(h1:P.funcs[k]? =some fn)(h2:aO P fn ks=some a):Entry P k a:=by
 have h3:=h2
 unfold aO at h3
 split at h3
 ·split at h3
  ·cases h3
  ·split at h3
   ·cases h3;exact .code h1 h2
   ·cases h3
 ·cases h3
theorem oA{t:Tr}(hm:P.follows .mixedOrders=true)(h:t.all (Entry P)):dW P t.get where
 mixed:=hm
 code:=fun f c rs hf=>by
  have:=Tr.sP h hf
  cases this with
  |code h1 h2=>exact⟨_,_,h1,h2⟩
 jW:=fun f p args h0 v h' hf hp hl=>by
  have:=Tr.sP h hf
  cases this with
  |jW h1=>exact h1 args h0 v h' hp hl
theorem R.grow{μ:Mu}{h:Heap}{w w':World}(hR:R P μ h w)(hs:w.heap.size≤w'.heap.size)(hk:∀r,r<w.heap.size→w'.heap[r]? =w.heap[r]?)(hsm:Same w w'):R P μ h w'∧St μ h w μ h w':=
 ⟨⟨hR.big,fun g o h1 h2=>let⟨k,a,b,c,x⟩:=hR.j0 g o h1 h2;⟨k,a,b,c,x.get (hk _ (hR.dom _ _ a).2)⟩,fun b o hb=>OR.mono (fun _ _ h=>h) rfl (fun k hk'=>hk _ (hR.dom _ _ hk').2) (hR.obj b o hb),hR.lt,fun b k hb=>⟨(hR.dom b k hb).1,Nat.lt_of_lt_of_le (hR.dom b k hb).2 hs⟩,hR.jO⟩,
   ⟨fun _ _=>rfl,hs,fun r hr _=>hk r hr,fun _ _ h=>h,fun r L h=>⟨L,(hk r (Array.getElem?_eq_some_iff.1 h).1).trans h, .refl L⟩,hsm⟩⟩
theorem D9{f:Nat}{fn:Func}(hf:P.funcs[f]? =some fn)(hn:fn.name≠ "runtime.NumGoroutine")(hb:fn.body.isSome=true)(args:Array Value)(w:World):(callFunc f args).run P w= .ok (.enter f args) w:=by
 cases hb':fn.body with
 |none=>rw[hb']at hb;cases hb
 |some b=>simp[callFunc,program,Sem.run,hf,hb',hn]
theorem jK{μ:Mu}{h:Heap}{w:World}{f:Nat}{fn:Func}(hf:P.funcs[f]? =some fn)(hn:fn.name≠ "runtime.NumGoroutine")(hb:fn.body.isSome=true){args:Array Value}{Q:Ending→World→Prop}(hc:Calls P f args w Q)
 {res:Res}{h':Heap}(hq:∀e w',Q e w'→gj P μ h w res h' e w'):mO P (gj P μ h w res h') ((callFunc f args).run P w):=by
 rw[D9 hf hn hb]
 exact callsIn_wide.2 (hc.mono hq)
theorem LR.two{μ:Mu}{x y:Value}{l:List Value}(h:LR μ [x,y] l):∃x' y',l=[x',y']∧VR μ x x'∧VR μ y y':=by
 cases h with
 |cons h1 h2=>cases h2 with
  |cons h2 h3=>cases h3;exact⟨_,_,rfl,h1,h2⟩
end Go.A
end
section
namespace Go.A
variable {T:Nat→Option af}
def Ev(T:Nat→Option af)(base:Nat)(rnd:Option Nat)(c:aY)(e:Env)(ds:Dfs)(h:Heap)(r:bw×Env×Dfs×Heap):Prop:=∃m,∀n,m≤n→cu T n base rnd c e ds h=some r
def EvO(T:Nat→Option af)(base:Nat)(rnd:Option Nat)(ops:List aW)(e:Env)(ds:Dfs)(h:Heap)(r:bw×Env×Dfs×Heap):Prop:=∃m,∀n,m≤n→gh T n base rnd ops e ds h=some r
def EvD(T:Nat→Option af)(base:Nat)(ops:List aW)(is bf:List Nat)(rs:List Rec)(e:Env)(h:Heap)(r:bw×Env×Heap):Prop:=∃m,∀n,m≤n→ew T n base ops is bf rs e h=some r
def EvF(T:Nat→Option af)(fn:Fn)(args:List Value)(h:Heap)(r:Res×Heap):Prop:=∃m,∀n,m≤n→fT T n fn args h=some r
def EvC(T:Nat→Option af)(f:Nat)(args:List Value)(h:Heap)(r:Res×Heap):Prop:=∃m,∀n,m≤n→iE T n f args h=some r
def XW(T:Nat→Option af)(base:Nat)(rnd:Option Nat)(c:aY)(e:Env)(ds:Dfs)(h:Heap)(Q:bw→Env→Dfs→Heap→Prop):Prop:=∃x e' ds' h',Ev T base rnd c e ds h (x,e',ds',h')∧Q x e' ds' h'
def FW(T:Nat→Option af)(fn:Fn)(args:List Value)(h:Heap)(Q:Res→Heap→Prop):Prop:=∃r h',EvF T fn args h (r,h')∧Q r h'
def CW(T:Nat→Option af)(f:Nat)(args:List Value)(h:Heap)(Q:Res→Heap→Prop):Prop:=∃r h',EvC T f args h (r,h')∧Q r h'
theorem XW.mono{base:Nat}{rnd:Option Nat}{c:aY}{e:Env}{ds:Dfs}{h:Heap}{Q Q':bw→Env→Dfs→Heap→Prop}(H:XW T base rnd c e ds h Q)(hq:∀x e ds h,Q x e ds h→Q' x e ds h):XW T base rnd c e ds h Q':=
 let⟨x,e',ds',h',h1,h2⟩:=H;⟨x,e',ds',h',h1,hq _ _ _ _ h2⟩
theorem CW.mono{f:Nat}{args:List Value}{h:Heap}{Q Q':Res→Heap→Prop}(H:CW T f args h Q)(hq:∀r h,Q r h→Q' r h):CW T f args h Q':=
 let⟨r,h',h1,h2⟩:=H;⟨r,h',h1,hq _ _ h2⟩
abbrev XQ:=bw→Env→Dfs→Heap→Prop
def kR(keep:List Nat)(Q:XQ):XQ:=fun x e ds h=>match x with
 | .normal=>Q .normal (bE e keep) ds h
 |x=>Q x e ds h
def kB(id:Nat)(Q:XQ):XQ:=fun x e ds h=>match x with
 | .exit i=>(i=id→Q .normal e ds h)∧(i≠id→Q (.exit i) e ds h)
 |x=>Q x e ds h
def kS(K:Env→Dfs→Heap→Prop)(Q:XQ):XQ:=fun x e ds h=>match x with
 | .normal=>K e ds h
 |x=>Q x e ds h
def kO(K:Env→Dfs→Heap→Prop)(Q:XQ)(base:Nat)(dst:Option Nat)(e:Env)(ds:Dfs)(log:List Nat):Res→Heap→Prop:=fun r h2=>match r with
 | .ret v=>K (bM e dst v) ds {h2 with log:=aC base log h2.log}
 | .panic v=>Q (.panic v) e ds {h2 with log:=aC base log h2.log}
def kD(K:List Rec→Env→Heap→Prop)(base:Nat)(mask:Nat)(rs:List Rec)(dst:Option Nat)(e:Env)(log:List Nat):Res→Heap→Prop:=fun r h2=>match r with
 | .ret v=>match aZ {h2 with log:=aC base log h2.log} base h2.log mask rs with
   |some rs'=>K rs' (bM e dst v) {h2 with log:=aC base log h2.log}
   |none=>False
 | .panic _=>False
def wpA(T:Nat→Option af)(base:Nat)(rnd:Option Nat)(wpO:Env→Dfs→Heap→Prop)(Q:XQ)(dst:Option Nat)(e:Env)(ds:Dfs)(h:Heap):Option cI→Prop
 |some (.val v h')=>wpO (bM e dst v) ds h'
 |some (.call fn args h')=>FW T fn args {h' with log:=[]} (kO wpO Q base dst e ds h'.log)
 |some (.jo f args)=>rnd=none∧wpO (bM e dst (.tuple #[])) ((f,args)::ds) h
 |some (.panic v h')=>Q (.panic v) e ds h'
 |_=>False
def wpG(A:Prop)(B:Prop):Option Bool→Prop
 |some c=>(c=false→B)∧(c=true→A)
 |none=>False
def wpO(T:Nat→Option af)(base:Nat)(rnd:Option Nat)(Q:XQ):List aW→Env→Dfs→Heap→Prop
 |[],e,ds,h=>Q .normal e ds h
 |o::os,e,ds,h=>wpG (wpA T base rnd (wpO T base rnd Q os) Q o.dst e ds h (aop h base e o.op)) (wpO T base rnd Q os (bM e o.dst (.tuple #[])) ds h) (bC e o.guard)
def Qc(T:Nat→Option af)(base:Nat)(wpD:List Rec→Env→Heap→Prop)(i:Nat)(o:aW)(mask:Nat)(rs:List Rec)(er e:Env)(h:Heap):Prop:=
 match jc o.op with
 |true=>
  match aop h base er o.op with
  |some (.val v h')=>
   match dn o.op with
   |true=>lY h' base rs=true∧wpD (⟨i,o,er,v, .made h.next⟩::rs) (bM e o.dst v) h'
   |false=>h'.next=h.next∧wpD (⟨i,o,er,v, .quiet⟩::rs) (bM e o.dst v) h
  |_=>False
 |false=>
  match aop {h with log:=[]} h.next er o.op with
  |some (.val v h2)=>match aZ {h2 with log:=aC base h.log h2.log} base h2.log mask rs with
   |some rs'=>wpD rs' (bM e o.dst v) {h2 with log:=aC base h.log h2.log}
   |none=>False
  |some (.call fn args _)=>FW T fn args {h with log:=[]} (kD wpD base mask rs o.dst e h.log)
  |_=>False
def wpD(T:Nat→Option af)(base:Nat)(ops:List aW)(bf:List Nat)(Q:Env→Heap→Prop):List Nat→List Rec→Env→Heap→Prop
 |[],_,e,h=>Q e h
 |i::is,rs,e,h=>
  match bH ops i,bH bf i with
  |some o,some mask=>wpG (Qc T base (wpD T base ops bf Q is) i o mask rs (bE e (bS o)) e h) (wpD T base ops bf Q is (⟨i,o,bE e (bS o), .tuple #[], .skip⟩::rs) (bM e o.dst (.tuple #[])) h) (bC (bE e (bS o)) o.guard)
  |_,_=>False
def wpC(A B:Prop):Option Value→Prop
 |some (.bool t)=>(t=true→A)∧(t=false→B)
 |_=>False
def wpE(T:Nat→Option af)(base:Nat)(rnd:Option Nat):aY→XQ→Env→Dfs→Heap→Prop
 | .skip,Q,e,ds,h=>Q .normal e ds h
 | .region ops keep,Q,e,ds,h=>wpO T base rnd (kR keep Q) ops e ds h
 | .draw ops order bf keep,Q,e,ds,h=>wpD T base ops bf (fun e' h'=>Q .normal (bE e' keep) ds h') order [] e h
 | .seq a b,Q,e,ds,h=>wpE T base rnd a (kS (wpE T base rnd b Q) Q) e ds h
 | .cond c a b,Q,e,ds,h=>wpC (wpE T base rnd a Q e ds h) (wpE T base rnd b Q e ds h) (ev h e c)
 | .block id b,Q,e,ds,h=>wpE T base rnd b (kB id Q) e ds h
 | .loop b,Q,e,ds,h=>XW T base rnd (.loop b) e ds h Q
 | .rangeFunc f ps a b,Q,e,ds,h=>XW T base rnd (.rangeFunc f ps a b) e ds h Q
 | .scope b,Q,e,ds,h=>wpE T base rnd b Q e ds h
 | .rangeMap o i x k ou nx pr o2 k2 b,Q,e,ds,h=>XW T base rnd (.rangeMap o i x k ou nx pr o2 k2 b) e ds h Q
 | .exit id,Q,e,ds,h=>Q (.exit id) e ds h
 | .ret,Q,e,ds,h=>Q .ret e ds h
theorem rN{base:Nat}{rnd:Option Nat}{Q:XQ}:∀{ops:List aW} {e:Env} {ds:Dfs} {h:Heap},wpO T base rnd Q ops e ds h→∃x e' ds' h',EvO T base rnd ops e ds h (x,e',ds',h')∧Q x e' ds' h'
 |[],e,ds,h,H=>⟨.normal,e,ds,h,⟨1,fun n hn=>by obtain⟨k,rfl⟩:∃k,n=k+1:=⟨n-1,by omega⟩;simp only[gh]⟩,H⟩
 |o::os,e,ds,h,H=>by
  simp only[wpO]at H
  unfold wpG at H
  split at H
  ·rename_i c hc
   cases c with
   |false=>
    obtain⟨x,e',ds',h',⟨m,h1⟩,h2⟩:=rN (H.1 rfl)
    exact⟨x,e',ds',h',⟨m+1,fun n hn=>by
     obtain⟨k,rfl⟩:∃k,n=k+1:=⟨n-1,by omega⟩
     simp only[gh,hc];exact h1 k (by omega)⟩,h2⟩
   |true=>
    have H:=H.2 rfl
    unfold wpA at H
    split at H
    ·rename_i v h3 ho
     obtain⟨x,e',ds',h',⟨m,h1⟩,h2⟩:=rN H
     exact⟨x,e',ds',h',⟨m+1,fun n hn=>by
      obtain⟨k,rfl⟩:∃k,n=k+1:=⟨n-1,by omega⟩
      simp only[gh,hc,ho];exact h1 k (by omega)⟩,h2⟩
    ·rename_i fn args h3 ho
     obtain⟨r,h4,⟨m1,hf⟩,H⟩:=H
     cases r with
     |ret v=>
      obtain⟨x,e',ds',h',⟨m,h1⟩,h2⟩:=rN H
      exact⟨x,e',ds',h',⟨m+m1+1,fun n hn=>by
       obtain⟨k,rfl⟩:∃k,n=k+1:=⟨n-1,by omega⟩
       simp only[gh,hc,ho,hf k (by omega)];exact h1 k (by omega)⟩,h2⟩
     |panic v=>
      exact⟨_,_,_,_,⟨m1+1,fun n hn=>by
       obtain⟨k,rfl⟩:∃k,n=k+1:=⟨n-1,by omega⟩
       simp only[gh,hc,ho,hf k (by omega)]⟩,H⟩
    ·rename_i f args ho
     obtain⟨hr,H⟩:=H
     subst hr
     obtain⟨x,e',ds',h',⟨m,h1⟩,h2⟩:=rN H
     exact⟨x,e',ds',h',⟨m+1,fun n hn=>by
      obtain⟨k,rfl⟩:∃k,n=k+1:=⟨n-1,by omega⟩
      simp only[gh,hc,ho];exact h1 k (by omega)⟩,h2⟩
    ·rename_i v h3 ho
     exact⟨_,_,_,_,⟨1,fun n hn=>by
      obtain⟨k,rfl⟩:∃k,n=k+1:=⟨n-1,by omega⟩
      simp only[gh,hc,ho]⟩,H⟩
    ·exact H.elim
  ·exact H.elim
theorem BI{base:Nat}{ops:List aW}{bf:List Nat}{Q:Env→Heap→Prop}:∀{is:List Nat} {rs:List Rec} {e:Env} {h:Heap},wpD T base ops bf Q is rs e h→∃e' h',EvD T base ops is bf rs e h (.normal,e',h')∧Q e' h'
 |[],rs,e,h,H=>⟨e,h,⟨1,fun n hn=>by obtain⟨k,rfl⟩:∃k,n=k+1:=⟨n-1,by omega⟩;simp only[ew]⟩,H⟩
 |i::is,rs,e,h,H=>by
  simp only[wpD]at H
  split at H
  ·rename_i o mask ho hm
   unfold wpG at H
   split at H
   ·rename_i c hc
    have fin:∀{rs':List Rec} {e1:Env} {h1:Heap},wpD T base ops bf Q is rs' e1 h1→(∃m,∀n,m≤n→∀r,ew T n base ops is bf rs' e1 h1=some r→ew T (n+1) base ops (i::is) bf rs e h=some r)→∃e' h',EvD T base ops (i::is) bf rs e h (.normal,e',h')∧Q e' h':=fun hw ⟨m0,hs⟩=>by
     obtain⟨e',h',⟨m,h1⟩,h2⟩:=BI hw
     exact⟨e',h',⟨m+m0+1,fun n hn=>by
      obtain⟨k,rfl⟩:∃k,n=k+1:=⟨n-1,by omega⟩
      exact hs k (by omega) _ (h1 k (by omega))⟩,h2⟩
    cases c with
    |false=>
     exact fin (H.1 rfl) ⟨0,fun n _ r hr=>by simp only[ew,ho,hm,hc];exact hr⟩
    |true=>
     have H:=H.2 rfl
     unfold Qc at H
     split at H
     ·rename_i he
      split at H
      ·rename_i v h3 hop
       split at H
       ·rename_i hnw
        exact fin H.2 ⟨0,fun n _ r hr=>by simp only[ew,ho,hm,hc,he,hop,hnw,H.1,cond_true];exact hr⟩
       ·rename_i hnw
        exact fin H.2 ⟨0,fun n _ r hr=>by
         have hb:Nat.beq h3.next h.next=true:=by rw[beq_eq];simpa using H.1
         simp only[ew,ho,hm,hc,he,hop,hnw,hb,cond_true,cond_false];exact hr⟩
      ·exact H.elim
     ·rename_i he
      split at H
      ·rename_i v h3 hop
       split at H
       ·rename_i rs' hrs
        exact fin H ⟨0,fun n _ r hr=>by simp only[ew,ho,hm,hc,he,hop,hrs,cond_false];exact hr⟩
       ·exact H.elim
      ·rename_i fn args h3 hop
       obtain⟨r,h4,⟨m1,hf⟩,H⟩:=H
       unfold kD at H
       split at H
       ·rename_i v
        split at H
        ·rename_i rs' hrs
         exact fin H ⟨m1,fun n hn r hr=>by simp only[ew,ho,hm,hc,he,hop,hf n hn,hrs,cond_false];exact hr⟩
        ·exact H.elim
       ·exact H.elim
      ·exact H.elim
   ·exact H.elim
  ·exact H.elim
theorem pO{base:Nat}{rnd:Option Nat}:∀{c:aY} {Q:XQ} {e:Env} {ds:Dfs} {h:Heap},wpE T base rnd c Q e ds h→XW T base rnd c e ds h Q
 | .skip,Q,e,ds,h,H=>⟨_,_,_,_,⟨1,fun n hn=>by obtain⟨k,rfl⟩:∃k,n=k+1:=⟨n-1,by omega⟩;simp only[cu]⟩,H⟩
 | .exit i,Q,e,ds,h,H=>⟨_,_,_,_,⟨1,fun n hn=>by obtain⟨k,rfl⟩:∃k,n=k+1:=⟨n-1,by omega⟩;simp only[cu]⟩,H⟩
 | .ret,Q,e,ds,h,H=>⟨_,_,_,_,⟨1,fun n hn=>by obtain⟨k,rfl⟩:∃k,n=k+1:=⟨n-1,by omega⟩;simp only[cu]⟩,H⟩
 | .loop b,Q,e,ds,h,H=>H
 | .rangeFunc f ps a b,Q,e,ds,h,H=>H
 | .rangeMap o i x k ou nx pr o2 k2 b,Q,e,ds,h,H=>H
 | .scope b,Q,e,ds,h,H=>by
   obtain⟨x,e',ds',h',⟨m,h1⟩,h2⟩:=pO (c:=b) H
   exact⟨_,_,_,_,⟨m+1,fun n hn=>by
    obtain⟨k,rfl⟩:∃k,n=k+1:=⟨n-1,by omega⟩
    simp only[cu,h1 k (by omega)]⟩,h2⟩
 | .region ops keep,Q,e,ds,h,H=>by
   obtain⟨x,e',ds',h',⟨m,h1⟩,h2⟩:=rN H
   cases x with
   |normal=>exact⟨_,_,_,_,⟨m+1,fun n hn=>by
    obtain⟨k,rfl⟩:∃k,n=k+1:=⟨n-1,by omega⟩
    simp only[cu,h1 k (by omega)]⟩,h2⟩
   |_=>exact⟨_,_,_,_,⟨m+1,fun n hn=>by
     obtain⟨k,rfl⟩:∃k,n=k+1:=⟨n-1,by omega⟩
     simp only[cu,h1 k (by omega)]⟩,h2⟩
 | .draw ops order bf keep,Q,e,ds,h,H=>by
   obtain⟨e',h',⟨m,h1⟩,h2⟩:=BI H
   exact⟨_,_,_,_,⟨m+1,fun n hn=>by
    obtain⟨k,rfl⟩:∃k,n=k+1:=⟨n-1,by omega⟩
    simp only[cu,h1 k (by omega)]⟩,h2⟩
 | .seq a b,Q,e,ds,h,H=>by
   obtain⟨x,e',ds',h',⟨m,h1⟩,h2⟩:=pO (c:=a) H
   cases x with
   |normal=>
    obtain⟨x2,e2,ds2,h3,⟨m2,h4⟩,h5⟩:=pO (c:=b) h2
    exact⟨_,_,_,_,⟨m+m2+1,fun n hn=>by
     obtain⟨k,rfl⟩:∃k,n=k+1:=⟨n-1,by omega⟩
     simp only[cu,h1 k (by omega)];exact h4 k (by omega)⟩,h5⟩
   |_=>exact⟨_,_,_,_,⟨m+1,fun n hn=>by
     obtain⟨k,rfl⟩:∃k,n=k+1:=⟨n-1,by omega⟩
     simp only[cu,h1 k (by omega)]⟩,h2⟩
 | .cond c a b,Q,e,ds,h,H=>by
   simp only[wpE]at H
   unfold wpC at H
   split at H
   ·rename_i t ht
    cases t with
    |true=>
     obtain⟨x,e',ds',h',⟨m,h1⟩,h2⟩:=pO (c:=a) (H.1 rfl)
     exact⟨_,_,_,_,⟨m+1,fun n hn=>by
      obtain⟨k,rfl⟩:∃k,n=k+1:=⟨n-1,by omega⟩
      simp only[cu,ht];exact h1 k (by omega)⟩,h2⟩
    |false=>
     obtain⟨x,e',ds',h',⟨m,h1⟩,h2⟩:=pO (c:=b) (H.2 rfl)
     exact⟨_,_,_,_,⟨m+1,fun n hn=>by
      obtain⟨k,rfl⟩:∃k,n=k+1:=⟨n-1,by omega⟩
      simp only[cu,ht];exact h1 k (by omega)⟩,h2⟩
   ·exact H.elim
 | .block id b,Q,e,ds,h,H=>by
   obtain⟨x,e',ds',h',⟨m,h1⟩,h2⟩:=pO (c:=b) H
   cases x with
   |exit i=>
    by_cases hi:i=id
    ·exact⟨_,_,_,_,⟨m+1,fun n hn=>by
      obtain⟨k,rfl⟩:∃k,n=k+1:=⟨n-1,by omega⟩
      have hb:Nat.beq i id=true:=by rw[beq_eq];simpa using hi
      simp only[cu,h1 k (by omega),hb,cond_true]⟩,h2.1 hi⟩
    ·exact⟨_,_,_,_,⟨m+1,fun n hn=>by
      obtain⟨k,rfl⟩:∃k,n=k+1:=⟨n-1,by omega⟩
      have hb:Nat.beq i id=false:=by rw[beq_eq];simpa using hi
      simp only[cu,h1 k (by omega),hb,cond_false]⟩,h2.2 hi⟩
   |_=>exact⟨_,_,_,_,⟨m+1,fun n hn=>by
     obtain⟨k,rfl⟩:∃k,n=k+1:=⟨n-1,by omega⟩
     simp only[cu,h1 k (by omega)]⟩,h2⟩
theorem XW.loop{base:Nat}{rnd:Option Nat}{b:aY}{Q:bw→Env→Dfs→Heap→Prop}(I:Nat→Env→Dfs→Heap→Prop)
 (hr:∀k e ds h,I k e ds h→XW T base rnd b e ds h fun x e' ds' h'=>match x with| .normal=>∃k',k'<k∧I k' e' ds' h'|x=>Q x e' ds' h'):
 ∀{k:Nat} {e:Env} {ds:Dfs} {h:Heap},I k e ds h→XW T base rnd (.loop b) e ds h Q:=by
 intro k
 induction k using Nat.strongRecOn with
 |ind k ih=>
  intro e ds h hI
  obtain⟨x,e',ds',h',⟨m,h1⟩,h2⟩:=hr k e ds h hI
  cases x with
  |normal=>
   obtain⟨k',hk,hI'⟩:=h2
   obtain⟨x2,e2,ds2,h3,⟨m2,h4⟩,h5⟩:=ih k' hk hI'
   exact⟨_,_,_,_,⟨m+m2+1,fun n hn=>by
    obtain⟨k,rfl⟩:∃k,n=k+1:=⟨n-1,by omega⟩
    simp only[cu,h1 k (by omega)];exact h4 k (by omega)⟩,h5⟩
  |_=>exact⟨_,_,_,_,⟨m+1,fun n hn=>by
    obtain⟨k,rfl⟩:∃k,n=k+1:=⟨n-1,by omega⟩
    simp only[cu,h1 k (by omega)]⟩,h2⟩
theorem XW.Ry{base:Nat}{rnd:Option Nat}{a b:aY}{e:Env}{ds:Dfs}{h:Heap}{Q:bw→Env→Dfs→Heap→Prop}
 (H:XW T base rnd a e ds h fun x e' ds' h'=>match x with| .normal=>XW T base rnd b e' ds' h' Q|x=>Q x e' ds' h'):XW T base rnd (.seq a b) e ds h Q:=by
 obtain⟨x,e',ds',h',⟨m,h1⟩,h2⟩:=H
 cases x with
 |normal=>
  obtain⟨x2,e2,ds2,h3,⟨m2,h4⟩,h5⟩:=h2
  exact⟨_,_,_,_,⟨m+m2+1,fun n hn=>by
   obtain⟨k,rfl⟩:∃k,n=k+1:=⟨n-1,by omega⟩
   simp only[cu,h1 k (by omega)];exact h4 k (by omega)⟩,h5⟩
 |_=>exact⟨_,_,_,_,⟨m+1,fun n hn=>by
   obtain⟨k,rfl⟩:∃k,n=k+1:=⟨n-1,by omega⟩
   simp only[cu,h1 k (by omega)]⟩,h2⟩
theorem FW.func{f:Nat}{args:List Value}{h:Heap}{Q:Res→Heap→Prop}(H:CW T f args h Q):FW T (.func f) args h Q:=by
 obtain⟨r,h',⟨m,h1⟩,h2⟩:=H
 exact⟨r,h',⟨m+1,fun n hn=>by
  obtain⟨k,rfl⟩:∃k,n=k+1:=⟨n-1,by omega⟩
  simp only[fT];exact h1 k (by omega)⟩,h2⟩
def u0(rs:List (Nat×Option (Option Nat)))(h:Heap)(Q:Res→Heap→Prop):bw→Env→Dfs→Heap→Prop:=fun x e ds h1=>
 match x with
 | .exit _=>False
 | .panic v=>match ds with
   |[]=>Q (.panic v) h1
   |_=>False
 |_=>match ds with
  |[]=>match bY h1 e rs with
   |some vs=>Q (.ret (eS vs)) (gcA h h1 (eS vs))
   |none=>False
  |_=>False
theorem CW.code{f:Nat}{args:List Value}{h:Heap}{Q:Res→Heap→Prop}{c:aY}{rs:List (Nat×Option (Option Nat))}(hf:T f=some (.code c rs))
 (H:XW T h.next none c (dV 0 args) [] h (u0 rs h Q)):CW T f args h Q:=by
 obtain⟨x,e,ds,h1,⟨m,he⟩,H⟩:=H
 unfold u0 at H
 cases x with
 |exit _=>exact H.elim
 |panic v=>
  dsimp only at H
  split at H
  ·refine⟨_,_,⟨m+2,fun n hn=> ?_⟩,H⟩
   obtain⟨k,rfl⟩:∃k,n=k+2:=⟨n-2,by omega⟩
   have:=he (k+1) (by omega)
   simp only[iE,this,mY,hf]
  ·exact H.elim
 |normal=>
  dsimp only at H
  split at H
  ·split at H
   ·rename_i vs hvs
    refine⟨_,_,⟨m+2,fun n hn=> ?_⟩,H⟩
    obtain⟨k,rfl⟩:∃k,n=k+2:=⟨n-2,by omega⟩
    have:=he (k+1) (by omega)
    simp only[iE,this,mY,hf,hvs]
   ·exact H.elim
  ·exact H.elim
 |ret=>
  dsimp only at H
  split at H
  ·split at H
   ·rename_i vs hvs
    refine⟨_,_,⟨m+2,fun n hn=> ?_⟩,H⟩
    obtain⟨k,rfl⟩:∃k,n=k+2:=⟨n-2,by omega⟩
    have:=he (k+1) (by omega)
    simp only[iE,this,mY,hf,hvs]
   ·exact H.elim
  ·exact H.elim
end Go.A
end
section
namespace Go.A
variable {T:Nat→Option af} {base:Nat} {rnd:Option Nat} {Q:XQ} {e:Env} {ds:Dfs} {h:Heap} {c:aY}
structure WE (T:Nat→Option af) (base:Nat) (rnd:Option Nat) (c:aY) (Q:XQ) (e:Env) (ds:Dfs) (h:Heap):Prop where
 ok:XW T base rnd c e ds h Q
structure WO (T:Nat→Option af) (base:Nat) (rnd:Option Nat) (Q:XQ) (ops:List aW) (e:Env) (ds:Dfs) (h:Heap):Prop where
 ok:∃x e' ds' h',EvO T base rnd ops e ds h (x,e',ds',h')∧Q x e' ds' h'
structure WD (T:Nat→Option af) (base:Nat) (ops:List aW) (bf:List Nat) (Q:Env→Heap→Prop) (is:List Nat) (rs:List Rec) (e:Env) (h:Heap):Prop where
 ok:∃e' h',EvD T base ops is bf rs e h (.normal,e',h')∧Q e' h'
structure KR (keep:List Nat) (Q:XQ) (x:bw) (e:Env) (ds:Dfs) (h:Heap):Prop where
 ok:kR keep Q x e ds h
structure KS (K:Env→Dfs→Heap→Prop) (Q:XQ) (x:bw) (e:Env) (ds:Dfs) (h:Heap):Prop where
 ok:kS K Q x e ds h
structure KB (i:Nat) (Q:XQ) (x:bw) (e:Env) (ds:Dfs) (h:Heap):Prop where
 ok:kB i Q x e ds h
structure KO (K:Env→Dfs→Heap→Prop) (Q:XQ) (base:Nat) (dst:Option Nat) (e:Env) (ds:Dfs) (log:List Nat) (r:Res) (h:Heap):Prop where
 ok:kO K Q base dst e ds log r h
structure KD (K:List Rec→Env→Heap→Prop) (base:Nat) (mask:Nat) (rs:List Rec) (dst:Option Nat) (e:Env) (log:List Nat) (r:Res) (h:Heap):Prop where
 ok:kD K base mask rs dst e log r h
theorem WE.of(H:wpE T base rnd c Q e ds h):WE T base rnd c Q e ds h:=⟨pO H⟩
theorem aH(H:Q .normal e ds h):WE T base rnd .skip Q e ds h:= .of H
theorem dw{i:Nat}(H:Q (.exit i) e ds h):WE T base rnd (.exit i) Q e ds h:= .of H
theorem aG(H:Q .ret e ds h):WE T base rnd .ret Q e ds h:= .of H
theorem ah{a b:aY}(H:WE T base rnd a (KS (WE T base rnd b Q) Q) e ds h):WE T base rnd (.seq a b) Q e ds h:=by
 refine⟨XW.Ry (H.ok.mono fun x e ds h hq=> ?_)⟩
 cases x<;>first|exact hq.ok.ok|exact hq.ok
theorem aJ{ops:List aW}{keep:List Nat}(H:WO T base rnd (KR keep Q) ops e ds h):WE T base rnd (.region ops keep) Q e ds h:=by
 obtain⟨x,e',ds',h',⟨m,h1⟩,⟨h2⟩⟩:=H.ok
 cases x with
 |normal=>exact⟨_,_,_,_,⟨m+1,fun n hn=>by
  obtain⟨k,rfl⟩:∃k,n=k+1:=⟨n-1,by omega⟩
  simp only[cu,h1 k (by omega)]⟩,h2⟩
 |_=>exact⟨_,_,_,_,⟨m+1,fun n hn=>by
   obtain⟨k,rfl⟩:∃k,n=k+1:=⟨n-1,by omega⟩
   simp only[cu,h1 k (by omega)]⟩,h2⟩
theorem aK{i:Nat}{b:aY}(H:WE T base rnd b (KB i Q) e ds h):WE T base rnd (.block i b) Q e ds h:=by
 obtain⟨x,e',ds',h',⟨m,h1⟩,⟨h2⟩⟩:=H.ok
 cases x with
 |exit j=>
  by_cases hi:j=i
  ·exact⟨_,_,_,_,⟨m+1,fun n hn=>by
    obtain⟨k,rfl⟩:∃k,n=k+1:=⟨n-1,by omega⟩
    have hb:Nat.beq j i=true:=by rw[beq_eq];simpa using hi
    simp only[cu,h1 k (by omega),hb,cond_true]⟩,h2.1 hi⟩
  ·exact⟨_,_,_,_,⟨m+1,fun n hn=>by
    obtain⟨k,rfl⟩:∃k,n=k+1:=⟨n-1,by omega⟩
    have hb:Nat.beq j i=false:=by rw[beq_eq];simpa using hi
    simp only[cu,h1 k (by omega),hb,cond_false]⟩,h2.2 hi⟩
 |_=>exact⟨_,_,_,_,⟨m+1,fun n hn=>by
   obtain⟨k,rfl⟩:∃k,n=k+1:=⟨n-1,by omega⟩
   simp only[cu,h1 k (by omega)]⟩,h2⟩
theorem CN{c:Operand}{a b:aY}{t:Bool}(hc:ev h e c=some (.bool t))(h1:t=true→WE T base rnd a Q e ds h)(h2:t=false→WE T base rnd b Q e ds h):WE T base rnd (.cond c a b) Q e ds h:=by
 cases t with
 |true=>
  obtain⟨x,e',ds',h',⟨m,q1⟩,q2⟩:=(h1 rfl).ok
  exact⟨_,_,_,_,⟨m+1,fun n hn=>by
   obtain⟨k,rfl⟩:∃k,n=k+1:=⟨n-1,by omega⟩
   simp only[cu,hc];exact q1 k (by omega)⟩,q2⟩
 |false=>
  obtain⟨x,e',ds',h',⟨m,q1⟩,q2⟩:=(h2 rfl).ok
  exact⟨_,_,_,_,⟨m+1,fun n hn=>by
   obtain⟨k,rfl⟩:∃k,n=k+1:=⟨n-1,by omega⟩
   simp only[cu,hc];exact q1 k (by omega)⟩,q2⟩
theorem K0{c:Operand}{a b:aY}(hc:ev h e c=some (.bool true))(h1:WE T base rnd a Q e ds h):WE T base rnd (.cond c a b) Q e ds h:=CN hc (fun _=>h1) (fun h=>by cases h)
theorem II{c:Operand}{a b:aY}(hc:ev h e c=some (.bool false))(h1:WE T base rnd b Q e ds h):WE T base rnd (.cond c a b) Q e ds h:=CN hc (fun h=>by cases h) (fun _=>h1)
theorem cV{ops:List aW}{is bf keep:List Nat}(H:WD T base ops bf (fun e' h'=>KR keep Q .normal e' ds h') is [] e h):WE T base rnd (.draw ops is bf keep) Q e ds h:=by
 obtain⟨e',h',⟨m,h1⟩,⟨h2⟩⟩:=H.ok
 exact⟨_,_,_,_,⟨m+1,fun n hn=>by
  obtain⟨k,rfl⟩:∃k,n=k+1:=⟨n-1,by omega⟩
  simp only[cu,h1 k (by omega)]⟩,h2⟩
theorem dG{b:aY}(I:Nat→Env→Dfs→Heap→Prop){k:Nat}(hI:I k e ds h)
 (hr:∀k e ds h,I k e ds h→WE T base rnd b (KS (fun e' ds' h'=>∃k',k'<k∧I k' e' ds' h') Q) e ds h):WE T base rnd (.loop b) Q e ds h:=
 ⟨XW.loop I (fun k e ds h hI=>((hr k e ds h hI).ok.mono fun x e ds h hq=>by cases x<;>exact hq.ok)) hI⟩
theorem WE.mono{c:aY}{Q':XQ}(H:WE T base rnd c Q' e ds h)(hq:∀x e ds h,Q' x e ds h→Q x e ds h):WE T base rnd c Q e ds h:=⟨H.ok.mono hq⟩
theorem Pc{keep:List Nat}{e2:Env}(he:bE e keep=e2)(H:Q .normal e2 ds h):KR keep Q .normal e ds h:=by subst he;exact⟨H⟩
theorem aV{K:Env→Dfs→Heap→Prop}(H:K e ds h):KS K Q .normal e ds h:=⟨H⟩
theorem eW{K:Env→Dfs→Heap→Prop}(H:Q .ret e ds h):KS K Q .ret e ds h:=⟨H⟩
theorem dQ{K:Env→Dfs→Heap→Prop}{i:Nat}(H:Q (.exit i) e ds h):KS K Q (.exit i) e ds h:=⟨H⟩
theorem ff{i:Nat}(H:Q .normal e ds h):KB i Q .normal e ds h:=⟨H⟩
theorem mU{i:Nat}(H:Q .ret e ds h):KB i Q .ret e ds h:=⟨H⟩
theorem iN{i:Nat}(H:Q .normal e ds h):KB i Q (.exit i) e ds h:=⟨⟨fun _=>H,fun h=>(h rfl).elim⟩⟩
theorem O9{i j:Nat}(hn:Nat.beq j i=false)(H:Q (.exit j) e ds h):KB i Q (.exit j) e ds h:=by
 rw[beq_eq]at hn
 simp only[decide_eq_false_iff_not]at hn
 exact⟨⟨fun h=>(hn h).elim,fun _=>H⟩⟩
theorem dN(H:Q .normal e ds h):WO T base rnd Q [] e ds h:=⟨rN (T:=T) (base:=base) (rnd:=rnd) (ops:=[]) H⟩
theorem an{dst:Option Nat}{op:AOp}{os:List aW}{v:Value}{h':Heap}(ho:aop h base e op=some (.val v h'))(H:WO T base rnd Q os (bM e dst v) ds h'):WO T base rnd Q (⟨dst,op,none⟩::os) e ds h:=by
 obtain⟨x,e',ds',h',⟨m,h1⟩,h2⟩:=H.ok
 exact⟨x,e',ds',h',⟨m+1,fun n hn=>by
  obtain⟨k,rfl⟩:∃k,n=k+1:=⟨n-1,by omega⟩
  simp only[gh,bC,ho];exact h1 k (by omega)⟩,h2⟩
theorem mM{dst:Option Nat}{op:AOp}{os:List aW}{fn:Fn}{args:List Value}{h':Heap}(ho:aop h base e op=some (.call fn args h'))(H:FW T fn args {h' with log:=[]} (KO (WO T base rnd Q os) Q base dst e ds h'.log)):WO T base rnd Q (⟨dst,op,none⟩::os) e ds h:=by
 obtain⟨r,h4,⟨m1,hf⟩,⟨H⟩⟩:=H
 cases r with
 |ret v=>
  obtain⟨x,e',ds',h',⟨m,h1⟩,h2⟩:=WO.ok H
  exact⟨x,e',ds',h',⟨m+m1+1,fun n hn=>by
   obtain⟨k,rfl⟩:∃k,n=k+1:=⟨n-1,by omega⟩
   simp only[gh,bC,ho,hf k (by omega)];exact h1 k (by omega)⟩,h2⟩
 |panic v=>
  exact⟨_,_,_,_,⟨m1+1,fun n hn=>by
   obtain⟨k,rfl⟩:∃k,n=k+1:=⟨n-1,by omega⟩
   simp only[gh,bC,ho,hf k (by omega)]⟩,H⟩
theorem P5{dst:Option Nat}{op:AOp}{os:List aW}{t:Nat}{b:Bool}(hg:geT e t=some (.bool b))(H:WO T base rnd Q (⟨dst,op,none⟩::os) e ds h):WO T base rnd Q (⟨dst,op,some (t,b)⟩::os) e ds h:=by
 obtain⟨x,e',ds',h',⟨m,h1⟩,h2⟩:=H.ok
 exact⟨x,e',ds',h',⟨m+1,fun n hn=>by
  obtain⟨k,rfl⟩:∃k,n=k+1:=⟨n-1,by omega⟩
  have:=h1 (k+1) (by omega)
  have hb:(b==b)=true:=by simp
  simp only[gh,bC]at this
  simp only[gh,bC,hg,hb];exact this⟩,h2⟩
theorem Nw{dst:Option Nat}{op:AOp}{os:List aW}{t:Nat}{b x:Bool}(hg:geT e t=some (.bool x))(hx:x= !b)(H:WO T base rnd Q os (bM e dst (.tuple #[])) ds h):WO T base rnd Q (⟨dst,op,some (t,b)⟩::os) e ds h:=by
 obtain⟨x',e',ds',h',⟨m,h1⟩,h2⟩:=H.ok
 exact⟨x',e',ds',h',⟨m+1,fun n hn=>by
  obtain⟨k,rfl⟩:∃k,n=k+1:=⟨n-1,by omega⟩
  have hb:(x==b)=false:=by subst hx;cases b<;>rfl
  simp only[gh,bC,hg,hb];exact h1 k (by omega)⟩,h2⟩
theorem dy{ops:List aW}{bf:List Nat}{rs:List Rec}{Q:Env→Heap→Prop}(H:Q e h):WD T base ops bf Q [] rs e h:=⟨BI (T:=T) (base:=base) (ops:=ops) (bf:=bf) (is:=[]) (rs:=rs) H⟩
theorem qB{ops:List aW}{bf:List Nat}{rs rs':List Rec}{Q:Env→Heap→Prop}{i:Nat}{is:List Nat}{e1:Env}{h1:Heap}(hs:∃m,∀n,m≤n→∀r,ew T n base ops is bf rs' e1 h1=some r→ew T (n+1) base ops (i::is) bf rs e h=some r)
 (H:WD T base ops bf Q is rs' e1 h1):WD T base ops bf Q (i::is) rs e h:=by
 obtain⟨e',h',⟨m,q1⟩,q2⟩:=H.ok
 obtain⟨m0,hs⟩:=hs
 exact⟨e',h',⟨m+m0+1,fun n hn=>by
  obtain⟨k,rfl⟩:∃k,n=k+1:=⟨n-1,by omega⟩
  exact hs k (by omega) _ (q1 k (by omega))⟩,q2⟩
theorem Nv{ops:List aW}{bf:List Nat}{rs:List Rec}{Q:Env→Heap→Prop}{i mask:Nat}{is:List Nat}{dst:Option Nat}{op:AOp}{g:Option (Nat×Bool)}{er:Env}(ho:bH ops i=some ⟨dst,op,g⟩)(hm:bH bf i=some mask)(he:bE e (bS ⟨dst,op,g⟩)=er)(hw:bC er g=some false)
 (H:WD T base ops bf Q is (⟨i,⟨dst,op,g⟩,er, .tuple #[], .skip⟩::rs) (bM e dst (.tuple #[])) h):WD T base ops bf Q (i::is) rs e h:=by
 subst he
 exact qB ⟨0,fun n _ r hr=>by simp only[ew,ho,hm,hw];exact hr⟩ H
theorem aM{ops:List aW}{bf:List Nat}{rs:List Rec}{Q:Env→Heap→Prop}{i mask:Nat}{is:List Nat}{dst:Option Nat}{op:AOp}{g:Option (Nat×Bool)}{er:Env}{v:Value}(ho:bH ops i=some ⟨dst,op,g⟩)(hm:bH bf i=some mask)(he:bE e (bS ⟨dst,op,g⟩)=er)(hw:bC er g=some true)
 (hq:jc op=true)(hn:dn op=false)(hop:aop h base er op=some (.val v h))(H:WD T base ops bf Q is (⟨i,⟨dst,op,g⟩,er,v, .quiet⟩::rs) (bM e dst v) h):WD T base ops bf Q (i::is) rs e h:=by
 subst he
 have hb:Nat.beq h.next h.next=true:=by rw[beq_eq];simp
 exact qB ⟨0,fun n _ r hr=>by simp only[ew,ho,hm,hw,hq,hop,hn,hb,cond_true,cond_false];exact hr⟩ H
theorem pN{ops:List aW}{bf:List Nat}{rs:List Rec}{Q:Env→Heap→Prop}{i mask:Nat}{is:List Nat}{dst:Option Nat}{op:AOp}{g:Option (Nat×Bool)}{er:Env}{v:Value}{h':Heap}(ho:bH ops i=some ⟨dst,op,g⟩)(hm:bH bf i=some mask)(he:bE e (bS ⟨dst,op,g⟩)=er)(hw:bC er g=some true)
 (hq:jc op=true)(hn:dn op=true)(hop:aop h base er op=some (.val v h'))(hrs:lY h' base rs=true)(H:WD T base ops bf Q is (⟨i,⟨dst,op,g⟩,er,v, .made h.next⟩::rs) (bM e dst v) h'):WD T base ops bf Q (i::is) rs e h:=by
 subst he
 exact qB ⟨0,fun n _ r hr=>by simp only[ew,ho,hm,hw,hq,hop,hn,hrs,cond_true];exact hr⟩ H
theorem Nu{ops:List aW}{bf:List Nat}{rs rs':List Rec}{Q:Env→Heap→Prop}{i mask:Nat}{is:List Nat}{dst:Option Nat}{op:AOp}{g:Option (Nat×Bool)}{er:Env}{v:Value}{h2:Heap}(ho:bH ops i=some ⟨dst,op,g⟩)(hm:bH bf i=some mask)(he:bE e (bS ⟨dst,op,g⟩)=er)(hw:bC er g=some true)
 (hq:jc op=false)(hop:aop {h with log:=[]} h.next er op=some (.val v h2))(hrs:aZ {h2 with log:=aC base h.log h2.log} base h2.log mask rs=some rs')
 (H:WD T base ops bf Q is rs' (bM e dst v) {h2 with log:=aC base h.log h2.log}):WD T base ops bf Q (i::is) rs e h:=by
 subst he
 exact qB ⟨0,fun n _ r hr=>by simp only[ew,ho,hm,hw,hq,hop,hrs,cond_false];exact hr⟩ H
theorem KZ{ops:List aW}{bf:List Nat}{rs:List Rec}{Q:Env→Heap→Prop}{i mask:Nat}{is:List Nat}{dst:Option Nat}{op:AOp}{g:Option (Nat×Bool)}{er:Env}{fn:Fn}{args:List Value}{h3:Heap}(ho:bH ops i=some ⟨dst,op,g⟩)(hm:bH bf i=some mask)(he:bE e (bS ⟨dst,op,g⟩)=er)(hw:bC er g=some true)
 (hq:jc op=false)(hop:aop {h with log:=[]} h.next er op=some (.call fn args h3))(H:FW T fn args {h with log:=[]} (KD (WD T base ops bf Q is) base mask rs dst e h.log)):WD T base ops bf Q (i::is) rs e h:=by
 subst he
 obtain⟨r,h4,⟨m1,hf⟩,⟨H⟩⟩:=H
 unfold kD at H
 split at H
 ·split at H
  ·rename_i rs' hrs
   exact qB ⟨m1,fun n hn r hr=>by simp only[ew,ho,hm,hw,hq,hop,hf n hn,hrs,cond_false];exact hr⟩ H
  ·exact H.elim
 ·exact H.elim
end Go.A
end
section
namespace Go.A
variable {T:Nat→Option af}
theorem je{base N:Nat}{rnd:Option Nat}{c:aY}{e:Env}{ds:Dfs}{h:Heap}{r:bw×Env×Dfs×Heap}(H:∀n,(ni T (n+N)).exec base rnd c e ds h=some r):Ev T base rnd c e ds h r:=
 ⟨N,fun n hn=>by
  have:=H (n-N)
  rw[B6,Fy,show n-N+N=n by omega]at this
  exact this⟩
theorem jy{base:Nat}{rnd:Option Nat}{c:aY}{e e1:Env}{ds ds1:Dfs}{h h1:Heap}{r:bw×Env×Dfs×Heap}(hc:c= .seq (cL c) (cR c))(H1:Ev T base rnd (cL c) e ds h (.normal,e1,ds1,h1))(H2:Ev T base rnd (cR c) e1 ds1 h1 r):Ev T base rnd c e ds h r:=by
 obtain⟨m1,q1⟩:=H1
 obtain⟨m2,q2⟩:=H2
 refine⟨m1+m2+1,fun n hn=> ?_⟩
 obtain⟨k,rfl⟩:∃k,n=k+1:=⟨n-1,by omega⟩
 rw[hc]
 simp only[cu,q1 k (by omega)]
 exact q2 k (by omega)
theorem CW.Rt{f:Nat}{args:List Value}{h:Heap}{Q:Res→Heap→Prop}{c:aY}{rs:List (Nat×Option (Option Nat))}{x:bw}{e:Env}{ds:Dfs}{h1:Heap}(hf:T f=some (.code c rs))(H:Ev T h.next none c (dV 0 args) [] h (x,e,ds,h1))(hq:u0 rs h Q x e ds h1):CW T f args h Q:=
 CW.code hf ⟨x,e,ds,h1,H,hq⟩
theorem R.none{P:Program}{w:World}{n:Nat}(hn:P.globals.size≤n):R P (fun _=>none) ⟨[],n,[]⟩ w:=
 {big:=hn
  j0:=fun g o _ h=>by cases h
  obj:=fun b o h=>by cases h
  lt:=fun b o h=>by cases h
  dom:=fun b k h=>by cases h
  jO:=fun b b' o o' k k' _ h=>by cases h}
end Go.A
end
section
namespace Go.A
variable {T:Nat→Option af} {base:Nat} {rnd:Option Nat} {Q:XQ} {e:Env} {ds:Dfs} {h:Heap}
theorem Heap.gr(h:Heap)(o:bJ):(h.push o).get h.next=some o:=by rw[Heap.di,if_pos rfl]
theorem Heap.fJ{h:Heap}{o:bJ}{x:Nat}(hx:x<h.next):(h.push o).get x=h.get x:=by rw[Heap.di,if_neg (by omega)]
theorem Heap.bB{h:Heap}{base b:Nat}{o o':bJ}(hb:h.get b=some o'):(h.wr base b o).get b=some o:=by rw[Heap.kC,if_pos rfl,hb];rfl
theorem Heap.zo(h:Heap)(base b:Nat)(o:bJ):(h.wr base b o).get b=(h.get b).map fun _=>o:=by rw[Heap.kC,if_pos rfl]
theorem Heap.eM{h:Heap}{base b:Nat}{o:bJ}{x:Nat}(hx:x≠b):(h.wr base b o).get x=h.get x:=by rw[Heap.kC,if_neg hx]
theorem Heap.tS(h:Heap)(o:bJ):(h.push o).log=h.log:=rfl
theorem Heap.aN{h:Heap}{base b:Nat}{o:bJ}(hb:base≤b):(h.wr base b o).log=h.log:=by
 simp only[Heap.wr,blt_eq]
 rw[decide_eq_false (by omega)];rfl
theorem fC{x:Operand}{v:Value}(hx:ev h e x=some v):aop h base e (.mov x)=some (.val v h):=by simp only[aop,hx,cF]
theorem pX{c a b:Operand}{v:Value}(hc:ev h e c=some (.bool true))(hx:ev h e a=some v):aop h base e (.pick c a b)=some (.val v h):=by simp only[aop,hc,hx,cF]
theorem nY{c a b:Operand}{v:Value}(hc:ev h e c=some (.bool false))(hx:ev h e b=some v):aop h base e (.pick c a b)=some (.val v h):=by simp only[aop,hc,hx,cF]
theorem dL{z:List Value}:aop h base e (.new z)=some (.val (.pointer (some ⟨h.next,0,none⟩)) (h.push (.cells z true 1))):=rfl
theorem NV{x:Operand}{v:Value}{vs:List Value}(hx:ev h e x=some v)(hc:cellsOf v=vs):aop h base e (.box x)=some (.val (.pointer (some ⟨h.next,0,none⟩)) (h.push (.cells vs true 1))):=by simp only[aop,hx,cF,hc]
theorem ez{z cs:List Value}{ps:List (Nat×Nat×Operand)}(hf:iF h e z ps=some cs):aop h base e (.build z ps)=some (.val (.agg cs.toArray) h):=by simp only[aop,hf]
theorem iZ{z cs:List Value}{n m:Nat}{ps:List (Nat×Nat×Operand)}(hf:iF h e (eE n z) ps=some cs)(hm:bZ z=m):aop h base e (.cU z n ps)=some (.val (.slice (some ⟨h.next,0,none⟩) n n) (h.push (.cells cs true m))):=by simp only[aop,hf,hm]
theorem bO{x:Operand}{b o sz:Nat}{vs:List Value}{own:Bool}{v:Value}(hx:ev h e x=some (.pointer (some ⟨b,o,none⟩)))(hb:h.get b=some (.cells vs own sz))(hv:bH vs o=some v):aop h base e (.load none x)=some (.val v h):=by
 simp only[aop,hx,cF,nD,hb,hv]
theorem ct{x:Operand}{n b o sz:Nat}{vs l:List Value}{own:Bool}(hx:ev h e x=some (.pointer (some ⟨b,o,none⟩)))(hb:h.get b=some (.cells vs own sz))(hv:cH n (bW o vs)=l)(hl:Nat.beq (bZ l) n=true):
 aop h base e (.load (some n) x)=some (.val (.agg l.toArray) h):=by
 simp only[aop,hx,cF,nD,hb,hv,hl,cond_true]
theorem ja{x y:Operand}{n b o sz:Nat}{vs ws:List Value}{v:Value}(hx:ev h e x=some (.pointer (some ⟨b,o,none⟩)))(hy:ev h e y=some v)(hb:h.get b=some (.cells vs true sz))
 (hc:(Nat.beq (bZ (cellsOf v)) n&&Nat.ble (o+n) (bZ vs)&&dR (cellsOf v))=true)(hw:cO vs o (cellsOf v)=ws):aop h base e (.store n x y)=some (.val (.tuple #[]) (h.wr base b (.cells ws true sz))):=by
 simp only[aop,hx,hy,cF,pL,hb,hc,hw,cond_true]
theorem yz{op:BinOp}{x y:Operand}{a b v:Value}(hx:ev h e x=some a)(hy:ev h e y=some b)(hv:aA op a b=some v):aop h base e (.bin (.num op) x y)=some (.val v h):=by simp only[aop,hx,hy,cF,hv]
theorem EK{k:NK}{neq b:Bool}{x y:Operand}{v u:Value}(hx:ev h e x=some v)(hy:ev h e y=some u)(hn:nI k v u=some b):aop h base e (.bin (.nil k neq) x y)=some (.val (.bool (bif neq then !b else b)) h):=by simp only[aop,hx,hy,cF,hn]
theorem NU{neq b:Bool}{ls:List dM}{x y:Operand}{xs ys:Array Value}(hx:ev h e x=some (.agg xs))(hy:ev h e y=some (.agg ys))(hn:bG ls xs.toList ys.toList=some b):aop h base e (.bin (.agg neq ls) x y)=some (.val (.bool (bif neq then !b else b)) h):=by
 simp only[aop,hx,hy,cF,hn]
theorem BU{x:Operand}{b:Bool}(hx:ev h e x=some (.bool b)):aop h base e (.un .not x)=some (.val (.bool !b) h):=by simp only[aop,hx,cF,uR]
theorem dz{off b o:Nat}{x:Operand}(hx:ev h e x=some (.pointer (some ⟨b,o,none⟩))):aop h base e (.dh off x)=some (.val (.pointer (some ⟨b,o+off,none⟩)) h):=by simp only[aop,hx]
theorem lH{size b o len cap i:Nat}{k:IntKind}{x y:Operand}(hx:ev h e x=some (.slice (some ⟨b,o,none⟩) len cap))(hy:ev h e y=some (.int k (i:Nat)))(hi:i<len):aop h base e (.aU size x y)=some (.val (.pointer (some ⟨b,o+i*size,none⟩)) h):=by
 have:(.int k (i:Nat):Value)= .int k (Int.ofNat i):=rfl
 rw[this]at hy
 simp only[aop,hx,hy,blt_eq,decide_eq_true hi,cond_true]
theorem vm{x:Operand}{i:Nat}{vs:Array Value}{v:Value}(hx:ev h e x=some (.tuple vs))(hv:bH vs.toList i=some v):aop h base e (.extract x i)=some (.val v h):=by simp only[aop,hx,cF,hv]
theorem LU{x:Operand}{a:Option Addr}{n c:Nat}(hx:ev h e x=some (.slice a n c)):aop h base e (.len 1 x)=some (.val (.int .i64 n) h):=by simp only[aop,hx]
theorem gK{fn:Fn}{fs cs:List Operand}{as bs:List Value}(h1:evs h e fs=some as)(h2:evs h e cs=some bs):aop h base e (.dY fn fs cs)=some (.val (.func fn as.toArray bs.toArray) h):=by simp only[aop,h1,h2]
theorem cA{x:Operand}{b o:Nat}(hx:ev h e x=some (.pointer (some ⟨b,o,none⟩))):aop h base e (.cg x)=some (.val (.pointer (some ⟨b,o,none⟩)) h):=by simp only[aop,hx,cF]
theorem tf{f:Operand}{args:List Operand}{fv:Value}{as:List Value}{g:Nat}{first cap:Array Value}{all:List Value}(hf:ev h e f=some fv)(ha:evs h e args=some as)(hv:fv= .func (.func g) first cap)(hl:dI first.toList (dI as cap.toList)=all):
 aop h base e (.call f args)=some (.call (.func g) all h):=by subst hv;simp only[aop,hf,ha,nj,hl]
theorem cQ{n:Int}(h1: -9223372036854775808≤n)(h2:n<9223372036854775808):fM .i64 n=n:=by
 rw[qG,IntKind.wrap_i64];omega
theorem LH{k:IntKind}{a b:Int}:aA .lss (.int k a) (.int k b)=some (.bool (decide (a<b))):=by simp[aA,arith,lu]
theorem LG{k:IntKind}{a b:Int}:aA .leq (.int k a) (.int k b)=some (.bool (decide (a≤b))):=by simp[aA,arith,lu]
theorem LF{k:IntKind}{a b:Int}:aA .gtr (.int k a) (.int k b)=some (.bool (decide (b<a))):=by simp[aA,arith,lu]
theorem zH{k:IntKind}{a b:Int}:aA .geq (.int k a) (.int k b)=some (.bool (decide (b≤a))):=by simp[aA,arith,lu]
theorem Gb{k:IntKind}{a b:Int}:aA .eql (.int k a) (.int k b)=some (.bool (a==b)):=by simp[aA,arith,lu]
theorem Ch{k:IntKind}{a b:Int}:aA .neq (.int k a) (.int k b)=some (.bool (a !=b)):=by simp[aA,arith,lu]
theorem nE{k:IntKind}{a b c:Int}(hc:fM k (a+b)=c):aA .add (.int k a) (.int k b)=some (.int k c):=by simp[aA,arith,hc]
theorem nF{k:IntKind}{a b c:Int}(hc:fM k (a-b)=c):aA .sub (.int k a) (.int k b)=some (.int k c):=by simp[aA,arith,hc]
theorem Pg{n:Nat}(hn:n<9223372036854775807):aA .add (.int .i64 n) (.int .i64 1)=some (.int .i64 (n+1:Nat)):=nE (by rw[cQ]<;>omega)
theorem LS{l m:List (Nat×bJ)}(hk:l.map (·.1)=m.map (·.1))(hn:(m.map (·.1)).Nodup)(hg:∀b,b∈m.map (·.1)→eR l b=eR m b):l=m:=by
 induction m generalizing l with
 |nil=>simpa using hk
 |cons p m ih=>
  obtain⟨k,o⟩:=p
  cases l with
  |nil=>simp at hk
  |cons q l=>
   obtain⟨k',o'⟩:=q
   simp only[List.map_cons,List.cons.injEq]at hk
   obtain⟨h1,h2⟩:=hk
   subst h1
   simp only[List.map_cons,List.nodup_cons]at hn
   have h3:=hg k' (by simp)
   simp only[eR,cond_eq_ite,beq_eq,decide_true,if_true]at h3
   cases h3
   congr 1
   refine ih h2 hn.2 fun b hb=> ?_
   have h4:=hg b (by simp[hb])
   have hne:k'≠b:=fun e=>hn.1 (e▸hb)
   simpa only[eR,cond_eq_ite,beq_eq,decide_eq_true_eq,if_neg hne]using h4
structure WF (h:Heap):Prop where
 nodup:(h.bR.map (·.1)).Nodup
 lt:∀b,b∈h.bR.map (·.1)→b<h.next
theorem oT{a n b:Nat}:b∈cT a n↔a≤b∧b<a+n:=by
 induction n with
 |zero=>simp[cT]
 |succ n ih=>simp[cT,ih];omega
theorem wJ(a n:Nat):(cT a n).Nodup:=by
 induction n with
 |zero=>simp[cT]
 |succ n ih=>simp only[cT,List.nodup_cons,oT];exact⟨by omega,ih⟩
theorem WF.as{base:Nat}{h h':Heap}(hw:WF h)(hA:AS base h h'):WF h' where
 nodup:=by
  rw[hA.keys,List.nodup_append]
  refine⟨wJ _ _,hw.nodup,fun a ha b hb=> ?_⟩
  rw[oT]at ha
  have:=hw.lt b hb
  omega
 lt:=fun b hb=>by
  rw[hA.keys,List.mem_append]at hb
  have:=hA.next
  rcases hb with hb|hb
  ·rw[oT]at hb;omega
  ·have:=hw.lt b hb;omega
theorem WF.log{h:Heap}(hw:WF h)(l:List Nat):WF {h with log:=l}:=⟨hw.nodup,hw.lt⟩
theorem WF.push{h:Heap}(hw:WF h)(o:bJ):WF (h.push o):=hw.as (AS.push 0 h o)
structure Ext (h h':Heap):Prop where
 next:h.next≤h'.next
 log:h'.log=h.log
 old:∀b,b<h.next→h'.get b=h.get b
 wf:WF h→WF h'
theorem Ext.refl(h:Heap):Ext h h:=⟨Nat.le_refl _,rfl,fun _ _=>rfl,id⟩
theorem Ext.trans{a b c:Heap}(h:Ext a b)(g:Ext b c):Ext a c:=⟨Nat.le_trans h.next g.next,g.log.trans h.log,fun x hx=>(g.old x (Nat.lt_of_lt_of_le hx h.next)).trans (h.old x hx),fun w=>g.wf (h.wf w)⟩
theorem Ext.push{a b:Heap}(h:Ext a b)(o:bJ):Ext a (b.push o):=⟨Nat.le_succ_of_le h.next,h.log,fun x hx=>(Heap.fJ (Nat.lt_of_lt_of_le hx h.next)).trans (h.old x hx),fun w=>(h.wf w).push o⟩
theorem De{l:List (Nat×bJ)}{b:Nat}(hb:b ∉ l.map (·.1)):eR l b=none:=by
 induction l with
 |nil=>rfl
 |cons p l ih=>
  obtain⟨k,o⟩:=p
  simp only[List.map_cons,List.mem_cons,not_or]at hb
  simp only[eR,cond_eq_ite,beq_eq,decide_eq_true_eq]
  rw[if_neg (Ne.symm hb.1)];exact ih hb.2
theorem Ca{h h1:Heap}{v:Value}(hw:WF h)(hA:AS h.next h h1)(hl:h1.log=h.log)(h0:h.log=[])(hv:cB v=true):gcA h h1 v=h:=by
 have hA':=hA.keys
 have e:bW (h1.next-h.next) h1.bR=h.bR:=by
  rw[bD]
  have hlen:(cT h.next (h1.next-h.next)).length=h1.next-h.next:=by
   generalize h1.next-h.next=n
   induction n with
   |zero=>rfl
   |succ n ih=>simp[cT,ih]
  have hk:(h1.bR.drop (h1.next-h.next)).map (·.1)=h.bR.map (·.1):=by
   rw[List.map_drop,hA',List.drop_append_of_le_length (by omega),List.drop_of_length_le (by omega),List.nil_append]
  refine LS hk hw.nodup fun b hb=> ?_
  have hbl:=hw.lt b hb
  have hs:=hA.same b hbl hbl (by rw[hl,h0];rfl)
  have hsplit:h1.bR=h1.bR.take (h1.next-h.next)++h1.bR.drop (h1.next-h.next):=(List.take_append_drop _ _).symm
  have hkt:(h1.bR.take (h1.next-h.next)).map (·.1)=cT h.next (h1.next-h.next):=by
   rw[List.map_take,hA',List.take_append_of_le_length (by omega),List.take_of_length_le (by omega)]
  have:=j7 _ h.next _ (h1.bR.drop (h1.next-h.next)) hkt b hbl
  rw[←hsplit]at this
  exact this.symm.trans hs
 simp only[gcA,hv,hl,h0,fE,Bool.and_true,cond_true,mQ,e]
 cases h;simp at h0⊢;exact h0
structure Rdy (h:Heap):Prop where
 wf:WF h
 log:h.log=[]
def Pu(T:Nat→Option af)(f:Nat)(args:List Value)(h:Heap)(v:Value):Prop:=CW T f args h fun r h'=>r= .ret v∧h'=h
structure OV (rs:List (Nat×Option (Option Nat))) (v0:Value) (x:bw) (e:Env) (ds:Dfs) (h1:Heap):Prop where
 ok:(x= .normal∨x= .ret)∧ds=[]∧h1.log=[]∧∃vs,bY h1 e rs=some vs∧eS vs=v0
theorem aD{rs:List (Nat×Option (Option Nat))}{v0:Value}{vs:List Value}(hl:h.log=[])(hr:bY h e rs=some vs)(hv:eS vs=v0):OV rs v0 .ret e [] h:=⟨⟨.inr rfl,rfl,hl,vs,hr,hv⟩⟩
theorem Pu.of(hp:bt T){f:Nat}{args:List Value}{c:aY}{rs:List (Nat×Option (Option Nat))}{v0:Value}(hf:T f=some (.code c rs))(hr:Rdy h)(hv:cB v0=true)(H:WE T h.next none c (OV rs v0) (dV 0 args) [] h):Pu T f args h v0:=by
 obtain⟨x,e,ds,h1,⟨m,hm⟩,⟨hx,rfl,hl,vs,hvs,rfl⟩⟩:=H.ok
 have hA:=(eO.all hp m).exec _ _ _ _ _ _ _ _ _ _ (hm m (Nat.le_refl _)) (Nat.le_refl _)
 refine CW.code hf ⟨x,e,[],h1,⟨m,hm⟩,?_⟩
 unfold u0
 have hg:=Ca hr.wf hA (hl.trans hr.log.symm) hr.log hv
 rcases hx with rfl|rfl
 ·simp only[hvs,hg];exact⟨trivial,trivial⟩
 ·simp only[hvs,hg];exact⟨trivial,trivial⟩
theorem FW.pu{f:Nat}{args:List Value}{v:Value}{K:Env→Dfs→Heap→Prop}{dst:Option Nat}(H:Pu T f args {h with log:=[]} v)(hK:K (bM e dst v) ds h):FW T (.func f) args {h with log:=[]} (KO K Q base dst e ds h.log):=by
 refine .func (CW.mono H ?_)
 rintro r h' ⟨rfl,rfl⟩
 exact⟨hK⟩
theorem Rdy.of{h:Heap}(hw:WF h):Rdy {h with log:=[]}:=⟨hw.log [],rfl⟩
theorem FW.puD{f:Nat}{args:List Value}{v:Value}{K:List Rec→Env→Heap→Prop}{mask:Nat}{rs rs':List Rec}{dst:Option Nat}(H:Pu T f args {h with log:=[]} v)(hrs:aZ h base [] mask rs=some rs')(hK:K rs' (bM e dst v) h):
 FW T (.func f) args {h with log:=[]} (KD K base mask rs dst e h.log):=by
 refine .func (CW.mono H ?_)
 rintro r h' ⟨rfl,rfl⟩
 refine⟨?_⟩
 show(match aZ {h with log:=aC base h.log []} base [] mask rs with
  |some rs'=>K rs' (bM e dst v) {h with log:=aC base h.log []}
  |none=>False)
 have:({h with log:=aC base h.log []}:Heap)=h:=rfl
 rw[this,hrs]
 exact hK
structure pW (h:Heap) (b o n sz:Nat) (cs:List Value):Prop where
 lt:b<h.next
 obj:∃vs own s,h.get b=some (.cells vs own s)∧cH (n*sz) (bW o vs)=cs
 len:cs.length=n*sz
inductive bK (h:Heap) (sz:Nat):Value→Nat→List Value→Prop
 |nil {c}:bK h sz (.slice none 0 c) 0 []
 |mem {b o n cap cs}:pW h b o n sz cs→n≤cap→bK h sz (.slice (some ⟨b,o,none⟩) n cap) n cs
theorem pW.ext{h h':Heap}{b o n sz:Nat}{cs:List Value}(s:pW h b o n sz cs)(x:Ext h h'):pW h' b o n sz cs:=by
 obtain⟨vs,own,t,h1,h2⟩:=s.obj
 exact⟨Nat.lt_of_lt_of_le s.lt x.next,⟨vs,own,t,(x.old _ s.lt).trans h1,h2⟩,s.len⟩
theorem bK.ext{h h':Heap}{sz n:Nat}{v:Value}{cs:List Value}(s:bK h sz v n cs)(x:Ext h h'):bK h' sz v n cs:=by
 cases s with
 |nil=>exact .nil
 |mem s hc=>exact .mem (s.ext x) hc
theorem bK.form{h:Heap}{sz n:Nat}{v:Value}{cs:List Value}(s:bK h sz v n cs):∃a c,v= .slice a n c:=by
 cases s<;>exact⟨_,_,rfl⟩
theorem bK.log{h:Heap}{sz n:Nat}{v:Value}{cs:List Value}(s:bK h sz v n cs)(l:List Nat):bK {h with log:=l} sz v n cs:=by
 cases s with
 |nil=>exact .nil
 |mem s hc=>exact .mem ⟨s.lt,s.obj,s.len⟩ hc
theorem bK.inv{h:Heap}{sz n:Nat}{v:Value}{cs:List Value}(s:bK h sz v n cs):(∃c,v= .slice none 0 c∧n=0∧cs=[])∨∃b o cap,v= .slice (some ⟨b,o,none⟩) n cap∧pW h b o n sz cs∧n≤cap:=by
 cases s with
 |nil=>exact .inl ⟨_,rfl,rfl,rfl⟩
 |mem s hc=>exact .inr ⟨_,_,_,rfl,s,hc⟩
theorem bK.len{h:Heap}{sz n:Nat}{v:Value}{cs:List Value}(s:bK h sz v n cs):cs.length=n*sz:=by
 cases s with
 |nil=>simp
 |mem s _=>exact s.len
theorem xk{k:IntKind}{a b:Int}(h:b≤a):aA .geq (.int k a) (.int k b)=some (.bool true):=by rw[zH,decide_eq_true h]
theorem AQ{k:IntKind}{a b:Int}(h:a<b):aA .geq (.int k a) (.int k b)=some (.bool false):=by rw[zH,decide_eq_false (by omega)]
theorem gU{k:IntKind}{a b:Int}(h:a≤b):aA .leq (.int k a) (.int k b)=some (.bool true):=by rw[LG,decide_eq_true h]
theorem fO{k:IntKind}{a b:Int}(h:b<a):aA .leq (.int k a) (.int k b)=some (.bool false):=by rw[LG,decide_eq_false (by omega)]
theorem jg{k:IntKind}{a b:Int}(h:a<b):aA .lss (.int k a) (.int k b)=some (.bool true):=by rw[LH,decide_eq_true h]
theorem jD{k:IntKind}{a b:Int}(h:b≤a):aA .lss (.int k a) (.int k b)=some (.bool false):=by rw[LH,decide_eq_false (by omega)]
theorem gX{k:IntKind}{a b:Int}(h:b<a):aA .gtr (.int k a) (.int k b)=some (.bool true):=by rw[LF,decide_eq_true h]
theorem jV{k:IntKind}{a b:Int}(h:a≤b):aA .gtr (.int k a) (.int k b)=some (.bool false):=by rw[LF,decide_eq_false (by omega)]
theorem AP{k:IntKind}{a b:Int}(h:a=b):aA .eql (.int k a) (.int k b)=some (.bool true):=by rw[Gb];simp[h]
theorem pn{k:IntKind}{a b:Int}(h:a≠b):aA .eql (.int k a) (.int k b)=some (.bool false):=by rw[Gb];simp[h]
theorem mE{k:IntKind}{a b:Int}(h:a≠b):aA .neq (.int k a) (.int k b)=some (.bool true):=by rw[Ch];simp[h]
theorem AR{k:IntKind}{a b:Int}(h:a=b):aA .neq (.int k a) (.int k b)=some (.bool false):=by rw[Ch];simp[h]
def Al(T:Nat→Option af)(f:Nat)(args:List Value)(h:Heap)(Q:Value→Heap→Prop):Prop:=CW T f args h fun r h'=>Ext h h'∧∃v,r= .ret v∧Q v h'
structure OU (rs:List (Nat×Option (Option Nat))) (Q:Value→Heap→Prop) (x:bw) (e:Env) (ds:Dfs) (h1:Heap):Prop where
 ok:(x= .normal∨x= .ret)∧ds=[]∧h1.log=[]∧∃vs,bY h1 e rs=some vs∧Q (eS vs) h1
theorem ej{rs:List (Nat×Option (Option Nat))}{Q:Value→Heap→Prop}{vs:List Value}(hl:h.log=[])(hr:bY h e rs=some vs)(hq:Q (eS vs) h):OU rs Q .ret e [] h:=⟨⟨.inr rfl,rfl,hl,vs,hr,hq⟩⟩
theorem Ext.nK{h h1:Heap}(hr:Rdy h)(hA:AS h.next h h1)(hl:h1.log=[]):Ext h h1:=
 ⟨hA.next,hl.trans hr.log.symm,fun b hb=>hA.same b hb hb (by rw[hl];rfl),fun w=>w.as hA⟩
theorem Al.of(hp:bt T){f:Nat}{args:List Value}{c:aY}{rs:List (Nat×Option (Option Nat))}{Q:Value→Heap→Prop}(hf:T f=some (.code c rs))(hr:Rdy h)(hQ:∀v h1,cB v=true→Q v h1→Q v h)(H:WE T h.next none c (OU rs Q) (dV 0 args) [] h):Al T f args h Q:=by
 obtain⟨x,e,ds,h1,⟨m,hm⟩,⟨hx,rfl,hl,vs,hvs,hq⟩⟩:=H.ok
 have hA:=(eO.all hp m).exec _ _ _ _ _ _ _ _ _ _ (hm m (Nat.le_refl _)) (Nat.le_refl _)
 refine CW.code hf ⟨x,e,[],h1,⟨m,hm⟩,?_⟩
 have key:Ext h (gcA h h1 (eS vs))∧Q (eS vs) (gcA h h1 (eS vs)):=by
  cases hv:cB (eS vs)with
  |true=>
   rw[Ca hr.wf hA (hl.trans hr.log.symm) hr.log hv]
   exact⟨.refl _,hQ _ _ hv hq⟩
  |false=>
   have:gcA h h1 (eS vs)=h1:=by simp[gcA,hv]
   rw[this]
   exact⟨.nK hr hA hl,hq⟩
 unfold u0
 rcases hx with rfl|rfl
 ·simp only[hvs];exact⟨key.1,_,rfl,key.2⟩
 ·simp only[hvs];exact⟨key.1,_,rfl,key.2⟩
theorem Ext.F5{h h':Heap}(x:Ext {h with log:=[]} h'):Ext h {h' with log:=aC base h.log h'.log}:=by
 have:h'.log=[]:=x.log
 refine⟨x.next,by rw[this];rfl,x.old,fun w=>(x.wf (w.log [])).log _⟩
theorem FW.al{f:Nat}{args:List Value}{Q':Value→Heap→Prop}{K:Env→Dfs→Heap→Prop}{dst:Option Nat}(H:Al T f args {h with log:=[]} Q')(hlog:∀v (h':Heap) l,Q' v h'→Q' v {h' with log:=l})
 (hK:∀v h',Ext h h'→Q' v h'→K (bM e dst v) ds h'):FW T (.func f) args {h with log:=[]} (KO K Q base dst e ds h.log):=by
 refine .func (CW.mono H ?_)
 rintro r h' ⟨hx,v,rfl,hq⟩
 exact⟨hK v _ hx.F5 (hlog v h' _ hq)⟩
theorem FW.alD{f:Nat}{args:List Value}{Q':Value→Heap→Prop}{K:List Rec→Env→Heap→Prop}{mask:Nat}{rs:List Rec}{dst:Option Nat}(H:Al T f args {h with log:=[]} Q')(hlog:∀v (h':Heap) l,Q' v h'→Q' v {h' with log:=l})
 (hK:∀v h',Ext h h'→Q' v h'→∃rs',aZ h' base [] mask rs=some rs'∧K rs' (bM e dst v) h'):FW T (.func f) args {h with log:=[]} (KD K base mask rs dst e h.log):=by
 refine .func (CW.mono H ?_)
 rintro r h' ⟨hx,v,rfl,hq⟩
 refine⟨?_⟩
 obtain⟨rs',h1,h2⟩:=hK v _ (hx.F5 (base:=base)) (hlog v h' _ hq)
 show(match aZ {h' with log:=aC base h.log h'.log} base h'.log mask rs with
  |some rs'=>K rs' (bM e dst v) {h' with log:=aC base h.log h'.log}
  |none=>False)
 have hl:h'.log=[]:=hx.log
 rw[hl]at h1 h2⊢
 rw[h1];exact h2
theorem Ad{t:Nat}{v:Value}{rs:List (Nat×Option (Option Nat))}{vs:List Value}(ht:geT e t=some v)(hr:bY h e rs=some vs):bY h e ((t,none)::rs)=some (v::vs):=by simp only[bY,ht,hr]
theorem dJ{t n b o s:Nat}{own:Bool}{ws l:List Value}{rs:List (Nat×Option (Option Nat))}{vs:List Value}(ht:geT e t=some (.pointer (some ⟨b,o,none⟩)))(hb:h.get b=some (.cells ws own s))(hl:cH n (bW o ws)=l)(hn:Nat.beq (bZ l) n=true)(hr:bY h e rs=some vs):
 bY h e ((t,some (some n))::rs)=some (.agg l.toArray::vs):=by simp only[bY,ht,nD,hb,hl,hn,cond_true,hr]
theorem HS{t b o s:Nat}{own:Bool}{ws:List Value}{v:Value}{rs:List (Nat×Option (Option Nat))}{vs:List Value}(ht:geT e t=some (.pointer (some ⟨b,o,none⟩)))(hb:h.get b=some (.cells ws own s))(hl:bH ws o=some v)(hr:bY h e rs=some vs):
 bY h e ((t,some none)::rs)=some (v::vs):=by simp only[bY,ht,nD,hb,hl,hr]
theorem cC{log:List Nat}{mask:Nat}:aZ h base log mask []=some []:=rfl
theorem Kt{log:List Nat}{mask:Nat}{r:Rec}{rs rs':List Rec}(hb:Nat.testBit mask r.i=true)(H:aZ h base log mask rs=some rs'):aZ h base log mask (r::rs)=some rs':=by
 simp only[aZ,hb,cond_true,H]
theorem Ku{log:List Nat}{mask:Nat}{r:Rec}{rs rs':List Rec}(hb:Nat.testBit mask r.i=false)(hq:pG h base r=true)(hm:D6 log r=true)(H:aZ h base log mask rs=some rs'):aZ h base log mask (r::rs)=some (r::rs'):=by
 simp only[aZ,hb,hq,hm,Bool.and_true,cond_true,cond_false,H]
theorem qx{r:Rec}{b:Nat}(hk:r.k= .made b):pG h base r=true:=by simp only[pG,hk]
theorem aq{r:Rec}(hk:r.k= .quiet)(hv:aop h base r.e r.o.op=some (.val r.v h))(hs:iz r.v r.v=true):pG h base r=true:=by
 have hb:Nat.beq h.next h.next=true:=by rw[beq_eq];simp
 simp only[pG,hk,hv,hs,hb,Bool.and_self]
theorem pI:lY h base []=true:=rfl
theorem dA{r:Rec}{rs:List Rec}(h1:pG h base r=true)(h2:lY h base rs=true):lY h base (r::rs)=true:=by simp only[lY,h1,cond_true,h2]
theorem bT(a:Option Addr):iz (.pointer a) (.pointer a)=true:=by simp[iz,kJ]
theorem dZ(k:IntKind)(n:Int):iz (.int k n) (.int k n)=true:=by simp[iz,kJ]
theorem CJ(b:Bool):iz (.bool b) (.bool b)=true:=by simp[iz,kJ]
theorem fq(a:Option Addr)(n c:Nat):iz (.slice a n c) (.slice a n c)=true:=by simp[iz,kJ]
theorem mL{c:Array Value}(h:jt c.toList c.toList=true):iz (.agg c) (.agg c)=true:=h
theorem HZ:jt [] []=true:=rfl
theorem eT{v:Value}{l:List Value}(h1:kJ v v=true)(h2:jt l l=true):jt (v::l) (v::l)=true:=by simp only[jt,h1,cond_true,h2]
theorem gG(k:IntKind)(n:Int):kJ (.int k n) (.int k n)=true:=by simp[kJ]
theorem ki{b o n c size:Nat}{vs cs:List Value}{own:Bool}{s:Nat}(hb:h.get b=some (.cells vs own s))(hc:cH (n*size) (bW o vs)=cs)(hl:cs.length=n*size):cW h size (.slice (some ⟨b,o,none⟩) n c)=some (cs,n):=by
 simp only[cW,hb,hc,bQ,hl,beq_eq,decide_true,cond_true]
theorem Ib{size n:Nat}{v:Value}{cs:List Value}(s:bK h size v n cs):cW h size v=some (cs,n):=by
 cases s with
 |nil=>rfl
 |mem s _=>
  obtain⟨vs,own,t,h1,h2⟩:=s.obj
  exact ki h1 h2 s.len
theorem qS{size bytes n c:Nat}{x y:Operand}{v:Value}{cs:List Value}(hx:ev h e x=some (.slice none 0 0))(hy:ev h e y=some v)(hs:cW h size v=some (cs,n))(hn:n≠0)(hb:(2*(0+n)+768)*bytes≤281474976710656)(hc:c=UNK):
 aop h base e (.append size bytes x y)=some (.val (.slice (some ⟨h.next,0,none⟩) n c) (h.push (.cells cs true size))):=by
 have h0:Nat.beq n 0=false:=by rw[beq_eq];simpa using hn
 have h1:Nat.ble ((2*(0+n)+768)*bytes) 281474976710656=true:=by rw[ble_eq];simpa using hb
 subst hc
 simp only[aop,hx,hy,hs,iJ,h0,h1,cond_true,cond_false,Nat.beq,Bool.and_self,fD]
theorem mg{size bytes len n q:Nat}{x y:Operand}{v:Value}{vs cs ws:List Value}(hx:ev h e x=some (.slice (some ⟨q,0,none⟩) len UNK))(hy:ev h e y=some v)(hs:cW h size v=some (cs,n))(hn:n≠0)(hq:h.get q=some (.cells vs true size))(hl:vs.length=len*size)
 (hsz:0<size)(h1:dR cs=true)(hb:(2*(len+n)+768)*bytes≤281474976710656)(hw:dI vs cs=ws):
 aop h base e (.append size bytes x y)=some (.val (.slice (some ⟨h.next,0,none⟩) (len+n) UNK) ((h.wr base q .dead).push (.cells ws true size))):=by
 have h0:Nat.beq n 0=false:=by rw[beq_eq];simpa using hn
 have h2:Nat.ble ((2*(len+n)+768)*bytes) 281474976710656=true:=by rw[ble_eq];simpa using hb
 have h3:Nat.beq UNK UNK=true:=by rw[beq_eq];simp
 have h4:Nat.beq size size=true:=by rw[beq_eq];simp
 have h5:Nat.ble (0+(len+n)*size) (bZ vs)=false:=by
  rw[ble_eq,bQ,hl,Nat.add_mul]
  have:0<n*size:=Nat.mul_pos (Nat.pos_of_ne_zero hn) hsz
  simp;omega
 have h6:Nat.beq (len*size) (bZ vs)=true:=by rw[beq_eq,bQ,hl];simp
 simp only[aop,hx,hy,hs,iJ,h0,h2,hq,h3,h4,h5,h6,h1,Bool.and_true,Bool.false_and,cond_true,cond_false,hw,fD,Nat.beq]
theorem oP{size bytes len n q o c s:Nat}{own:Bool}{x y:Operand}{v:Value}{vs cs ws:List Value}(hx:ev h e x=some (.slice (some ⟨q,o,none⟩) len c))(hy:ev h e y=some v)(hs:cW h size v=some (cs,n))(hn:n≠0)(hc:c<len+n)(hu:c<UNK)
 (hq:h.get q=some (.cells vs own s))(hl:o+len*size≤vs.length)(hb:(2*(len+n)+768)*bytes≤281474976710656)(hw:dI (cH (len*size) (bW o vs)) cs=ws):
 aop h base e (.append size bytes x y)=some (.val (.slice (some ⟨h.next,0,none⟩) (len+n) UNK) (h.push (.cells ws true size))):=by
 have h0:Nat.beq n 0=false:=by rw[beq_eq];simpa using hn
 have h2:Nat.ble ((2*(len+n)+768)*bytes) 281474976710656=true:=by rw[ble_eq];simpa using hb
 have h3:Nat.beq c UNK=false:=by rw[beq_eq];simp;omega
 have h4:Nat.ble (len+n) c=false:=by rw[ble_eq];simp;omega
 have h5:Nat.ble (o+len*size) (bZ vs)=true:=by rw[ble_eq,bQ];simpa using hl
 simp only[aop,hx,hy,hs,iJ,h0,h2,hq,h3,h4,h5,cond_true,cond_false,hw,fD]
theorem td{size bytes len c:Nat}{a:Option Addr}{x y:Operand}{v:Value}(hx:ev h e x=some (.slice a len c))(hy:ev h e y=some v)(hs:cW h size v=some ([],0))(hc:len≤c):aop h base e (.append size bytes x y)=some (.val (.slice a len c) h):=by
 have h2:Nat.ble len c=true:=by rw[ble_eq];simpa using hc
 simp only[aop,hx,hy,hs,iJ,h2,cond_true,Nat.beq,fD]
theorem jk{ops:List aW}{bf:List Nat}{rs rs':List Rec}{Q:Env→Heap→Prop}{i mask:Nat}{is:List Nat}{dst:Option Nat}{op:AOp}{g:Option (Nat×Bool)}{er:Env}{v:Value}{h2 h3:Heap}{lg:List Nat}(ho:bH ops i=some ⟨dst,op,g⟩)(hm:bH bf i=some mask)
 (he:bE e (bS ⟨dst,op,g⟩)=er)(hw:bC er g=some true)(hq:jc op=false)(hop:aop {h with log:=[]} h.next er op=some (.val v h2))(h3e:({h2 with log:=aC base h.log h2.log}:Heap)=h3)(hlg:h2.log=lg)
 (hrs:aZ h3 base lg mask rs=some rs')(H:WD T base ops bf Q is rs' (bM e dst v) h3):WD T base ops bf Q (i::is) rs e h:=by
 subst h3e;subst hlg
 exact Nu ho hm he hw hq hop hrs H
theorem xg(o:bJ):(({h with log:=[]}:Heap).push o).log=[]:=rfl
theorem qj{b:Nat}(hb:b<h.next)(o:bJ):(({h with log:=[]}:Heap).wr h.next b o).log=[b]:=by
 simp[Heap.wr,blt_eq,hb,fh]
theorem wM(o:bJ):({({h with log:=[]}:Heap).push o with log:=aC base h.log (({h with log:=[]}:Heap).push o).log}:Heap)=h.push o:=rfl
theorem B4{b:Nat}(hb:b<h.next)(hbb:base≤b)(o:bJ):({({h with log:=[]}:Heap).wr h.next b o with log:=aC base h.log (({h with log:=[]}:Heap).wr h.next b o).log}:Heap)=h.wr base b o:=by
 rw[qj hb]
 have h1:Nat.blt b base=false:=by rw[blt_eq];simp;omega
 simp only[Heap.wr,aC,h1,cond_false]
theorem AG{b:Nat}(hb:b<h.next)(hbb:base≤b)(o o':bJ):({(({h with log:=[]}:Heap).wr h.next b o).push o' with log:=aC base h.log ((({h with log:=[]}:Heap).wr h.next b o).push o').log}:Heap)=(h.wr base b o).push o':=by
 have:=B4 (base:=base) hb hbb o
 have h2:((({h with log:=[]}:Heap).wr h.next b o).push o').log=(({h with log:=[]}:Heap).wr h.next b o).log:=rfl
 rw[h2,←this];rfl
theorem uU{ops:List aW}{bf:List Nat}{rs rs':List Rec}{Q:Env→Heap→Prop}{i mask:Nat}{is:List Nat}{dst:Option Nat}{x y:Operand}{n b o sz:Nat}{vs ws:List Value}{v:Value}{g:Option (Nat×Bool)}{er:Env}(ho:bH ops i=some ⟨dst, .store n x y,g⟩)(hm:bH bf i=some mask)
 (he:bE e (bS ⟨dst, .store n x y,g⟩)=er)(hw:bC er g=some true)(hx:ev {h with log:=[]} er x=some (.pointer (some ⟨b,o,none⟩)))(hy:ev {h with log:=[]} er y=some v)(hb:h.get b=some (.cells vs true sz))
 (hc:(Nat.beq (bZ (cellsOf v)) n&&Nat.ble (o+n) (bZ vs)&&dR (cellsOf v))=true)(hws:cO vs o (cellsOf v)=ws)(hlt:b<h.next)(hbb:base≤b)(hrs:aZ (h.wr base b (.cells ws true sz)) base [b] mask rs=some rs')
 (H:WD T base ops bf Q is rs' (bM e dst (.tuple #[])) (h.wr base b (.cells ws true sz))):WD T base ops bf Q (i::is) rs e h:=
 jk ho hm he hw rfl (ja (h:={h with log:=[]}) hx hy hb hc hws) (B4 hlt hbb _) (qj hlt _) hrs H
theorem uT{ops:List aW}{bf:List Nat}{rs rs':List Rec}{Q:Env→Heap→Prop}{i mask:Nat}{is:List Nat}{dst:Option Nat}{g:Option (Nat×Bool)}{er:Env}{size bytes n:Nat}{x y:Operand}{v:Value}{cs:List Value}
 (ho:bH ops i=some ⟨dst, .append size bytes x y,g⟩)(hm:bH bf i=some mask)(he:bE e (bS ⟨dst, .append size bytes x y,g⟩)=er)(hwt:bC er g=some true)
 (hx:ev {h with log:=[]} er x=some (.slice none 0 0))(hy:ev {h with log:=[]} er y=some v)(hs:cW {h with log:=[]} size v=some (cs,n))(hn:n≠0)(hb:(2*(0+n)+768)*bytes≤281474976710656)
 (hrs:aZ (h.push (.cells cs true size)) base [] mask rs=some rs')(H:WD T base ops bf Q is rs' (bM e dst (.slice (some ⟨h.next,0,none⟩) n UNK)) (h.push (.cells cs true size))):WD T base ops bf Q (i::is) rs e h:=
 jk ho hm he hwt rfl (qS (h:={h with log:=[]}) hx hy hs hn hb rfl) (wM _) (xg _) hrs H
theorem Aq{ops:List aW}{bf:List Nat}{rs rs':List Rec}{Q:Env→Heap→Prop}{i mask:Nat}{is:List Nat}{dst:Option Nat}{g:Option (Nat×Bool)}{er:Env}{size bytes len c:Nat}{a:Option Addr}{x y:Operand}{v:Value}
 (ho:bH ops i=some ⟨dst, .append size bytes x y,g⟩)(hm:bH bf i=some mask)(he:bE e (bS ⟨dst, .append size bytes x y,g⟩)=er)(hwt:bC er g=some true)
 (hx:ev {h with log:=[]} er x=some (.slice a len c))(hy:ev {h with log:=[]} er y=some v)(hs:cW {h with log:=[]} size v=some ([],0))(hc:len≤c)
 (hrs:aZ h base [] mask rs=some rs')(H:WD T base ops bf Q is rs' (bM e dst (.slice a len c)) h):WD T base ops bf Q (i::is) rs e h:=
 jk ho hm he hwt rfl (td (h:={h with log:=[]}) hx hy hs hc) rfl rfl hrs H
theorem Ap{ops:List aW}{bf:List Nat}{rs rs':List Rec}{Q:Env→Heap→Prop}{i mask:Nat}{is:List Nat}{dst:Option Nat}{g:Option (Nat×Bool)}{er:Env}{size bytes len n q:Nat}{x y:Operand}{v:Value}{vs cs ws:List Value}
 (ho:bH ops i=some ⟨dst, .append size bytes x y,g⟩)(hm:bH bf i=some mask)(he:bE e (bS ⟨dst, .append size bytes x y,g⟩)=er)(hwt:bC er g=some true)
 (hx:ev {h with log:=[]} er x=some (.slice (some ⟨q,0,none⟩) len UNK))(hy:ev {h with log:=[]} er y=some v)(hs:cW {h with log:=[]} size v=some (cs,n))(hn:n≠0)(hq:h.get q=some (.cells vs true size))(hl:vs.length=len*size)
 (hsz:0<size)(h1:dR cs=true)(hb:(2*(len+n)+768)*bytes≤281474976710656)(hw:dI vs cs=ws)(hlt:q<h.next)(hbb:base≤q)
 (hrs:aZ ((h.wr base q .dead).push (.cells ws true size)) base [q] mask rs=some rs')(H:WD T base ops bf Q is rs' (bM e dst (.slice (some ⟨h.next,0,none⟩) (len+n) UNK)) ((h.wr base q .dead).push (.cells ws true size))):WD T base ops bf Q (i::is) rs e h:=
 jk ho hm he hwt rfl (mg (h:={h with log:=[]}) hx hy hs hn hq hl hsz h1 hb hw) (AG hlt hbb _ _) (qj hlt .dead) hrs H
theorem Heap.zn{h:Heap}{o:bJ}{x:Nat}(h1:x≤h.next)(h2:h.next≤x):(h.push o).get x=some o:=by rw[Heap.di,if_pos (Nat.le_antisymm h1 h2)]
theorem Heap.Df{h:Heap}{base b:Nat}{o:bJ}{x:Nat}(h1:x≤b)(h2:b≤x):(h.wr base b o).get x=(h.get x).map fun _=>o:=by rw[Heap.kC,if_pos (Nat.le_antisymm h1 h2),Nat.le_antisymm h1 h2]
theorem aP{log:List Nat}{mask i:Nat}{o:aW}{e:Env}{v:Value}{k:Rk}{rs rs':List Rec}(hb:Nat.testBit mask i=true)(H:aZ h base log mask rs=some rs'):aZ h base log mask (⟨i,o,e,v,k⟩::rs)=some rs':=Kt hb H
theorem aB{log:List Nat}{mask i:Nat}{o:aW}{e:Env}{v:Value}{k:Rk}{rs rs':List Rec}(hb:Nat.testBit mask i=false)(hq:pG h base ⟨i,o,e,v,k⟩=true)(hm:D6 log ⟨i,o,e,v,k⟩=true)(H:aZ h base log mask rs=some rs'):
 aZ h base log mask (⟨i,o,e,v,k⟩::rs)=some (⟨i,o,e,v,k⟩::rs'):=Ku hb hq hm H
theorem sU{size n:Nat}{v:Value}{cs:List Value}{l:List Nat}(hs:cW h size v=some (cs,n)):cW {h with log:=l} size v=some (cs,n):=by
 have:cW {h with log:=l} size v=cW h size v:=by unfold cW;rfl
 rw[this];exact hs
theorem yR{x:Operand}{k:IntKind}{n d:Nat}(hx:ev h e x=some (.int k (n:Nat))):bnd h e d (some x)=some n:=by
 have:(.int k (n:Nat):Value)= .int k (Int.ofNat n):=rfl
 rw[this]at hx
 simp only[bnd,hx,nH]
theorem yQ{d:Nat}:bnd h e d none=some d:=rfl
theorem rE(n:Nat):Nat.beq n n=true:=by rw[beq_eq];simp
theorem ij{a b:Nat}(h:a≤b):Nat.ble a b=true:=by rw[ble_eq];simpa using h
theorem fR{a b:Nat}(h:a<b):Nat.blt a b=true:=by rw[blt_eq];simpa using h
theorem qn{a b:Nat}(h:¬a<b):Nat.blt a b=false:=by rw[blt_eq];simpa using h
theorem tZ{a b:Nat}(h:a≠b):Nat.beq a b=false:=by rw[beq_eq];simpa using h
theorem th{size b o n i:Nat}{k:IntKind}{x y:Operand}{vs:List Value}{own:Bool}(hx:ev h e x=some (.slice (some ⟨b,o,none⟩) n UNK))(hy:ev h e y=some (.int k (i:Nat)))(hb:h.get b=some (.cells vs own size))(hi:i≤n)(h0:0<n):
 aop h base e (.slice (.sl size) x none (some y) none)=some (.val (.slice (some ⟨b,o,none⟩) i UNK) h):=by
 simp only[aop,hx,iu,yR hy,yQ,hb,rE,ij (Nat.zero_le _),ij hi,fR h0,Bool.true_or,Bool.and_true,cond_true,fD,Nat.zero_mul,Nat.add_zero,Nat.sub_zero]
theorem oR{size b o n i:Nat}{k:IntKind}{x y:Operand}{vs:List Value}{own:Bool}(hx:ev h e x=some (.slice (some ⟨b,o,none⟩) n UNK))(hy:ev h e y=some (.int k (i:Nat)))(hb:h.get b=some (.cells vs own size))(hi:i<n):
 aop h base e (.slice (.sl size) x (some y) none none)=some (.val (.slice (some ⟨b,o+i*size,none⟩) (n-i) UNK) h):=by
 simp only[aop,hx,iu,yR hy,yQ,hb,rE,ij (Nat.le_of_lt hi),ij (Nat.le_refl n),fR hi,Bool.true_or,Bool.and_true,cond_true,fD]
theorem BR{z vs ws:List Value}{x:Operand}{b o n c sz:Nat}(hx:ev h e x=some (.slice (some ⟨b,o,none⟩) n c))(hn:n≠0)(hb:h.get b=some (.cells vs true sz))(hl:o+(eE n z).length≤vs.length)(h1:dR (eE n z)=true)(hw:cO vs o (eE n z)=ws):
 aop h base e (.clear z x)=some (.val (.tuple #[]) (h.wr base b (.cells ws true sz))):=by
 have h5:Nat.ble (o+bZ (eE n z)) (bZ vs)=true:=by rw[bQ,bQ];exact ij hl
 simp only[aop,hx,tZ hn,hb,h5,h1,Bool.and_true,cond_true,cond_false,hw]
theorem AF{b:Nat}(hb:b<h.next)(o:bJ):({({h with log:=[]}:Heap).wr h.next b o with log:=aC base h.log (({h with log:=[]}:Heap).wr h.next b o).log}:Heap)=h.wr base b o:=by
 rw[qj hb]
 rfl
theorem eX{α:Type}{l m:List α}{o:Nat}(ho:o+m.length≤l.length):cO l o m=l.take o++m++l.drop (o+m.length):=by
 apply List.ext_getElem?
 intro i
 rw[lS m l o i ho]
 by_cases h1:o≤i∧i<o+m.length
 ·rw[if_pos h1,List.getElem?_append_left (by simp;omega),List.getElem?_append_right (by simp;omega)]
  congr 1;simp;omega
 ·rw[if_neg h1]
  by_cases h2:i<o
  ·rw[List.getElem?_append_left (by simp;omega),List.getElem?_append_left (by simp;omega),List.getElem?_take_of_lt h2]
  ·rw[List.getElem?_append_right (by simp;omega),List.getElem?_drop]
   congr 1;simp;omega
structure Upd (h h':Heap) (b:Nat) (o:bJ):Prop where
 next:h.next≤h'.next
 log:h'.log=[b]
 old:∀x,x<h.next→x≠b→h'.get x=h.get x
 obj:h'.get b=some o
 wf:WF h→WF h'
end Go.A
end
section
namespace Go.A
theorem z1(h:Heap)(o:bJ):(h.push o).next=h.next+1:=rfl
theorem z2(h:Heap)(base b:Nat)(o:bJ):(h.wr base b o).next=h.next:=rfl
theorem z3(h:Heap)(o:bJ):(h.push o).get h.next=some o:=Heap.gr h o
theorem z4{h:Heap}{o:bJ}{x:Nat}(hx:x<h.next):(h.push o).get x=h.get x:=Heap.fJ hx
theorem z5{h:Heap}{base b:Nat}{o:bJ}{x:Nat}(hx:x≠b):(h.wr base b o).get x=h.get x:=Heap.eM hx
theorem z6(h:Heap)(base b:Nat)(o:bJ):(h.wr base b o).get b=(h.get b).map fun _=>o:=Heap.zo h base b o
theorem z7{α β:Type}(f:α→β)(a:α):Option.map f (some a)=some (f a):=rfl
theorem z8{h:Heap}{o:bJ}{x:Nat}(h1:x≤h.next)(h2:h.next≤x):(h.push o).get x=some o:=Heap.zn h1 h2
theorem z9{h:Heap}{base b:Nat}{o:bJ}{x:Nat}(h1:x≤b)(h2:b≤x):(h.wr base b o).get x=(h.get x).map fun _=>o:=Heap.Df h1 h2
end Go.A
end
section
namespace Go.A
variable {T:Nat→Option af} {base:Nat} {rnd:Option Nat} {Q:XQ} {e:Env} {ds:Dfs} {h:Heap}
def eF(lo:Nat)(l:List Nat):Prop:=∀x∈l,lo≤x
theorem eF.nil(lo:Nat):eF lo []:=fun x hx=>by cases hx
theorem eF.merge{lo base:Nat}:∀{m l:List Nat},eF lo l→eF lo m→eF lo (aC base l m)
 |[],l,h1,_=>h1
 |b::m,l,h1,h2=>by
  simp only[aC]
  refine eF.merge ?_ fun x hx=>h2 x (List.mem_cons_of_mem _ hx)
  have hb:=h2 b (List.mem_cons_self ..)
  simp only[cond_eq_ite]
  split
  ·split
   ·exact h1
   ·intro x hx
    rcases List.mem_cons.1 hx with rfl|hx
    ·exact hb
    ·exact h1 x hx
  ·exact h1
structure Lk (lo:Nat) (h h':Heap):Prop where
 next:h.next≤h'.next
 log:eF lo h.log→eF lo h'.log
 old:∀x,x<lo→h'.get x=h.get x
 wf:WF h→WF h'
theorem Lk.refl(lo:Nat)(h:Heap):Lk lo h h:=⟨Nat.le_refl _,id,fun _ _=>rfl,id⟩
theorem Lk.trans{lo:Nat}{a b c:Heap}(x:Lk lo a b)(y:Lk lo b c):Lk lo a c:=⟨Nat.le_trans x.next y.next,fun h=>y.log (x.log h),fun z hz=>(y.old z hz).trans (x.old z hz),fun w=>y.wf (x.wf w)⟩
theorem Lk.push{lo:Nat}{a b:Heap}(x:Lk lo a b)(hlo:lo≤b.next)(o:bJ):Lk lo a (b.push o):=x.trans ⟨Nat.le_succ _,id,fun z hz=>Heap.fJ (by omega),fun w=>w.push o⟩
theorem Lk.wr{lo:Nat}{a b:Heap}(x:Lk lo a b){base y:Nat}{o:bJ}(hy:lo≤y):Lk lo a (b.wr base y o):=
 x.trans ⟨Nat.le_refl _,fun hl=>by
  simp only[Heap.wr,cond_eq_ite]
  split
  ·split
   ·exact hl
   ·intro z hz
    rcases List.mem_cons.1 hz with rfl|hz
    ·exact hy
    ·exact hl z hz
  ·exact hl,fun z hz=>Heap.eM (by omega),fun w=>w.as (AS.wr _ _ _ _)⟩
theorem Ext.lk{lo:Nat}{a b:Heap}(x:Ext a b)(hlo:lo≤a.next):Lk lo a b:=⟨x.next,fun h=>by rw[x.log];exact h,fun z hz=>x.old z (by omega),x.wf⟩
theorem pe{l:List Nat}{x:Nat}(h:x ∉ l):fh l x=false:=by
 cases e:fh l x with
 |false=>rfl
 |true=>exact(h (iH.1 e)).elim
theorem Lk.nK{lo:Nat}{h h':Heap}(hA:AS h.next h h')(hlo:lo≤h.next)(hl:eF lo h'.log):Lk lo h h':=
 ⟨hA.next,fun _=>hl,fun x hx=>hA.same x (by omega) (by omega) (pe fun hm=>by have:=hl x hm;omega),fun w=>w.as hA⟩
theorem Lk.call{lo:Nat}{h h2:Heap}(x:Lk lo {h with log:=[]} h2):Lk lo h {h2 with log:=aC base h.log h2.log}:=
 ⟨x.next,fun hl=>hl.merge (x.log (eF.nil _)),x.old,fun w=>(x.wf (w.log [])).log _⟩
def Gr(T:Nat→Option af)(f:Nat)(args:List Value)(h:Heap)(lo:Nat)(Q:Value→Heap→Prop):Prop:=CW T f args h fun r h'=>Lk lo h h'∧∃v,r= .ret v∧Q v h'
structure Me (rs:List (Nat×Option (Option Nat))) (lo:Nat) (Q:Value→Heap→Prop) (x:bw) (e:Env) (ds:Dfs) (h1:Heap):Prop where
 ok:(x= .normal∨x= .ret)∧ds=[]∧eF lo h1.log∧∃vs,bY h1 e rs=some vs∧Q (eS vs) h1
theorem zb{rs:List (Nat×Option (Option Nat))}{lo:Nat}{Q:Value→Heap→Prop}{vs:List Value}(hl:eF lo h.log)(hr:bY h e rs=some vs)(hq:Q (eS vs) h):Me rs lo Q .ret e [] h:=⟨⟨.inr rfl,rfl,hl,vs,hr,hq⟩⟩
theorem Fq{rs:List (Nat×Option (Option Nat))}{lo:Nat}{Q:Value→Heap→Prop}{vs:List Value}(hl:eF lo h.log)(hr:bY h e rs=some vs)(hq:Q (eS vs) h):Me rs lo Q .normal e [] h:=⟨⟨.inl rfl,rfl,hl,vs,hr,hq⟩⟩
theorem nq{h h1:Heap}{v:Value}(hA:AS h.next h h1):(∀x,x<h.next→(gcA h h1 v).get x=h1.get x)∧h.next≤(gcA h h1 v).next∧(gcA h h1 v).log=h1.log∧(cB v=false→gcA h h1 v=h1):=by
 unfold gcA
 cases hc:(cB v&&fE h1 h.next h1.log)with
 |false=>exact⟨fun _ _=>rfl,hA.next,rfl,fun _=>rfl⟩
 |true=>
  refine⟨fun x hx=> ?_,Nat.le_refl _,rfl,fun hn=>by rw[hn]at hc;cases hc⟩
  have hA':=hA.keys
  have hlen:(cT h.next (h1.next-h.next)).length=h1.next-h.next:=by
   generalize h1.next-h.next=n
   induction n with
   |zero=>rfl
   |succ n ih=>simp[cT,ih]
  have hkt:(h1.bR.take (h1.next-h.next)).map (·.1)=cT h.next (h1.next-h.next):=by
   rw[List.map_take,hA',List.take_append_of_le_length (by omega),List.take_of_length_le (by omega)]
  have:=j7 _ h.next _ (h1.bR.drop (h1.next-h.next)) hkt x hx
  rw[List.take_append_drop]at this
  show eR (bW (h1.next-h.next) h1.bR) x=eR h1.bR x
  rw[bD]
  exact this.symm
theorem wr0(l:Nat)(o:bJ):({h with bR:=gZ h.bR l o}:Heap)=h.wr 0 l o:=rfl
def busy:bJ→Bool
 | .loop _ _ _ _ 1 _=>true
 |_=>false
theorem uV{f:Operand}{ps:List Nat}{asg body:aY}{g:Nat}{first cap:Array Value}(hr:mJ h rnd=true)(hf:ev h e f=some (.func (.func g) first cap))(hnc:fS (T g)=false)
 (H:CW T g (dI first.toList (dI [.func (.yield h.next) #[] #[]] cap.toList)) {h.push (.loop e ps asg body 0 .normal)with log:=[]} fun r h2=>∃v,r= .ret v∧∃e' ps' a' b' st gV,h2.get h.next=some (.loop e' ps' a' b' st gV)∧Nat.beq st 1=false∧
   Q gV e ds (({h2 with log:=aC base h.log h2.log}:Heap).wr base h.next .dead)):WE T base rnd (.rangeFunc f ps asg body) Q e ds h:=by
 obtain⟨r,h2,⟨m,hm⟩,v,rfl,e',ps',a',b',st,gV,hl,hst,hq⟩:=H
 refine⟨⟨gV,e,ds,_,⟨m+1,fun n hn=> ?_⟩,hq⟩⟩
 obtain⟨k,rfl⟩:∃k,n=k+1:=⟨n-1,by omega⟩
 simp only[cu,hr,hf,hnc,cond_true,cond_false,hm k (by omega),hl,hst]
theorem FW.BG(hp:bt T){fn:Fn}{args:List Value}{Q:Res→Heap→Prop}(H:FW T fn args h Q)(hl:h.log=[]):FW T fn args h fun r h'=>AS h.next h h'∧Q r h':=by
 obtain⟨r,h',⟨m,hm⟩,hq⟩:=H
 exact⟨r,h',⟨m,hm⟩,(eO.all hp m).iy _ _ _ _ _ (hm m (Nat.le_refl _)) hl,hq⟩
theorem FW.mono'{fn:Fn}{args:List Value}{Q Q':Res→Heap→Prop}(H:FW T fn args h Q)(hq:∀r h',Q r h'→Q' r h'):FW T fn args h Q':=
 let⟨r,h',h1,h2⟩:=H;⟨r,h',h1,hq _ _ h2⟩
theorem AS.zero{base:Nat}{h h':Heap}(a:AS base h h'):AS 0 h h':=⟨a.next,a.keys,fun b hb=>by omega,fun b hb=>by omega⟩
theorem vI{h h1:Heap}{v:Value}(hA:AS 0 h h1):(∀x,x<h.next→(gcA h h1 v).get x=h1.get x)∧h.next≤(gcA h h1 v).next∧(gcA h h1 v).log=h1.log:=by
 unfold gcA
 cases hc:(cB v&&fE h1 h.next h1.log)with
 |false=>exact⟨fun _ _=>rfl,hA.next,rfl⟩
 |true=>
  refine⟨fun x hx=> ?_,Nat.le_refl _,rfl⟩
  have hA':=hA.keys
  have hlen:(cT h.next (h1.next-h.next)).length=h1.next-h.next:=by
   generalize h1.next-h.next=n
   induction n with
   |zero=>rfl
   |succ n ih=>simp[cT,ih]
  have hkt:(h1.bR.take (h1.next-h.next)).map (·.1)=cT h.next (h1.next-h.next):=by
   rw[List.map_take,hA',List.take_append_of_le_length (by omega),List.take_of_length_le (by omega)]
  have:=j7 _ h.next _ (h1.bR.drop (h1.next-h.next)) hkt x hx
  rw[List.take_append_drop]at this
  show eR (bW (h1.next-h.next) h1.bR) x=eR h1.bR x
  rw[bD]
  exact this.symm
structure PW (l wb:Nat) (H0:Heap) (L:bJ) (O:List (Nat×Nat)→bJ) (done:List (Nat×Nat)) (H:Heap):Prop where
 old:∀x,x<l→x≠wb→H.get x=H0.get x
 obj:H.get wb=some (O done)
 loop:H.get l=some L
 nx:l<H.next
inductive Own (lo:Nat) (h:Heap) (sz:Nat):Value→Nat→List Value→Prop
 |nil:Own lo h sz (.slice none 0 0) 0 []
 |full {q n cs}:lo≤q→q<h.next→h.get q=some (.cells cs true sz)→cs.length=n*sz→n≠0→Own lo h sz (.slice (some ⟨q,0,none⟩) n UNK) n cs
theorem Own.slice{lo sz n:Nat}{v:Value}{cs:List Value}(s:Own lo h sz v n cs)(hn:n<4000000):bK h sz v n cs:=by
 cases s with
 |nil=>exact .nil
 |full h1 h2 h3 h4 h5=>
  refine .mem ⟨h2,⟨_,_,_,h3,?_⟩,h4⟩ (by unfold UNK;omega)
  rw[cG,bD,List.drop_zero,List.take_of_length_le (by omega)]
theorem Own.keep{lo sz n:Nat}{h':Heap}{v:Value}{cs:List Value}(s:Own lo h sz v n cs)(hn:h.next≤h'.next)(ha:∀z,lo≤z→z<h.next→h'.get z=h.get z):Own lo h' sz v n cs:=by
 cases s with
 |nil=>exact .nil
 |full h1 h2 h3 h4 h5=>exact .full h1 (by omega) ((ha _ h1 h2).trans h3) h4 h5
theorem Own.ext{lo sz n:Nat}{h':Heap}{v:Value}{cs:List Value}(s:Own lo h sz v n cs)(x:Ext h h'):Own lo h' sz v n cs:=s.keep x.next fun z _ hz=>x.old z hz
theorem Own.log{lo sz n:Nat}{v:Value}{cs:List Value}(s:Own lo h sz v n cs)(m:List Nat):Own lo {h with log:=m} sz v n cs:=s.keep (h':={h with log:=m}) (Nat.le_refl _) fun _ _ _=>rfl
theorem Own.low{lo lo' sz n:Nat}{v:Value}{cs:List Value}(s:Own lo h sz v n cs)(hl:lo'≤lo):Own lo' h sz v n cs:=by
 cases s with
 |nil=>exact .nil
 |full h1 h2 h3 h4 h5=>exact .full (by omega) h2 h3 h4 h5
structure Lx (lo:Nat) (h h':Heap):Prop where
 next:h.next≤h'.next
 log:h'.log=h.log
 old:∀z,z<lo→h'.get z=h.get z
 wf:WF h→WF h'
theorem Lx.refl(lo:Nat)(h:Heap):Lx lo h h:=⟨Nat.le_refl _,rfl,fun _ _=>rfl,id⟩
theorem Lx.trans{lo:Nat}{a b c:Heap}(x:Lx lo a b)(y:Lx lo b c):Lx lo a c:=⟨Nat.le_trans x.next y.next,y.log.trans x.log,fun z hz=>(y.old z hz).trans (x.old z hz),fun w=>y.wf (x.wf w)⟩
theorem Lx.push{lo:Nat}{a b:Heap}(x:Lx lo a b)(hlo:lo≤b.next)(o:bJ):Lx lo a (b.push o):=x.trans ⟨Nat.le_succ _,rfl,fun z hz=>Heap.fJ (by omega),fun w=>w.push o⟩
theorem Lx.wr{lo:Nat}{a b:Heap}(x:Lx lo a b){base y:Nat}{o:bJ}(hy:lo≤y)(hb:base≤y):Lx lo a (b.wr base y o):=x.trans ⟨Nat.le_refl _,Heap.aN hb,fun z hz=>Heap.eM (by omega),fun w=>w.as (AS.wr _ _ _ _)⟩
theorem Ext.lx{lo:Nat}{a b:Heap}(x:Ext a b)(hlo:lo≤a.next):Lx lo a b:=⟨x.next,x.log,fun z hz=>x.old z (by omega),x.wf⟩
theorem Lx.ext{a b:Heap}(x:Lx a.next a b):Ext a b:=⟨x.next,x.log,x.old,x.wf⟩
theorem K4{lo sz bytes n:Nat}{dst:Option Nat}{os:List aW}{x y:Operand}{v u:Value}{cs c1:List Value}(s:Own lo h sz v n cs)(hn:n<1000000)(hsz:0<sz)(hb:bytes≤100000)(hlo:lo≤h.next)(hbase:base≤lo)
 (hx:ev h e x=some v)(hy:ev h e y=some u)(hs:cW h sz u=some (c1,1))(hl1:c1.length=sz)(h1:dR c1=true)
 (hK:∀v' h',Own lo h' sz v' (n+1) (cs++c1)→Lx lo h h'→WO T base rnd Q os (bM e dst v') ds h'):WO T base rnd Q (⟨dst, .append sz bytes x y,none⟩::os) e ds h:=by
 have hbd:(2*(n+1)+768)*bytes≤281474976710656:=by
  have:(2*(n+1)+768)*bytes≤2000768*100000:=Nat.mul_le_mul (by omega) hb
  omega
 cases s with
 |nil=>
  refine an (qS (n:=1) hx hy hs (by omega) (by simpa using hbd) rfl) ?_
  refine hK _ _ ?_ ((Lx.refl lo h).push hlo _)
  have:=Own.full (lo:=lo) (h:=h.push (.cells c1 true sz)) (sz:=sz) (q:=h.next) (n:=1) (cs:=c1) hlo (Nat.lt_succ_self _) (Heap.gr _ _) (by omega) (by omega)
  exact this
 | @full q _ _ q1 q2 q3 q4 q5=>
   refine an (mg (n:=1) (vs:=cs) (ws:=cs++c1) hx hy hs (by omega) q3 q4 hsz h1 hbd (dD _ _)) ?_
   refine hK _ _ ?_ (((Lx.refl lo h).wr q1 (by omega)).push hlo _)
   refine .full hlo (Nat.lt_succ_self _) ?_ (by rw[List.length_append,q4,hl1,Nat.add_mul,Nat.one_mul]) (by omega)
   exact Heap.gr _ _
theorem bA{base:Nat}{rnd:Option Nat}{Q:XQ}{e:Env}{ds:Dfs}{h:Heap}{dst:Option Nat}{op:AOp}{os:List aW}{t:Nat}{b:Bool}{vs:Array Value}(hg:geT e t=some (.tuple vs))(H:WO T base rnd Q os (bM e dst (.tuple #[])) ds h):WO T base rnd Q (⟨dst,op,some (t,b)⟩::os) e ds h:=by
 obtain⟨x',e',ds',h',⟨m,h1⟩,h2⟩:=H.ok
 exact⟨x',e',ds',h',⟨m+1,fun n hn=>by
  obtain⟨k,rfl⟩:∃k,n=k+1:=⟨n-1,by omega⟩
  simp only[gh,bC,hg];exact h1 k (by omega)⟩,h2⟩
structure Ws (S:Nat→Prop) (h h':Heap):Prop where
 next:h.next≤h'.next
 log:∀z∈h'.log,z∈h.log∨S z
 old:∀z,z<h.next→¬S z→h'.get z=h.get z
 wf:WF h→WF h'
theorem Ws.nK{S:Nat→Prop}{h h':Heap}(hA:AS h.next h h')(hl:∀z∈h'.log,S z):Ws S h h':=
 ⟨hA.next,fun z hz=> .inr (hl z hz),fun z hz hn=>hA.same z hz hz (pe fun hm=>hn (hl z hm)),fun w=>w.as hA⟩
theorem vN{base z:Nat}:∀{m l:List Nat},z∈aC base l m→z∈l∨z∈m
 |[],l,h=> .inl h
 |b::m,l,h=>by
  simp only[aC]at h
  rcases vN (m:=m) h with h|h
  ·revert h
   rw[cond_eq_ite,cond_eq_ite]
   split
   ·split
    ·exact .inl
    ·intro h
     rcases List.mem_cons.1 h with rfl|h
     ·exact .inr (List.mem_cons_self ..)
     ·exact .inl h
   ·exact .inl
  ·exact .inr (List.mem_cons_of_mem _ h)
theorem Ws.call{S:Nat→Prop}{h h2:Heap}(x:Ws S {h with log:=[]} h2):Ws S h {h2 with log:=aC base h.log h2.log}:=
 ⟨x.next,fun z hz=>(vN hz).imp id fun q=>(x.log z q).elim (fun q=>by cases q) id,x.old,fun w=>(x.wf (w.log [])).log _⟩
def Gs(T:Nat→Option af)(f:Nat)(args:List Value)(h:Heap)(S:Nat→Prop)(Q:Value→Heap→Prop):Prop:=CW T f args h fun r h'=>Ws S h h'∧∃v,r= .ret v∧Q v h'
structure OW (rs:List (Nat×Option (Option Nat))) (S:Nat→Prop) (Q:Value→Heap→Prop) (x:bw) (e:Env) (ds:Dfs) (h1:Heap):Prop where
 ok:(x= .normal∨x= .ret)∧ds=[]∧(∀z∈h1.log,S z)∧∃vs,bY h1 e rs=some vs∧Q (eS vs) h1
theorem jd{rs:List (Nat×Option (Option Nat))}{S:Nat→Prop}{Q:Value→Heap→Prop}{vs:List Value}(hl:∀z∈h.log,S z)(hr:bY h e rs=some vs)(hq:Q (eS vs) h):OW rs S Q .ret e [] h:=⟨⟨.inr rfl,rfl,hl,vs,hr,hq⟩⟩
theorem Gs.of(hp:bt T){f:Nat}{args:List Value}{c:aY}{rs:List (Nat×Option (Option Nat))}{S:Nat→Prop}{Q:Value→Heap→Prop}(hf:T f=some (.code c rs))
 (hQ:∀v h1 h2,cB v=true→h.next≤h2.next→(∀x,x<h.next→h2.get x=h1.get x)→Q v h1→Q v h2)(H:WE T h.next none c (OW rs S Q) (dV 0 args) [] h):Gs T f args h S Q:=by
 obtain⟨x,e,ds,h1,⟨m,hm⟩,⟨hx,rfl,hl,vs,hvs,hq⟩⟩:=H.ok
 have hA:=(eO.all hp m).exec _ _ _ _ _ _ _ _ _ _ (hm m (Nat.le_refl _)) (Nat.le_refl _)
 obtain⟨g1,g2,g3,g4⟩:=nq (v:=eS vs) hA
 have key:Ws S h (gcA h h1 (eS vs))∧∃v,Res.ret (eS vs)= .ret v∧Q v (gcA h h1 (eS vs)):=by
  refine⟨Ws.nK (hA.gc' _) (by rw[g3];exact hl),_,rfl,?_⟩
  cases hv:cB (eS vs)with
  |true=>exact hQ _ _ _ hv g2 g1 hq
  |false=>rw[g4 hv];exact hq
 refine CW.code hf ⟨x,e,[],h1,⟨m,hm⟩,?_⟩
 unfold u0
 rcases hx with rfl|rfl<;>(simp only[hvs];exact key)
theorem FW.gs{f:Nat}{args:List Value}{S:Nat→Prop}{Q':Value→Heap→Prop}{K:Env→Dfs→Heap→Prop}{dst:Option Nat}(H:Gs T f args {h with log:=[]} S Q')(hlog:∀v (h':Heap) l,Q' v h'→Q' v {h' with log:=l})(hK:∀v h',Ws S h h'→Q' v h'→K (bM e dst v) ds h'):
 FW T (.func f) args {h with log:=[]} (KO K Q base dst e ds h.log):=by
 refine .func (CW.mono H ?_)
 rintro r h2 ⟨hx,v,rfl,hq⟩
 exact⟨hK v _ hx.call (hlog v h2 _ hq)⟩
theorem FW.gsD{f:Nat}{args:List Value}{S:Nat→Prop}{Q':Value→Heap→Prop}{K:List Rec→Env→Heap→Prop}{mask:Nat}{rs:List Rec}{dst:Option Nat}(H:Gs T f args {h with log:=[]} S Q')(hlog:∀v (h':Heap) l,Q' v h'→Q' v {h' with log:=l})
 (hK:∀v h' lg,Ws S h h'→(∀z∈lg,S z)→Q' v h'→∃rs',aZ h' base lg mask rs=some rs'∧K rs' (bM e dst v) h'):FW T (.func f) args {h with log:=[]} (KD K base mask rs dst e h.log):=by
 refine .func (CW.mono H ?_)
 rintro r h2 ⟨hx,v,rfl,hq⟩
 obtain⟨rs',q1,q2⟩:=hK v {h2 with log:=aC base h.log h2.log} h2.log hx.call (fun z hz=>(hx.log z hz).elim (fun q=>by cases q) id) (hlog v h2 _ hq)
 refine⟨?_⟩
 show kD K base mask rs dst e h.log (.ret v) h2
 unfold kD
 simp only[q1]
 exact q2
theorem uX{base b:Nat}{o:bJ}{S:Nat→Prop}(hl:∀z∈h.log,S z)(hb:S b):∀z∈(h.wr base b o).log,S z:=by
 intro z hz
 simp only[Heap.wr,cond_eq_ite]at hz
 split at hz
 ·split at hz
  ·exact hl z hz
  ·rcases List.mem_cons.1 hz with rfl|hz
   ·exact hb
   ·exact hl z hz
 ·exact hl z hz
theorem Ws.trans{S:Nat→Prop}{a b c:Heap}(x:Ws S a b)(y:Ws S b c):Ws S a c:=
 ⟨Nat.le_trans x.next y.next,fun z hz=>(y.log z hz).elim (x.log z) .inr,fun z hz hn=>(y.old z (Nat.lt_of_lt_of_le hz x.next) hn).trans (x.old z hz hn),fun w=>y.wf (x.wf w)⟩
theorem Ext.ws{S:Nat→Prop}{a b:Heap}(x:Ext a b):Ws S a b:=⟨x.next,fun z hz=> .inl (x.log▸hz),fun z hz _=>x.old z hz,x.wf⟩
theorem Av{k k':IntKind}{n m:Int}{x:Operand}(hx:ev h e x=some (.int k' n))(hm:fM k n=m):aop h base e (.conv (.int k) x)=some (.val (.int k m) h):=by
 subst hm;simp only[aop,hx,cF,oK,fD]
theorem EI{len size i:Nat}{k:IntKind}{x y:Operand}{cs:Array Value}{v:Value}(hx:ev h e x=some (.agg cs))(hy:ev h e y=some (.int k (i:Nat)))(hi:i<len)(hv:bH cs.toList (i*size)=some v):aop h base e (.rq len size none x y)=some (.val v h):=by
 have:(.int k (i:Nat):Value)= .int k (Int.ofNat i):=rfl
 rw[this]at hy
 simp only[aop,hx,hy,fR hi,cond_true,hv,cF]
def mi(a b:Int):Int:=if b<a then b else a
theorem oQ{x y:Operand}{a b:Int}(hx:ev h e x=some (.int .i64 a))(hy:ev h e y=some (.int .i64 b)):aop h base e (.ei false [x,y])=some (.val (.int .i64 (mi a b)) h):=by
 simp only[aop,evs,hx,hy,mmA,if_true,cF,mi];rfl
theorem oF{n:Nat}(h2:n<18446744073709551616):fM .u64 (n:Int)=n:=by
 have e1:((n:Nat):Int)=Int.ofNat n:=rfl
 rw[e1]
 simp only[fM,fR h2,cond_true]
theorem Ph{a b:Nat}(ha:a<18446744073709551616)(hb:b<18446744073709551616):aA .or (.int .u64 a) (.int .u64 b)=some (.int .u64 ((Nat.lor a b:Nat):Int)):=by
 have e1:((a:Nat):Int)=Int.ofNat a:=rfl
 have e2:((b:Nat):Int)=Int.ofNat b:=rfl
 rw[e1,e2]
 simp only[aA,arith,mj,fR ha,fR hb,Bool.and_self,cond_true,if_true]
 rfl
theorem ql{a b:Nat}(ha:a<18446744073709551616)(hb:b<18446744073709551616):aA .and (.int .u64 a) (.int .u64 b)=some (.int .u64 ((Nat.land a b:Nat):Int)):=by
 have e1:((a:Nat):Int)=Int.ofNat a:=rfl
 have e2:((b:Nat):Int)=Int.ofNat b:=rfl
 rw[e1,e2]
 simp only[aA,arith,mj,fR ha,fR hb,Bool.and_self,cond_true,if_true]
 rfl
theorem rZ{a n:Nat}{k:IntKind}(hn:n≤64):aA .shr (.int .u64 a) (.int k n)=some (.int .u64 ((Nat.shiftRight a n:Nat):Int)):=by
 have e1:((a:Nat):Int)=Int.ofNat a:=rfl
 have e2:((n:Nat):Int)=Int.ofNat n:=rfl
 rw[e1,e2]
 simp only[aA,mK,Nat.min_eq_left hn]
 rfl
theorem rB{a b:Nat}(h:a+b<18446744073709551616):aA .add (.int .u64 a) (.int .u64 b)=some (.int .u64 ((a+b:Nat):Int)):=nE (by rw[←Int.natCast_add];exact oF h)
theorem Mw{a:Nat}:aA .rem (.int .i64 a) (.int .i64 8)=some (.int .i64 ((a % 8:Nat):Int)):=by
 have e:(a:Int).tmod 8=((a % 8:Nat):Int):=by rw[Int.tmod_eq_emod_of_nonneg (by omega)];omega
 simp[aA,arith,e]
theorem Mt{a:Nat}(h1:a<9223372036854775808):aA .quo (.int .i64 a) (.int .i64 8)=some (.int .i64 ((a / 8:Nat):Int)):=by
 have e:fM .i64 ((a:Int).tdiv 8)=((a / 8:Nat):Int):=by
  rw[Int.tdiv_eq_ediv_of_nonneg (by omega),cQ (by omega) (by omega)];omega
 have e2:aA .quo (.int .i64 a) (.int .i64 8)=some (.int .i64 (fM .i64 ((a:Int).tdiv 8))):=rfl
 rw[e2,e]
theorem tT{z:Nat}:∀{m l:List Nat},z∈l→z∈aC base l m
 |[],l,h=>h
 |b::m,l,h=>by
  simp only[aC]
  refine tT (m:=m) ?_
  rw[cond_eq_ite,cond_eq_ite]
  split
  ·split
   ·exact h
   ·exact List.mem_cons_of_mem _ h
  ·exact h
theorem mem_merge{z:Nat}(hz:z<base):∀{m l:List Nat},z∈m→z∈aC base l m
 |b::m,l,h=>by
  simp only[aC]
  rcases List.mem_cons.1 h with rfl|h
  ·refine tT ?_
   rw[fR hz,cond_true,cond_eq_ite]
   split
   ·rename_i hh;exact iH.1 hh
   ·exact List.mem_cons_self ..
  ·exact mem_merge hz h
theorem tC{l:Nat}{a:Env}{b:List Nat}{c d:aY}{st:Nat}{p:bw}(hl:h.get l=some (.loop a b c d st p))(hb:l<base):∀{lg:List Nat},l∈lg→fE h base lg=false
 |x::lg,hm=>by
  have ih:l∈lg→fE h base lg=false:=tC hl hb
  by_cases hx:x=l
  ·subst hx
   simp only[fE,fR hb,cond_true,hl]
  ·have hm':l∈lg:=by rcases List.mem_cons.1 hm with h1|h1;exact absurd h1.symm hx;exact h1
   simp only[fE,cond_eq_ite,ih hm']
   split
   ·split<;>simp
   ·rfl
theorem B9{h1:Heap}{v:Value}{l:Nat}{a:Env}{b:List Nat}{c d:aY}{st:Nat}{p:bw}(hl:h1.get l=some (.loop a b c d st p))(hb:l<h.next)(hm:l∈h1.log):gcA h h1 v=h1:=by
 unfold gcA
 rw[tC hl hb hm,Bool.and_false,cond_false]
theorem wC{b:Nat}{o:bJ}(hb:b<base):(h.wr base b o).log=if fh h.log b=true then h.log else b::h.log:=by
 unfold Heap.wr
 rw[fR hb]
 simp only[cond_eq_ite,if_true]
theorem dO{b z:Nat}{o:bJ}(hz:z∈(h.wr base b o).log):z=b∨z∈h.log:=by
 by_cases hb:b<base
 ·rw[wC hb]at hz
  by_cases hh:fh h.log b=true
  ·rw[if_pos hh]at hz;exact .inr hz
  ·rw[if_neg hh]at hz;exact List.mem_cons.1 hz
 ·rw[Heap.aN (by omega)]at hz;exact .inr hz
theorem pP{b:Nat}{o:bJ}(hb:b<base):b∈(h.wr base b o).log:=by
 rw[wC hb]
 by_cases hh:fh h.log b=true
 ·rw[if_pos hh];exact iH.1 hh
 ·rw[if_neg hh];exact List.mem_cons_self ..
structure YQX (l:Nat) (L LX:bJ) (lo N n:Nat) (R S:Heap→Prop) (x:bw) (e:Env) (ds:Dfs) (h3:Heap):Prop where
 busy:∃o,h3.get l=some o∧busy o=true
 log:∀z∈h3.log,lo≤z∧z<N
 rel:(x= .normal∧∀h5:Heap,n≤h5.next→(∀z,z<n→z≠l→h5.get z=h3.get z)→h5.get l=some L→R h5)∨(x= .ret∧∀h5:Heap,h5.next=h3.next→(∀z,z≠l→h5.get z=h3.get z)→h5.get l=some LX→S h5)
structure YAX (T:Nat→Option af) (l:Nat) (e:Env) (ps:List Nat) (asg body:aY) (lo N n:Nat) (R S:Heap→Prop) (x:bw) (e2:Env) (ds2:Dfs) (h2:Heap):Prop where
 x:x= .normal
 loop:h2.get l=some (.loop e ps asg body 0 .normal)
 body:WE T n (some l) body (YQX l (.loop e ps asg body 0 .normal) (.loop e ps asg body 2 .ret) lo N n R S) e2 ds2 (h2.wr 0 l (.loop e ps asg body 1 .normal))
theorem FW.I3(hp:bt T){l lo N:Nat}{e e1:Env}{ps:List Nat}{asg body:aY}{args:List Value}{R S:Heap→Prop}(hl:h.get l=some (.loop e ps asg body 0 .normal))(he:ir e ps args=some e1)(hlN:l<h.next)(hlo:lo≤l∧l<N)
 (H:WE T h.next (some l) asg (YAX T l e ps asg body lo N h.next R S) e1 [] h):
 FW T (.yield l) args h fun r h'=>(∀z∈h'.log,lo≤z∧z<N)∧(r= .ret (.bool true)∧R h'∨r= .ret (.bool false)∧l∈h'.log∧S h'):=by
 obtain⟨x,e2,ds2,h2,⟨m,hm⟩,⟨rfl,hl2,H2⟩⟩:=H.ok
 obtain⟨x3,e3,ds3,h3,⟨m3,hm3⟩,⟨⟨o,ho,hb⟩,hlog,hrel⟩⟩:=H2.ok
 have hnr:notReady (h2.get l)=false:=by rw[hl2];rfl
 have hloop:∃a b c d p,o= .loop a b c d 1 p:=by
  unfold A.busy at hb
  split at hb
  ·exact⟨_,_,_,_,_,rfl⟩
  ·cases hb
 obtain⟨oa,ob,oc,od,op,rfl⟩:=hloop
 rcases hrel with⟨rfl,hrel⟩|⟨rfl,hrel⟩
 ·have A1:=(eO.all hp m).exec _ _ _ _ _ _ _ _ _ _ (hm m (Nat.le_refl _)) (Nat.le_refl _)
  have A2:=(eO.all hp m3).exec _ _ _ _ _ _ _ _ _ _ (hm3 m3 (Nat.le_refl _)) A1.next
  have A3:AS 0 h (h3.wr 0 l (.loop e ps asg body 0 .normal)):=((A1.zero.trans (AS.wr 0 h2 l _)).trans A2.zero).trans (AS.wr 0 h3 l _)
  obtain⟨g1,g2,g3⟩:=vI (v:= .bool true) A3
  refine⟨.ret (.bool true),gcA h (h3.wr 0 l (.loop e ps asg body 0 .normal)) (.bool true),⟨m+m3+1,fun n hn=> ?_⟩,?_, .inl ⟨rfl,?_⟩⟩
  ·obtain⟨k,rfl⟩:∃k,n=k+1:=⟨n-1,by omega⟩
   have q1:=hm k (by omega)
   have q2:=hm3 k (by omega)
   rw[←wr0]at q2
   simp only[fT,hl,he,q1,hnr,cond_false,q2,ho]
   rfl
  ·rw[g3];exact hlog
  ·refine hrel _ g2 (fun z hz hne=>(g1 z hz).trans (Heap.eM hne)) ((g1 l hlN).trans ?_)
   exact Heap.bB ho
 ·refine⟨.ret (.bool false),h3.wr h.next l (.loop e ps asg body 2 .ret),⟨m+m3+1,fun n hn=> ?_⟩,?_, .inr ⟨rfl,pP hlN,?_⟩⟩
  ·obtain⟨k,rfl⟩:∃k,n=k+1:=⟨n-1,by omega⟩
   have q1:=hm k (by omega)
   have q2:=hm3 k (by omega)
   rw[←wr0]at q2
   simp only[fT,hl,he,q1,hnr,cond_false,q2,ho]
  ·intro z hz
   rcases dO hz with rfl|hz
   ·exact hlo
   ·exact hlog z hz
  ·exact hrel _ rfl (fun z hne=>Heap.eM hne) (Heap.bB ho)
structure EH {α:Type} (T:Nat→Option af) (lo N l:Nat) (V:α→Value) (all:List α) (P:List α→Heap→Prop) (S:Heap→Prop):Prop where
 pQ:∀done x H,x∈all→Rdy H→N≤H.next→P done H→FW T (.yield l) [V x] H fun r H'=>(∀z∈H'.log,lo≤z∧z<N)∧(r= .ret (.bool true)∧P (done++[x]) H'∨r= .ret (.bool false)∧l∈H'.log∧S H')
 fF:∀done H H',P done H→N≤H'.next→(∀x,x<N→H'.get x=H.get x)→P done H'
 Kz:∀H m,S H→S {H with log:=m}
 CE:∀H,S H→∃a b c d,H.get l=some (.loop a b c d 2 .ret)
theorem EH.call(hp:bt T){α:Type}{lo N l:Nat}{V:α→Value}{all:List α}{P:List α→Heap→Prop}{S:Heap→Prop}(Y:EH T lo N l V all P S){K:Env→Dfs→Heap→Prop}{dst:Option Nat}{done:List α}{x:α}(hx:x∈all)(hw:WF h)(hlo:lo≤h.next)(hN:N≤h.next)(hlb:l<base)(hP:P done h)
 (hK:∀h',Lk lo h h'→(∀z,N≤z→z<h.next→h'.get z=h.get z)→P (done++[x]) h'→K (bM e dst (.bool true)) ds h')
 (hX:∀h',Lk lo h h'→l∈h'.log→S h'→K (bM e dst (.bool false)) ds h'):FW T (.yield l) [V x] {h with log:=[]} (KO K Q base dst e ds h.log):=by
 refine FW.mono' (FW.BG hp (Y.pQ done x _ hx (.of hw) hN (Y.fF _ _ _ hP hN fun _ _=>rfl)) rfl) ?_
 rintro r h2 ⟨hA,hl,hq⟩
 have hk:Lk lo {h with log:=[]} h2:=Lk.nK hA hlo fun z hz=>(hl z hz).1
 rcases hq with⟨rfl,hq⟩|⟨rfl,hm,hq⟩
 ·refine⟨hK _ hk.call (fun z h1 h3=> ?_) (Y.fF _ _ _ hq (Nat.le_trans hN hA.next) fun _ _=>rfl)⟩
  exact hA.same z h3 h3 (pe fun hm=>by have:=(hl z hm).2;omega)
 ·exact⟨hX _ hk.call (mem_merge hlb hm) (Y.Kz _ _ hq)⟩
def GrX(T:Nat→Option af)(f:Nat)(args:List Value)(h:Heap)(lo:Nat)(P S:Heap→Prop):Prop:=CW T f args h fun r h'=>Lk lo h h'∧∃v,r= .ret v∧(P h'∨S h')
structure Mg (rs:List (Nat×Option (Option Nat))) (lo l:Nat) (P S:Heap→Prop) (x:bw) (e:Env) (ds:Dfs) (h1:Heap):Prop where
 ok:(x= .normal∨x= .ret)∧ds=[]∧eF lo h1.log∧(∃vs,bY h1 e rs=some vs)∧(P h1∨l∈h1.log∧S h1)
theorem Fv{rs:List (Nat×Option (Option Nat))}{lo l:Nat}{P S:Heap→Prop}{vs:List Value}(hl:eF lo h.log)(hr:bY h e rs=some vs)(hm:l∈h.log)(hq:S h):Mg rs lo l P S .ret e [] h:=⟨⟨.inr rfl,rfl,hl,⟨vs,hr⟩, .inr ⟨hm,hq⟩⟩⟩
theorem Fu{rs:List (Nat×Option (Option Nat))}{lo l:Nat}{P S:Heap→Prop}{vs:List Value}(hl:eF lo h.log)(hr:bY h e rs=some vs)(hq:P h):Mg rs lo l P S .normal e [] h:=⟨⟨.inl rfl,rfl,hl,⟨vs,hr⟩, .inl hq⟩⟩
theorem GrX.of(hp:bt T){f:Nat}{args:List Value}{c:aY}{rs:List (Nat×Option (Option Nat))}{lo l:Nat}{P S:Heap→Prop}(hf:T f=some (.code c rs))(hlo:lo≤h.next)(hlN:l<h.next)
 (hP:∀h1 h2:Heap,h.next≤h2.next→(∀x,x<h.next→h2.get x=h1.get x)→P h1→P h2)(hS:∀H,S H→∃a b c d,H.get l=some (.loop a b c d 2 .ret))(H:WE T h.next none c (Mg rs lo l P S) (dV 0 args) [] h):GrX T f args h lo P S:=by
 obtain⟨x,e,ds,h1,⟨m,hm⟩,⟨hx,rfl,hl,⟨vs,hvs⟩,hq⟩⟩:=H.ok
 have hA:=(eO.all hp m).exec _ _ _ _ _ _ _ _ _ _ (hm m (Nat.le_refl _)) (Nat.le_refl _)
 obtain⟨g1,g2,g3,g4⟩:=nq (v:=eS vs) hA
 have key:Lk lo h (gcA h h1 (eS vs))∧∃v,Res.ret (eS vs)= .ret v∧(P (gcA h h1 (eS vs))∨S (gcA h h1 (eS vs))):=by
  refine⟨Lk.nK (hA.gc' _) hlo (by rw[g3];exact hl),_,rfl,?_⟩
  rcases hq with hq|⟨hml,hq⟩
  ·exact .inl (hP _ _ g2 g1 hq)
  ·obtain⟨a,b,c,d,hlp⟩:=hS _ hq
   rw[B9 hlp hlN hml]
   exact .inr hq
 refine CW.code hf ⟨x,e,[],h1,⟨m,hm⟩,?_⟩
 unfold u0
 rcases hx with rfl|rfl<;>(simp only[hvs];exact key)
theorem tU{base:Nat}:∀{m l:List Nat},eF base m→aC base l m=l
 |[],_,_=>rfl
 |b::m,l,h=>by
  have hb:=h b (List.mem_cons_self ..)
  simp only[aC,qn (show¬b<base by omega),cond_false]
  exact tU fun x hx=>h x (List.mem_cons_of_mem _ hx)
theorem wB{h1:Heap}{f:Operand}{g lo:Nat}{first cap:Array Value}{ps:List Nat}{asg body:aY}{P S:Heap→Prop}(hr:mJ h1 rnd=true)(hf:ev h1 e f=some (.func (.func g) first cap))(hnc:fS (T g)=false)
 (hlo:base≤lo)(hlo2:lo≤h1.next)(hlog:h1.log=[])(w1:WF h1)
 (HG:GrX T g (dI first.toList (dI [.func (.yield h1.next) #[] #[]] cap.toList)) {h1.push (.loop e ps asg body 0 .normal)with log:=[]} lo P S)
 (hP:∀H,P H→∃a b c d,H.get h1.next=some (.loop a b c d 0 .normal))(hS:∀H,S H→∃a b c d,H.get h1.next=some (.loop a b c d 2 .ret))
 (K1:∀h2 h3:Heap,h3.log=[]→WF h3→h1.next<h3.next→h3.next=h2.next→(∀z,z≠h1.next→h3.get z=h2.get z)→P h2→Q .normal e ds h3)
 (K2:∀h2 h3:Heap,h3.log=[]→WF h3→h1.next<h3.next→h3.next=h2.next→(∀z,z≠h1.next→h3.get z=h2.get z)→S h2→Q .ret e ds h3):WE T base rnd (.rangeFunc f ps asg body) Q e ds h1:=by
 refine uV hr hf hnc (CW.mono HG ?_)
 rintro r h2 ⟨hk,v,rfl,hq⟩
 have hl2:eF base h2.log:=fun z hz=>Nat.le_trans hlo (hk.log (eF.nil _) z hz)
 have q1:(({h2 with log:=aC base h1.log h2.log}:Heap).wr base h1.next .dead).log=[]:=by
  rw[Heap.aN (by omega)]
  show aC base h1.log h2.log=[]
  rw[tU hl2,hlog]
 have q2:WF (({h2 with log:=aC base h1.log h2.log}:Heap).wr base h1.next .dead):=((hk.wf ((w1.push _).log _)).log _).as (AS.wr _ _ _ _)
 have q3:h1.next<h2.next:=hk.next
 have q4:∀z,z≠h1.next→(({h2 with log:=aC base h1.log h2.log}:Heap).wr base h1.next .dead).get z=h2.get z:=fun z hne=>Heap.eM hne
 rcases hq with hq|hq
 ·obtain⟨a,b,c,d,hl⟩:=hP _ hq
  exact⟨_,rfl,_,_,_,_,_,_,hl,rfl,K1 h2 _ q1 q2 q3 rfl q4 hq⟩
 ·obtain⟨a,b,c,d,hl⟩:=hS _ hq
  exact⟨_,rfl,_,_,_,_,_,_,hl,rfl,K2 h2 _ q1 q2 q3 rfl q4 hq⟩
structure RK {α:Type} (px:bw) (T:Nat→Option af) (lo N l:Nat) (V:α→List Value) (all:List α) (P:List α→Heap→Prop) (S:Heap→Prop):Prop where
 pQ:∀done x H,x∈all→Rdy H→N≤H.next→P done H→FW T (.yield l) (V x) H fun r H'=>(∀z∈H'.log,lo≤z∧z<N)∧(r= .ret (.bool true)∧P (done++[x]) H'∨r= .ret (.bool false)∧l∈H'.log∧S H')
 fF:∀done H H',P done H→N≤H'.next→(∀x,x<N→H'.get x=H.get x)→P done H'
 Kz:∀H m,S H→S {H with log:=m}
 CE:∀H,S H→∃a b c d,H.get l=some (.loop a b c d 2 px)
theorem IJ{b:aY}(H:WE T base rnd b Q e ds h):WE T base rnd (.scope b) Q e ds h:=by
 obtain⟨x,e',ds',h',⟨m,h1⟩,h2⟩:=H.ok
 exact⟨_,_,_,_,⟨m+1,fun n hn=>by
  obtain⟨k,rfl⟩:∃k,n=k+1:=⟨n-1,by omega⟩
  simp only[cu,h1 k (by omega)]⟩,h2⟩
def kj(h:Heap)(q:Nat):Prop:=∃vs own t,h.get q=some (.cells vs own t)∧cS vs=false
theorem rS{q n:Nat}(hq:q<n)(hd:kj h q):∀{l:List Nat},q∈l→fE h n l=false
 |b::l,hm=>by
  obtain⟨vs,own,t,g,hs⟩:=hd
  rcases List.mem_cons.1 hm with rfl|hm
  ·simp only[fE,fR hq,cond_true,g,hs,cond_false]
  ·have ih:=rS hq ⟨vs,own,t,g,hs⟩ hm
   simp only[fE]
   split<;>simp[ih,cond_eq_ite]
theorem wP{h1:Heap}{v:Value}{q:Nat}(hq:q<h.next)(hm:q∈h1.log)(hd:kj h1 q):gcA h h1 v=h1:=by
 unfold gcA
 rw[rS hq hd hm,Bool.and_false]
 rfl
structure YQK (l q:Nat) (L:bJ) (lo n:Nat) (R:Heap→Prop) (x:bw) (e:Env) (ds:Dfs) (h3:Heap):Prop where
 x:x= .normal
 busy:∃o,h3.get l=some o∧busy o=true
 log:∀z∈h3.log,lo≤z
 kept:q∈h3.log
 RG:kj h3 q
 rel:R (h3.wr 0 l L)
structure YAK (T:Nat→Option af) (l q:Nat) (e:Env) (ps:List Nat) (asg body:aY) (lo n:Nat) (R:Heap→Prop) (x:bw) (e2:Env) (ds2:Dfs) (h2:Heap):Prop where
 x:x= .normal
 loop:h2.get l=some (.loop e ps asg body 0 .normal)
 body:WE T n (some l) body (YQK l q (.loop e ps asg body 0 .normal) lo n R) e2 ds2 (h2.wr 0 l (.loop e ps asg body 1 .normal))
theorem FW.NL(hp:bt T){l q lo:Nat}{e e1:Env}{ps:List Nat}{asg body:aY}{args:List Value}{R:Heap→Prop}(hl:h.get l=some (.loop e ps asg body 0 .normal))(he:ir e ps args=some e1)(hlN:l<h.next)(hq:q<h.next)(hql:q≠l)
 (H:WE T h.next (some l) asg (YAK T l q e ps asg body lo h.next R) e1 [] h):FW T (.yield l) args h fun r h'=>r= .ret (.bool true)∧(∀z∈h'.log,lo≤z)∧q∈h'.log∧R h':=by
 obtain⟨x,e2,ds2,h2,⟨m,hm⟩,⟨rfl,hl2,H2⟩⟩:=H.ok
 obtain⟨x3,e3,ds3,h3,⟨m3,hm3⟩,⟨rfl,⟨o,ho,hb⟩,hlog,hk,⟨vs,own,t,gq,hs⟩,hrel⟩⟩:=H2.ok
 have hnr:notReady (h2.get l)=false:=by rw[hl2];rfl
 have hloop:∃a b c d p,o= .loop a b c d 1 p:=by
  unfold A.busy at hb
  split at hb
  ·exact⟨_,_,_,_,_,rfl⟩
  ·cases hb
 obtain⟨oa,ob,oc,od,op,rfl⟩:=hloop
 have hgc:gcA h (h3.wr 0 l (.loop e ps asg body 0 .normal)) (.bool true)=h3.wr 0 l (.loop e ps asg body 0 .normal):=wP (q:=q) hq (by rw[Heap.aN (by omega)];exact hk) ⟨vs,own,t,(Heap.eM hql).trans gq,hs⟩
 refine⟨.ret (.bool true),gcA h (h3.wr 0 l (.loop e ps asg body 0 .normal)) (.bool true),⟨m+m3+1,fun n hn=> ?_⟩,rfl,?_,?_,?_⟩
 ·obtain⟨k,rfl⟩:∃k,n=k+1:=⟨n-1,by omega⟩
  have q1:=hm k (by omega)
  have q2:=hm3 k (by omega)
  rw[←wr0]at q2
  simp only[fT,hl,he,q1,hnr,cond_false,q2,ho]
  rfl
 ·rw[hgc,Heap.aN (by omega)];exact hlog
 ·rw[hgc,Heap.aN (by omega)];exact hk
 ·rw[hgc];exact hrel
structure RJ {α:Type} (T:Nat→Option af) (lo N l q:Nat) (V:α→Value) (all:List α) (P:List α→Heap→Prop):Prop where
 hq:q<N
 pQ:∀done x rest H,all=done++x::rest→Rdy H→N≤H.next→P done H→FW T (.yield l) [V x] H fun r H'=>r= .ret (.bool true)∧(∀z∈H'.log,lo≤z)∧q∈H'.log∧kj H' q∧P (done++[x]) H'
 fF:∀done H H',P done H→H.next≤H'.next→(∀x,x<H.next→H'.get x=H.get x)→P done H'
theorem Gr.ofK(hp:bt T){f:Nat}{args:List Value}{c:aY}{rs:List (Nat×Option (Option Nat))}{lo:Nat}{Q Q':Value→Heap→Prop}(hf:T f=some (.code c rs))(hlo:lo≤h.next)
 (hQ:∀v h1,AS h.next h h1→Q v h1→Q' v (gcA h h1 v))(H:WE T h.next none c (Me rs lo Q) (dV 0 args) [] h):Gr T f args h lo Q':=by
 obtain⟨x,e,ds,h1,⟨m,hm⟩,⟨hx,rfl,hl,vs,hvs,hq⟩⟩:=H.ok
 have hA:=(eO.all hp m).exec _ _ _ _ _ _ _ _ _ _ (hm m (Nat.le_refl _)) (Nat.le_refl _)
 obtain⟨g1,g2,g3,g4⟩:=nq (v:=eS vs) hA
 have key:Lk lo h (gcA h h1 (eS vs))∧∃v,Res.ret (eS vs)= .ret v∧Q' v (gcA h h1 (eS vs)):=
  ⟨Lk.nK (hA.gc' _) hlo (by rw[g3];exact hl),_,rfl,hQ _ _ hA hq⟩
 refine CW.code hf ⟨x,e,[],h1,⟨m,hm⟩,?_⟩
 unfold u0
 rcases hx with rfl|rfl<;>(simp only[hvs];exact key)
theorem Et{h1:Heap}{f:Operand}{g lo:Nat}{first cap:Array Value}{ps:List Nat}{asg body:aY}{P:Heap→Prop}(hr:mJ h1 rnd=true)(hf:ev h1 e f=some (.func (.func g) first cap))(hnc:fS (T g)=false)
 (hlo:base≤lo)(hlo2:lo≤h1.next)(hlog:h1.log=[])(w1:WF h1)
 (HG:Gr T g (dI first.toList (dI [.func (.yield h1.next) #[] #[]] cap.toList)) {h1.push (.loop e ps asg body 0 .normal)with log:=[]} lo fun v h'=>v= .tuple #[]∧P h')
 (hP:∀H,P H→∃a b c d,H.get h1.next=some (.loop a b c d 0 .normal))
 (K:∀h2 h3:Heap,h3.log=[]→WF h3→h1.next<h3.next→h3.next=h2.next→(∀z,z≠h1.next→h3.get z=h2.get z)→(∀z,z<lo→h3.get z=h1.get z)→P h2→Q .normal e ds h3):WE T base rnd (.rangeFunc f ps asg body) Q e ds h1:=by
 refine uV hr hf hnc (CW.mono HG ?_)
 rintro r h2 ⟨hk,v,rfl,rfl,hq⟩
 have hl2:eF base h2.log:=fun z hz=>Nat.le_trans hlo (hk.log (eF.nil _) z hz)
 have q1:(({h2 with log:=aC base h1.log h2.log}:Heap).wr base h1.next .dead).log=[]:=by
  rw[Heap.aN (by omega)]
  show aC base h1.log h2.log=[]
  rw[tU hl2,hlog]
 have q2:WF (({h2 with log:=aC base h1.log h2.log}:Heap).wr base h1.next .dead):=((hk.wf ((w1.push _).log _)).log _).as (AS.wr _ _ _ _)
 have q3:h1.next<h2.next:=hk.next
 have q4:∀z,z≠h1.next→(({h2 with log:=aC base h1.log h2.log}:Heap).wr base h1.next .dead).get z=h2.get z:=fun z hne=>Heap.eM hne
 obtain⟨a,b,c,d,hl⟩:=hP _ hq
 refine⟨_,rfl,_,_,_,_,_,_,hl,rfl,K h2 _ q1 q2 q3 rfl q4 (fun z hz=>(q4 z (by omega)).trans ((hk.old z hz).trans ?_)) hq⟩
 exact Heap.fJ (by omega)
structure CR {α:Type} (T:Nat→Option af) (lo N l q:Nat) (V:α→List Value) (all:List α) (P:List α→Heap→Prop) (W:Heap→Nat→Prop):Prop where
 hq:q<N
 pQ:∀done x H,x∈all→done.length<100000→Rdy H→N≤H.next→P done H→FW T (.yield l) (V x) H fun r H'=>r= .ret (.bool true)∧(∀z∈H'.log,lo≤z)∧q∈H'.log∧kj H' q∧P (done++[x]) H'∧(∀z,z<H.next→¬W H z→H'.get z=H.get z)∧(∀z,W H' z→W H z∨H.next≤z)
 fF:∀done H H',P done H→H.next≤H'.next→(∀x,x<H.next→H'.get x=H.get x)→P done H'
 wst:∀done H H',P done H→H.next≤H'.next→(∀x,x<H.next→H'.get x=H.get x)→∀z,W H' z→W H z
 wlt:∀done H z,P done H→W H z→z<H.next
theorem CR.call(hp:bt T){α:Type}{lo N l q:Nat}{V:α→List Value}{all:List α}{P:List α→Heap→Prop}{W:Heap→Nat→Prop}(Y:CR T lo N l q V all P W){K:Env→Dfs→Heap→Prop}{dst:Option Nat}{done:List α}{x:α}(hx:x∈all)(hlen:done.length<100000)(hw:WF h)(hlo:lo≤h.next)(hN:N≤h.next)(hqb:q<base)(hP:P done h)
 (hK:∀h',Lk lo h h'→q∈h'.log∧kj h' q→P (done++[x]) h'→(∀z,z<h.next→¬W h z→h'.get z=h.get z)→(∀z,W h' z→W h z∨h.next≤z)→K (bM e dst (.bool true)) ds h'):FW T (.yield l) (V x) {h with log:=[]} (KO K Q base dst e ds h.log):=by
 have hP0:P done {h with log:=[]}:=Y.fF _ _ _ hP (Nat.le_refl _) fun _ _=>rfl
 refine FW.mono' (FW.BG hp (Y.pQ done x _ hx hlen (.of hw) hN hP0) rfl) ?_
 rintro r h2 ⟨hA,rfl,hl,hm,hd,hq,hk1,hk2⟩
 have hk:Lk lo {h with log:=[]} h2:=Lk.nK hA hlo fun z hz=>hl z hz
 refine⟨hK _ hk.call ⟨mem_merge hqb hm,hd⟩ (Y.fF _ _ _ hq (Nat.le_refl _) fun _ _=>rfl) (fun z hz hn=>hk1 z hz fun q=>hn (Y.wst _ h {h with log:=[]} hP (Nat.le_refl _) (fun _ _=>rfl) z q)) fun z hz=> ?_⟩
 have h3:=Y.wst _ h2 {h2 with log:=aC base h.log h2.log} hq (Nat.le_refl _) (fun _ _=>rfl) z hz
 exact(hk2 z h3).imp (fun q=>Y.wst _ h {h with log:=[]} hP (Nat.le_refl _) (fun _ _=>rfl) z q) id
theorem FQ{α:Type}{lo N l q:Nat}{V:α→List Value}{all done:List α}{P:List α→Heap→Prop}{W:Heap→Nat→Prop}(Y:CR T lo N l q V all P W){v:Value}{h1:Heap}(hq:q<h.next)(hA:AS h.next h h1)(p:v= .tuple #[]∧P done h1∧(((∀x,x<h.next→h1.get x=h.get x)∧P done h)∨q∈h1.log∧kj h1 q)):v= .tuple #[]∧P done (gcA h h1 v):=by
 obtain⟨hv,hP,hm⟩:=p
 refine⟨hv,?_⟩
 rcases hm with⟨he,h0⟩|⟨hm,hd⟩
 ·obtain⟨g1,g2,_⟩:=nq (v:=v) hA
  exact Y.fF _ _ _ h0 g2 fun x hx=>(g1 x hx).trans (he x hx)
 ·rw[wP hq hm hd]
  exact hP
structure RL (rs:List (Nat×Option (Option Nat))) (S:Nat→Prop) (Q Qp:Value→Heap→Prop) (x:bw) (e:Env) (ds:Dfs) (h1:Heap):Prop where
 ok:ds=[]∧(∀z∈h1.log,S z)∧(((x= .normal∨x= .ret)∧∃vs,bY h1 e rs=some vs∧Q (eS vs) h1)∨∃v,x= .panic v∧Qp v h1)
structure SE (T:Nat→Option af) (base:Nat) (c:aY) (K:bw→Env→Option Value→Heap→Prop) (e:Env) (p:Option Value) (h:Heap):Prop where
 ok:∃x e' p' h',(∃m,∀n,m≤n→iA T n base c e p h=some (x,e',p',h'))∧K x e' p' h'
variable {p:Option Value} {K:bw→Env→Option Value→Heap→Prop} {KO':Env→Option Value→Heap→Prop}
end Go.A
end
section
namespace Go.A
variable {T:Nat→Option af} {base:Nat} {rnd:Option Nat} {Q Q':XQ} {e e2:Env} {ds:Dfs} {h:Heap} {os:List aW} {dst:Option Nat} {v u:Value} {x y:Operand} {keep k2:List Nat} {K:Env→Dfs→Heap→Prop}
theorem y1(H:Q .normal e2 ds h)(he:bE e keep=e2:=by simp only[bE,bM,geT,dV,cond_true,cond_false,Nat.beq];exact rfl):KR keep Q .normal e ds h:=Pc he H
theorem y3(H:K e2 ds h)(he:bE e keep=e2:=by simp only[bE,bM,geT,dV,cond_true,cond_false,Nat.beq];exact rfl):WO T base rnd (KR keep (KS K Q)) [] e ds h:=dN (Pc he (aV H))
theorem y4{b:aY}(H:WO T base rnd (KR keep (KS (WE T base rnd b Q) Q)) os e ds h):WE T base rnd (.seq (.region os keep) b) Q e ds h:=ah (aJ H)
theorem yM(H:WO T base rnd Q os (bM e dst v) ds h)(hx:ev h e x=some v:=by exact rfl):WO T base rnd Q (⟨dst, .mov x,none⟩::os) e ds h:=an (fC hx) H
theorem yE{i:Nat}{vs:Array Value}(H:WO T base rnd Q os (bM e dst v) ds h)(hx:ev h e x=some (.tuple vs):=by exact rfl)(hv:bH vs.toList i=some v:=by exact rfl):WO T base rnd Q (⟨dst, .extract x i,none⟩::os) e ds h:=an (vm hx hv) H
theorem yL{b o sz:Nat}{vs:List Value}{own:Bool}(H:WO T base rnd Q os (bM e dst v) ds h)(hx:ev h e x=some (.pointer (some ⟨b,o,none⟩)):=by exact rfl)
 (hb:h.get b=some (.cells vs own sz):=by first|assumption|(simp(disch:=first|omega|(simp only[z1,z2];omega))only[z3,z4,z5,z6,z7,z1,z2, *];done)|(simp(disch:=first|omega|(simp only[z1,z2];omega))only[z3,z4,z5,z6,z7,z1,z2, *];exact rfl)|(simp(disch:=first|omega|(simp only[z1,z2];omega)|(simp only[z1,z2];done)|fail)only[z8,z4,z5,z9,z7,z1,z2, *];done)|(simp(disch:=first|omega|(simp only[z1,z2];omega)|(simp only[z1,z2];done)|fail)only[z8,z4,z5,z9,z7,z1,z2, *];exact rfl))
 (hv:bH vs o=some v:=by exact rfl):WO T base rnd Q (⟨dst, .load none x,none⟩::os) e ds h:=an (bO hx hb hv) H
theorem yN{n b o sz:Nat}{vs l:List Value}{own:Bool}(H:WO T base rnd Q os (bM e dst (.agg l.toArray)) ds h)(hx:ev h e x=some (.pointer (some ⟨b,o,none⟩)):=by exact rfl)
 (hb:h.get b=some (.cells vs own sz):=by first|assumption|(simp(disch:=first|omega|(simp only[z1,z2];omega))only[z3,z4,z5,z6,z7,z1,z2, *];done)|(simp(disch:=first|omega|(simp only[z1,z2];omega))only[z3,z4,z5,z6,z7,z1,z2, *];exact rfl)|(simp(disch:=first|omega|(simp only[z1,z2];omega)|(simp only[z1,z2];done)|fail)only[z8,z4,z5,z9,z7,z1,z2, *];done)|(simp(disch:=first|omega|(simp only[z1,z2];omega)|(simp only[z1,z2];done)|fail)only[z8,z4,z5,z9,z7,z1,z2, *];exact rfl))
 (hv:cH n (bW o vs)=l:=by exact rfl)(hl:Nat.beq (bZ l) n=true:=by exact rfl):WO T base rnd Q (⟨dst, .load (some n) x,none⟩::os) e ds h:=an (ct hx hb hv hl) H
theorem yS{n b o sz:Nat}{vs ws:List Value}(H:WO T base rnd Q os (bM e dst (.tuple #[])) ds (h.wr base b (.cells ws true sz)))(hx:ev h e x=some (.pointer (some ⟨b,o,none⟩)):=by exact rfl)(hy:ev h e y=some v:=by exact rfl)
 (hb:h.get b=some (.cells vs true sz):=by first|assumption|(simp(disch:=first|omega|(simp only[z1,z2];omega))only[z3,z4,z5,z6,z7,z1,z2, *];done)|(simp(disch:=first|omega|(simp only[z1,z2];omega))only[z3,z4,z5,z6,z7,z1,z2, *];exact rfl)|(simp(disch:=first|omega|(simp only[z1,z2];omega)|(simp only[z1,z2];done)|fail)only[z8,z4,z5,z9,z7,z1,z2, *];done)|(simp(disch:=first|omega|(simp only[z1,z2];omega)|(simp only[z1,z2];done)|fail)only[z8,z4,z5,z9,z7,z1,z2, *];exact rfl))
 (hc:(Nat.beq (bZ (cellsOf v)) n&&Nat.ble (o+n) (bZ vs)&&dR (cellsOf v))=true:=by exact rfl)(hw:cO vs o (cellsOf v)=ws:=by exact rfl):WO T base rnd Q (⟨dst, .store n x y,none⟩::os) e ds h:=an (ja hx hy hb hc hw) H
theorem yF{off b o:Nat}(H:WO T base rnd Q os (bM e dst (.pointer (some ⟨b,o+off,none⟩))) ds h)(hx:ev h e x=some (.pointer (some ⟨b,o,none⟩)):=by exact rfl):WO T base rnd Q (⟨dst, .dh off x,none⟩::os) e ds h:=an (dz hx) H
theorem yB{vs:List Value}(H:WO T base rnd Q os (bM e dst (.pointer (some ⟨h.next,0,none⟩))) ds (h.push (.cells vs true 1)))(hx:ev h e x=some v:=by exact rfl)(hc:cellsOf v=vs:=by exact rfl):WO T base rnd Q (⟨dst, .box x,none⟩::os) e ds h:=an (NV hx hc) H
theorem yT{c:Operand}(H:WO T base rnd Q os (bM e dst v) ds h)(hc:ev h e c=some (.bool true):=by exact rfl)(hx:ev h e x=some v:=by exact rfl):WO T base rnd Q (⟨dst, .pick c x y,none⟩::os) e ds h:=an (pX hc hx) H
theorem yU{c:Operand}(H:WO T base rnd Q os (bM e dst v) ds h)(hc:ev h e c=some (.bool false):=by exact rfl)(hx:ev h e y=some v:=by exact rfl):WO T base rnd Q (⟨dst, .pick c x y,none⟩::os) e ds h:=an (nY hc hx) H
theorem yO{op:AOp}{t:Nat}{b:Bool}(H:WO T base rnd Q (⟨dst,op,none⟩::os) e ds h)(hg:geT e t=some (.bool b):=by exact rfl):WO T base rnd Q (⟨dst,op,some (t,b)⟩::os) e ds h:=P5 hg H
theorem yP{op:AOp}{t:Nat}{b c:Bool}(H:WO T base rnd Q os (bM e dst (.tuple #[])) ds h)(hg:geT e t=some (.bool c):=by exact rfl)(hx:c= !b:=by exact rfl):WO T base rnd Q (⟨dst,op,some (t,b)⟩::os) e ds h:=Nw hg hx H
theorem yC{f:Operand}{args:List Operand}{fv:Value}{as:List Value}{g:Nat}{first cap:Array Value}{all:List Value}(H:FW T (.func g) all {h with log:=[]} (KO (WO T base rnd Q os) Q base dst e ds h.log))(hf:ev h e f=some fv:=by exact rfl)(ha:evs h e args=some as:=by exact rfl)(hv:fv= .func (.func g) first cap:=by exact rfl)(hl:dI first.toList (dI as cap.toList)=all:=by exact rfl):
 WO T base rnd Q (⟨dst, .call f args,none⟩::os) e ds h:=mM (tf hf ha hv hl) H
theorem yX{c:Operand}{a b:aY}(H:WE T base rnd b Q e ds h)(hc:ev h e c=some (.bool false):=by exact rfl):WE T base rnd (.cond c a b) Q e ds h:=II hc H
theorem yY{c:Operand}{a b:aY}(H:WE T base rnd a Q e ds h)(hc:ev h e c=some (.bool true):=by exact rfl):WE T base rnd (.cond c a b) Q e ds h:=K0 hc H
theorem yA{b:Bool}(H:WO T base rnd Q os (bM e dst (.bool !b)) ds h)(hx:ev h e x=some (.bool b):=by exact rfl):WO T base rnd Q (⟨dst, .un .not x,none⟩::os) e ds h:=an (BU hx) H
theorem yD{a:Option Addr}{n c:Nat}(H:WO T base rnd Q os (bM e dst (.int .i64 n)) ds h)(hx:ev h e x=some (.slice a n c):=by exact rfl):WO T base rnd Q (⟨dst, .len 1 x,none⟩::os) e ds h:=an (LU hx) H
section
variable {k:IntKind} {a b:Int}
theorem yt{op:BinOp}{u:Value}(H:WO T base rnd Q os (bM e dst (.bool true)) ds h)(hx:ev h e x=some v:=by exact rfl)(hy:ev h e y=some u:=by exact rfl)(hv:aA op v u=some (.bool true):=by first|exact xk (by omega)|exact gU (by omega)|exact jg (by omega)|exact gX (by omega)|exact AP (by omega)|exact mE (by omega)):
 WO T base rnd Q (⟨dst, .bin (.num op) x y,none⟩::os) e ds h:=an (yz hx hy hv) H
theorem yf{op:BinOp}{u:Value}(H:WO T base rnd Q os (bM e dst (.bool false)) ds h)(hx:ev h e x=some v:=by exact rfl)(hy:ev h e y=some u:=by exact rfl)(hv:aA op v u=some (.bool false):=by first|exact AQ (by omega)|exact fO (by omega)|exact jD (by omega)|exact jV (by omega)|exact pn (by omega)|exact AR (by omega)):
 WO T base rnd Q (⟨dst, .bin (.num op) x y,none⟩::os) e ds h:=an (yz hx hy hv) H
theorem ia{n:Nat}(H:WO T base rnd Q os (bM e dst (.int .i64 (n+1:Nat))) ds h)(hx:ev h e x=some (.int .i64 n):=by exact rfl)(hy:ev h e y=some (.int .i64 1):=by exact rfl)(hn:n<9223372036854775807:=by omega):WO T base rnd Q (⟨dst, .bin (.num .add) x y,none⟩::os) e ds h:=an (yz hx hy (Pg hn)) H
end
section
variable {ops:List aW} {bf:List Nat} {rs:List Rec} {R:Env→Heap→Prop} {i mask:Nat} {is:List Nat} {g:Option (Nat×Bool)} {er:Env}
theorem qM(H:WD T base ops bf R is (⟨i,⟨dst, .mov x,g⟩,er,v, .quiet⟩::rs) (bM e dst v) h)(ho:bH ops i=some ⟨dst, .mov x,g⟩:=by exact rfl)(hm:bH bf i=some mask:=by exact rfl)(he:bE e (bS ⟨dst, .mov x,g⟩)=er:=by exact rfl)(hw:bC er g=some true:=by exact rfl)(hx:ev h er x=some v:=by exact rfl):WD T base ops bf R (i::is) rs e h:=aM ho hm he hw rfl rfl (fC hx) H
theorem qF{off b o:Nat}(H:WD T base ops bf R is (⟨i,⟨dst, .dh off x,g⟩,er, .pointer (some ⟨b,o+off,none⟩), .quiet⟩::rs) (bM e dst (.pointer (some ⟨b,o+off,none⟩))) h)(ho:bH ops i=some ⟨dst, .dh off x,g⟩:=by exact rfl)(hm:bH bf i=some mask:=by exact rfl)(he:bE e (bS ⟨dst, .dh off x,g⟩)=er:=by exact rfl)(hw:bC er g=some true:=by exact rfl)(hx:ev h er x=some (.pointer (some ⟨b,o,none⟩)):=by exact rfl):
 WD T base ops bf R (i::is) rs e h:=aM ho hm he hw rfl rfl (dz hx) H
theorem qL{b o sz:Nat}{vs:List Value}{own:Bool}(H:WD T base ops bf R is (⟨i,⟨dst, .load none x,g⟩,er,v, .quiet⟩::rs) (bM e dst v) h)(ho:bH ops i=some ⟨dst, .load none x,g⟩:=by exact rfl)(hm:bH bf i=some mask:=by exact rfl)(he:bE e (bS ⟨dst, .load none x,g⟩)=er:=by exact rfl)(hw:bC er g=some true:=by exact rfl)(hx:ev h er x=some (.pointer (some ⟨b,o,none⟩)):=by exact rfl)
 (hb:h.get b=some (.cells vs own sz):=by first|assumption|(simp(disch:=first|omega|(simp only[z1,z2];omega))only[z3,z4,z5,z6,z7,z1,z2, *];done)|(simp(disch:=first|omega|(simp only[z1,z2];omega))only[z3,z4,z5,z6,z7,z1,z2, *];exact rfl)|(simp(disch:=first|omega|(simp only[z1,z2];omega)|(simp only[z1,z2];done)|fail)only[z8,z4,z5,z9,z7,z1,z2, *];done)|(simp(disch:=first|omega|(simp only[z1,z2];omega)|(simp only[z1,z2];done)|fail)only[z8,z4,z5,z9,z7,z1,z2, *];exact rfl))
 (hv:bH vs o=some v:=by exact rfl):WD T base ops bf R (i::is) rs e h:=aM ho hm he hw rfl rfl (bO hx hb hv) H
theorem qN{n b o sz:Nat}{vs l:List Value}{own:Bool}(H:WD T base ops bf R is (⟨i,⟨dst, .load (some n) x,g⟩,er, .agg l.toArray, .quiet⟩::rs) (bM e dst (.agg l.toArray)) h)(ho:bH ops i=some ⟨dst, .load (some n) x,g⟩:=by exact rfl)(hm:bH bf i=some mask:=by exact rfl)(he:bE e (bS ⟨dst, .load (some n) x,g⟩)=er:=by exact rfl)(hw:bC er g=some true:=by exact rfl)(hx:ev h er x=some (.pointer (some ⟨b,o,none⟩)):=by exact rfl)
 (hb:h.get b=some (.cells vs own sz):=by first|assumption|(simp(disch:=first|omega|(simp only[z1,z2];omega))only[z3,z4,z5,z6,z7,z1,z2, *];done)|(simp(disch:=first|omega|(simp only[z1,z2];omega))only[z3,z4,z5,z6,z7,z1,z2, *];exact rfl)|(simp(disch:=first|omega|(simp only[z1,z2];omega)|(simp only[z1,z2];done)|fail)only[z8,z4,z5,z9,z7,z1,z2, *];done)|(simp(disch:=first|omega|(simp only[z1,z2];omega)|(simp only[z1,z2];done)|fail)only[z8,z4,z5,z9,z7,z1,z2, *];exact rfl))
 (hv:cH n (bW o vs)=l:=by exact rfl)(hl:Nat.beq (bZ l) n=true:=by exact rfl):WD T base ops bf R (i::is) rs e h:=aM ho hm he hw rfl rfl (ct hx hb hv hl) H
theorem qE{j:Nat}{vs:Array Value}(H:WD T base ops bf R is (⟨i,⟨dst, .extract x j,g⟩,er,v, .quiet⟩::rs) (bM e dst v) h)(ho:bH ops i=some ⟨dst, .extract x j,g⟩:=by exact rfl)(hm:bH bf i=some mask:=by exact rfl)(he:bE e (bS ⟨dst, .extract x j,g⟩)=er:=by exact rfl)(hw:bC er g=some true:=by exact rfl)(hx:ev h er x=some (.tuple vs):=by exact rfl)(hv:bH vs.toList j=some v:=by exact rfl):
 WD T base ops bf R (i::is) rs e h:=aM ho hm he hw rfl rfl (vm hx hv) H
theorem qC{f:Operand}{args:List Operand}{fv:Value}{as:List Value}{k:Nat}{first cap:Array Value}{all:List Value}(H:FW T (.func k) all {h with log:=[]} (KD (WD T base ops bf R is) base mask rs dst e h.log))(ho:bH ops i=some ⟨dst, .call f args,g⟩:=by exact rfl)(hm:bH bf i=some mask:=by exact rfl)(he:bE e (bS ⟨dst, .call f args,g⟩)=er:=by exact rfl)(hw:bC er g=some true:=by exact rfl)
 (hf:ev {h with log:=[]} er f=some fv:=by exact rfl)(ha:evs {h with log:=[]} er args=some as:=by exact rfl)(hv:fv= .func (.func k) first cap:=by exact rfl)(hl:dI first.toList (dI as cap.toList)=all:=by exact rfl):WD T base ops bf R (i::is) rs e h:=KZ ho hm he hw rfl (tf hf ha hv hl) H
end
end Go.A
end
section
set_option maxRecDepth 100000
namespace Go.A
variable {T:Nat→Option af} {base:Nat} {rnd:Option Nat} {Q:XQ} {e:Env} {ds:Dfs} {h:Heap}
def mx(a b:Int):Int:=if b>a then b else a
theorem eY{base:Nat}{h:Heap}{e:Env}{len size b o i:Nat}{k:IntKind}{x y:Operand}(hx:ev h e x=some (.pointer (some ⟨b,o,none⟩)))(hy:ev h e y=some (.int k (i:Nat)))(hi:i<len):aop h base e (.cZ len size x y)=some (.val (.pointer (some ⟨b,o+i*size,none⟩)) h):=by
 have e0:(.int k (i:Nat):Value)= .int k (Int.ofNat i):=rfl
 rw[e0]at hy
 simp only[aop,hx,hy,fR hi,cond_true]
theorem tg{base:Nat}{h:Heap}{e:Env}{x y:Operand}{a b:Int}(hx:ev h e x=some (.int .i64 a))(hy:ev h e y=some (.int .i64 b)):aop h base e (.ei true [x,y])=some (.val (.int .i64 (mx a b)) h):=by
 simp only[aop,evs,hx,hy,mmA,if_true,cF,mx]
theorem dg{x y:Operand}{b n sz:Nat}{vs cs:List Value}(hx:ev h e x=some (.pointer (some ⟨b,0,none⟩)))(hy:ev h e y=some (.agg cs.toArray))(hb:h.get b=some (.cells vs true sz))(hn:cs.length=n)(hv:vs.length=n)(h1:dR cs=true):
 aop h base e (.store n x y)=some (.val (.tuple #[]) (h.wr base b (.cells cs true sz))):=by
 have hc:cellsOf (.agg cs.toArray)=cs:=by show cs.toArray.toList=cs;simp
 refine ja hx hy hb ?_ ?_
 ·rw[hc,bQ,bQ,hn,hv,h1,rE,Nat.zero_add,ij (Nat.le_refl n)];rfl
 ·rw[hc,eX (by omega)]
  simp only[List.take_zero,List.nil_append,Nat.zero_add]
  rw[List.drop_of_length_le (by omega),List.append_nil]
theorem yG{x y:Operand}{b o sz:Nat}{vs:List Value}{v:Value}(hx:ev h e x=some (.pointer (some ⟨b,o,none⟩)))(hy:ev h e y=some v)(hb:h.get b=some (.cells vs true sz))(hc:cellsOf v=[v])(h1:dR [v]=true)(ho:o<vs.length):
 aop h base e (.store 1 x y)=some (.val (.tuple #[]) (h.wr base b (.cells (vs.set o v) true sz))):=by
 refine ja hx hy hb ?_ ?_
 ·rw[hc,h1,bQ,bQ,ij (by omega)];rfl
 ·rw[hc]
  show pg vs o v=vs.set o v
  clear hx hy hb
  induction vs generalizing o with
  |nil=>simp at ho
  |cons w vs ih=>
   cases o with
   |zero=>rfl
   |succ o=>simp only[pg,List.set_cons_succ];rw[ih (by simpa using ho)]
theorem NW{op:UnOp}{x:Operand}{a v:Value}(hx:ev h e x=some a)(hv:uR op a=some v):aop h base e (.un op x)=some (.val v h):=by simp only[aop,hx,cF,hv]
theorem Jb{base:Nat}{h:Heap}{e:Env}:aop h base e .mkMap=some (.val (.map (some h.next)) (h.push (.map []))):=rfl
theorem Gc{a b:Int}(h1: -9223372036854775808≤a*b)(h2:a*b<9223372036854775808):aA .mul (.int .i64 a) (.int .i64 b)=some (.int .i64 (a*b)):=by
 simp[aA,arith,cQ h1 h2]
theorem sd{base:Nat}:∀{m l:List Nat},eF base m→aC base l m=l
 |[],_,_=>rfl
 |b::m,l,h=>by
  have hb:=h b (List.mem_cons_self ..)
  simp only[aC,qn (show¬b<base by omega),cond_false]
  exact sd fun x hx=>h x (List.mem_cons_of_mem _ hx)
theorem FW.gs0{base:Nat}{Q:XQ}{e:Env}{ds:Dfs}{h:Heap}{f:Nat}{args:List Value}{S:Nat→Prop}{Q':Value→Heap→Prop}{K:Env→Dfs→Heap→Prop}{dst:Option Nat}(H:Gs T f args {h with log:=[]} S Q')(hlog:∀v (h':Heap) l,Q' v h'→Q' v {h' with log:=l})(hS:∀z,S z→base≤z)(hK:∀v h',h.next≤h'.next→h'.log=h.log→(∀z,z<h.next→¬S z→h'.get z=h.get z)→(WF h→WF h')→Q' v h'→K (bM e dst v) ds h'):
 FW T (.func f) args {h with log:=[]} (KO K Q base dst e ds h.log):=by
 refine .func (CW.mono H ?_)
 rintro r h2 ⟨hx,v,rfl,hq⟩
 exact⟨hK v _ hx.next (sd fun z hz=>hS z ((hx.log z hz).elim (fun q=>by cases q) id)) hx.old (fun w=>(hx.wf (w.log [])).log _) (hlog v h2 _ hq)⟩
theorem mh{base:Nat}{h:Heap}{e:Env}{size b o n i j:Nat}{x:Operand}{lo hi:Option Operand}(hx:ev h e x=some (.pointer (some ⟨b,o,none⟩)))(hl:bnd h e 0 lo=some i)(hh:bnd h e n hi=some j)(h1:i≤j)(h2:j≤n)(h3:i<n)(h4:n<1000000):
 aop h base e (.slice (.arr n size) x lo hi none)=some (.val (.slice (some ⟨b,o+i*size,none⟩) (j-i) (n-i)) h):=by
 simp only[aop,hx,iu,hl,hh,tZ (show n≠UNK by unfold UNK;omega),ij h1,ij h2,tZ (show n≠i by omega),Bool.and_self,cond_true,cond_false,fD]
theorem rM{base:Nat}{h:Heap}{e:Env}{ops:List aW}{bf:List Nat}{rs rs':List Rec}{Q:Env→Heap→Prop}{i mask:Nat}{is:List Nat}{dst:Option Nat}{g:Option (Nat×Bool)}{er:Env}{x y:Operand}{b o sz:Nat}{vs:List Value}{v:Value}
 (ho:bH ops i=some ⟨dst, .store 1 x y,g⟩)(hm:bH bf i=some mask)(he:bE e (bS ⟨dst, .store 1 x y,g⟩)=er)(hwt:bC er g=some true)(hx:ev {h with log:=[]} er x=some (.pointer (some ⟨b,o,none⟩)))(hy:ev {h with log:=[]} er y=some v)(hb:h.get b=some (.cells vs true sz))
 (hc:cellsOf v=[v])(h1:dR [v]=true)(ho':o<vs.length)(hlt:b<h.next)(hbb:base≤b)(hrs:aZ (h.wr base b (.cells (vs.set o v) true sz)) base [b] mask rs=some rs')
 (H:WD T base ops bf Q is rs' (bM e dst (.tuple #[])) (h.wr base b (.cells (vs.set o v) true sz))):WD T base ops bf Q (i::is) rs e h:=
 jk ho hm he hwt rfl (yG (h:={h with log:=[]}) hx hy hb hc h1 ho') (B4 hlt hbb _) (qj hlt _) hrs H
theorem sF{base:Nat}{h:Heap}{e:Env}{ops:List aW}{bf:List Nat}{rs rs':List Rec}{Q:Env→Heap→Prop}{i mask:Nat}{is:List Nat}{dst:Option Nat}{g:Option (Nat×Bool)}{er:Env}{x y:Operand}{b n sz:Nat}{vs cs:List Value}
 (ho:bH ops i=some ⟨dst, .store n x y,g⟩)(hm:bH bf i=some mask)(he:bE e (bS ⟨dst, .store n x y,g⟩)=er)(hwt:bC er g=some true)(hx:ev {h with log:=[]} er x=some (.pointer (some ⟨b,0,none⟩)))(hy:ev {h with log:=[]} er y=some (.agg cs.toArray))(hb:h.get b=some (.cells vs true sz))
 (hn:cs.length=n)(hv:vs.length=n)(h1:dR cs=true)(hlt:b<h.next)(hbb:base≤b)(hrs:aZ (h.wr base b (.cells cs true sz)) base [b] mask rs=some rs')
 (H:WD T base ops bf Q is rs' (bM e dst (.tuple #[])) (h.wr base b (.cells cs true sz))):WD T base ops bf Q (i::is) rs e h:=
 jk ho hm he hwt rfl (dg (h:={h with log:=[]}) hx hy hb hn hv h1) (B4 hlt hbb _) (qj hlt _) hrs H
theorem gP{base:Nat}{e:Env}{h:Heap}{ops:List aW}{bf:List Nat}{rs rs':List Rec}{Q:Env→Heap→Prop}{i mask:Nat}{is:List Nat}{dst:Option Nat}{x y:Operand}{n b o sz:Nat}{vs ws:List Value}{v:Value}{g:Option (Nat×Bool)}{er:Env}(ho:bH ops i=some ⟨dst, .store n x y,g⟩)(hm:bH bf i=some mask)
 (he:bE e (bS ⟨dst, .store n x y,g⟩)=er)(hw:bC er g=some true)(hx:ev {h with log:=[]} er x=some (.pointer (some ⟨b,o,none⟩)))(hy:ev {h with log:=[]} er y=some v)(hb:h.get b=some (.cells vs true sz))
 (hc:(Nat.beq (bZ (cellsOf v)) n&&Nat.ble (o+n) (bZ vs)&&dR (cellsOf v))=true)(hws:cO vs o (cellsOf v)=ws)(hlt:b<h.next)(hrs:aZ (h.wr base b (.cells ws true sz)) base [b] mask rs=some rs')
 (H:WD T base ops bf Q is rs' (bM e dst (.tuple #[])) (h.wr base b (.cells ws true sz))):WD T base ops bf Q (i::is) rs e h:=
 jk ho hm he hw rfl (ja (h:={h with log:=[]}) hx hy hb hc hws) (AF hlt _) (qj hlt _) hrs H
theorem fB{base:Nat}{rnd:Option Nat}{Q:XQ}{e:Env}{E0:Env}{ds:Dfs}{h:Heap}{a b:aY}{P:Heap→Prop}(H1:WE T base rnd a (fun x e' ds' h'=>x= .normal∧e'=E0∧ds'=[]∧P h') e ds h)(H2:∀h',P h'→WE T base rnd b Q E0 [] h'):WE T base rnd (.seq a b) Q e ds h:=by
 refine ah (H1.mono ?_)
 rintro x e' ds' h' ⟨rfl,rfl,rfl,hp⟩
 exact aV (H2 h' hp)
theorem ze{base:Nat}{h:Heap}{b:Nat}(hb:b<h.next)(o o':bJ):({(({h with log:=[]}:Heap).wr h.next b o).push o' with log:=aC base h.log ((({h with log:=[]}:Heap).wr h.next b o).push o').log}:Heap)=(h.wr base b o).push o':=
 congrArg (fun k:Heap=>k.push o') (AF hb o)
theorem KY{base:Nat}{e:Env}{h:Heap}{lo sz bytes n:Nat}{ops:List aW}{bf:List Nat}{rs:List Rec}{Q:Env→Heap→Prop}{i mask:Nat}{is:List Nat}{dst:Option Nat}{g:Option (Nat×Bool)}{er:Env}{x y:Operand}{v u:Value}{cs c1:List Value}
 (s:Own lo h sz v n cs)(hn:n<1000000)(hsz:0<sz)(hb:bytes≤100000)(hlo:lo≤h.next)(hbase:base≤lo)
 (ho:bH ops i=some ⟨dst, .append sz bytes x y,g⟩)(hm:bH bf i=some mask)(he:bE e (bS ⟨dst, .append sz bytes x y,g⟩)=er)(hwt:bC er g=some true)
 (hx:ev {h with log:=[]} er x=some v)(hy:ev {h with log:=[]} er y=some u)(hs:cW {h with log:=[]} sz u=some (c1,1))(hl1:c1.length=sz)(h1:dR c1=true)(h1':dR cs=true)
 (hK:∀v' h' lg,Own lo h' sz v' (n+1) (cs++c1)→Lx lo h h'→∃rs',aZ h' base lg mask rs=some rs'∧WD T base ops bf Q is rs' (bM e dst v') h'):WD T base ops bf Q (i::is) rs e h:=by
 have hbd:(2*(n+1)+768)*bytes≤281474976710656:=by
  have:(2*(n+1)+768)*bytes≤2000768*100000:=Nat.mul_le_mul (by omega) hb
  omega
 cases s with
 |nil=>
  have:=Own.full (lo:=lo) (h:=h.push (.cells c1 true sz)) (sz:=sz) (q:=h.next) (n:=1) (cs:=c1) hlo (Nat.lt_succ_self _) (Heap.gr _ _) (by omega) (by omega)
  obtain⟨rs',q1,q2⟩:=hK _ _ [] this ((Lx.refl lo h).push hlo _)
  exact uT (n:=1) ho hm he hwt hx hy hs (by omega) (by simpa using hbd) q1 q2
 | @full q _ _ q1 q2 q3 q4 q5=>
   have hF:Own lo ((h.wr base q .dead).push (.cells (cs++c1) true sz)) sz (.slice (some ⟨h.next,0,none⟩) (n+1) UNK) (n+1) (cs++c1):= .full hlo (Nat.lt_succ_self _) (Heap.gr _ _) (by rw[List.length_append,q4,hl1,Nat.add_mul,Nat.one_mul]) (by omega)
   obtain⟨rs',p1,p2⟩:=hK _ _ [q] hF (((Lx.refl lo h).wr q1 (by omega)).push hlo _)
   exact Ap (n:=1) (vs:=cs) (ws:=cs++c1) ho hm he hwt hx hy hs (by omega) q3 q4 hsz h1 hbd (dD _ _) q2 (by omega) p1 p2
theorem IE{base:Nat}{e:Env}{h:Heap}{lo sz bytes n:Nat}{ops:List aW}{bf:List Nat}{rs:List Rec}{Q:Env→Heap→Prop}{i mask:Nat}{is:List Nat}{dst:Option Nat}{g:Option (Nat×Bool)}{er:Env}{x y:Operand}{v u:Value}{cs c1:List Value}
 (s:Own lo h sz v n cs)(hn:n<1000000)(hsz:0<sz)(hb:bytes≤100000)
 (ho:bH ops i=some ⟨dst, .append sz bytes x y,g⟩)(hm:bH bf i=some mask)(he:bE e (bS ⟨dst, .append sz bytes x y,g⟩)=er)(hwt:bC er g=some true)
 (hx:ev {h with log:=[]} er x=some v)(hy:ev {h with log:=[]} er y=some u)(hs:cW {h with log:=[]} sz u=some (c1,1))(hl1:c1.length=sz)(h1:dR c1=true)(h1':dR cs=true)
 (hlg:eF lo h.log)(hw:WF h)
 (hK:∀h' lg,Own h.next h' sz (.slice (some ⟨h.next,0,none⟩) (n+1) UNK) (n+1) (cs++c1)→h.next<h'.next→eF lo h'.log→WF h'→(∀z,z<h.next→(∀q a c,v= .slice (some ⟨q,0,none⟩) a c→z≠q)→h'.get z=h.get z)→∃rs',aZ h' base lg mask rs=some rs'∧WD T base ops bf Q is rs' (bM e dst (.slice (some ⟨h.next,0,none⟩) (n+1) UNK)) h'):WD T base ops bf Q (i::is) rs e h:=by
 have hbd:(2*(n+1)+768)*bytes≤281474976710656:=by
  have:(2*(n+1)+768)*bytes≤2000768*100000:=Nat.mul_le_mul (by omega) hb
  omega
 cases s with
 |nil=>
  have:=Own.full (lo:=h.next) (h:=h.push (.cells c1 true sz)) (sz:=sz) (q:=h.next) (n:=1) (cs:=c1) (Nat.le_refl _) (Nat.lt_succ_self _) (Heap.gr _ _) (by omega) (by omega)
  obtain⟨rs',q1,q2⟩:=hK _ [] this (Nat.lt_succ_self _) hlg (hw.push _) (fun z hz _=>Heap.fJ hz)
  exact uT (n:=1) ho hm he hwt hx hy hs (by omega) (by simpa using hbd) q1 q2
 | @full q _ _ q1 q2 q3 q4 q5=>
   have hF:Own h.next ((h.wr base q .dead).push (.cells (cs++c1) true sz)) sz (.slice (some ⟨h.next,0,none⟩) (n+1) UNK) (n+1) (cs++c1):= .full (Nat.le_refl _) (Nat.lt_succ_self _) (Heap.gr _ _) (by rw[List.length_append,q4,hl1,Nat.add_mul,Nat.one_mul]) (by omega)
   obtain⟨rs',p1,p2⟩:=hK _ [q] hF (Nat.lt_succ_self _) (((Lk.refl lo h).wr (base:=base) (o:= .dead) q1).log hlg) ((hw.as (AS.wr base _ q .dead)).push _) (fun z hz hne=>(Heap.fJ (by exact hz)).trans (Heap.eM (hne q _ _ rfl)))
   exact jk ho hm he hwt rfl (mg (h:={h with log:=[]}) (n:=1) (vs:=cs) (ws:=cs++c1) hx hy hs (by omega) q3 q4 hsz h1 hbd (dD _ _)) (ze q2 _ _) (qj q2 .dead) p1 p2
theorem WF.ef{h:Heap}(w:WF h){x:Nat}{o:bJ}(hx:h.get x=some o):x<h.next:=by
 refine w.lt x (Classical.byContradiction fun hn=> ?_)
 have:=De hn
 rw[show eR h.bR x=h.get x from rfl,hx]at this
 cases this
theorem Rdy.self{h:Heap}(hr:Rdy h):({h with log:=[]}:Heap)=h:=by
 have:=hr.log
 cases h
 cases this
 rfl
end Go.A
end
section
namespace Go.A
variable {T:Nat→Option af} {base:Nat} {rnd:Option Nat} {Q:XQ} {e:Env} {ds:Dfs} {h:Heap}
structure Ly (h:Heap) (rs:List (Nat×Option (Option Nat))) (S:Nat→Prop) (Q:Value→Heap→Prop) (x:bw) (e:Env) (ds:Dfs) (h1:Heap):Prop where
 ok:(x= .normal∨x= .ret)∧ds=[]∧(∀z∈h1.log,S z)∧(h1=h∨∃q,q<h.next∧q∈h1.log∧kj h1 q)∧∃vs,bY h1 e rs=some vs∧Q (eS vs) h1
theorem Jv{v:Value}:gcA h h v=h:=by
 unfold gcA
 cases cB v&&fE h h.next h.log<;>simp[mQ,bD]
theorem Gs.ofK(hp:bt T){f:Nat}{args:List Value}{c:aY}{rs:List (Nat×Option (Option Nat))}{S:Nat→Prop}{Q:Value→Heap→Prop}(hf:T f=some (.code c rs))
 (H:WE T h.next none c (Ly h rs S Q) (dV 0 args) [] h):Gs T f args h S Q:=by
 obtain⟨x,e,ds,h1,⟨m,hm⟩,⟨hx,rfl,hl,hk,vs,hvs,hq⟩⟩:=H.ok
 have hA:=(eO.all hp m).exec _ _ _ _ _ _ _ _ _ _ (hm m (Nat.le_refl _)) (Nat.le_refl _)
 have hg:gcA h h1 (eS vs)=h1:=by
  rcases hk with rfl|⟨q,hq1,hq2,hq3⟩
  ·exact Jv
  ·exact wP hq1 hq2 hq3
 have key:Ws S h h1∧∃v,Res.ret (eS vs)= .ret v∧Q v h1:=⟨Ws.nK hA hl,_,rfl,hq⟩
 refine CW.code hf ⟨x,e,[],h1,⟨m,hm⟩,?_⟩
 unfold u0
 rcases hx with rfl|rfl<;>(simp only[hvs,hg];exact key)
theorem Db{h1:Heap}{rs:List (Nat×Option (Option Nat))}{S:Nat→Prop}{Q:Value→Heap→Prop}{vs:List Value}(hl:∀z∈h1.log,S z)(hk:h1=h∨∃q,q<h.next∧q∈h1.log∧kj h1 q)(hr:bY h1 e rs=some vs)(hq:Q (eS vs) h1):Ly h rs S Q .normal e [] h1:=⟨⟨.inl rfl,rfl,hl,hk,vs,hr,hq⟩⟩
theorem NJ{b:Nat}{o:bJ}(hb:b<base):b∈(h.wr base b o).log:=by
 simp only[Heap.wr,cond_eq_ite,fR hb,if_true]
 split
 ·rename_i hh;exact iH.1 hh
 ·exact List.mem_cons_self
theorem Af{v:Value}(hv:lD v=false):∀{l:List Value},v∈l→cS l=false
 |a::l,hm=>by
  simp only[cS]
  rcases List.mem_cons.1 hm with rfl|hm
  ·rw[hv];rfl
  ·rw[Af hv hm];cases lD a<;>rfl
end Go.A
end
section
namespace Go.A
variable {T:Nat→Option af} {base:Nat} {rnd:Option Nat} {Q:XQ} {e:Env} {ds:Dfs} {h:Heap} {os:List aW} {dst:Option Nat} {v:Value} {x y:Operand}
theorem yW{op:BinOp}{a b:Value}(H:WO T base rnd Q os (bM e dst v) ds h)(hx:ev h e x=some a:=by exact rfl)(hy:ev h e y=some b:=by exact rfl)(hv:aA op a b=some v:=by with_reducible assumption):WO T base rnd Q (⟨dst, .bin (.num op) x y,none⟩::os) e ds h:=an (yz hx hy hv) H
theorem yV{n b o sz:Nat}{vs l:List Value}{own:Bool}(H:WO T base rnd Q os (bM e dst (.agg l.toArray)) ds h)(hx:ev h e x=some (.pointer (some ⟨b,o,none⟩)):=by exact rfl)(hb:h.get b=some (.cells vs own sz):=by assumption)(hv:cH n (bW o vs)=l:=by assumption)(hl:Nat.beq (bZ l) n=true:=by assumption):WO T base rnd Q (⟨dst, .load (some n) x,none⟩::os) e ds h:=an (ct hx hb hv hl) H
theorem yI{size b o len cap i:Nat}{k:IntKind}(H:WO T base rnd Q os (bM e dst (.pointer (some ⟨b,o+i*size,none⟩))) ds h)(hx:ev h e x=some (.slice (some ⟨b,o,none⟩) len cap):=by exact rfl)(hy:ev h e y=some (.int k (i:Nat)):=by exact rfl)(hi:i<len:=by omega):WO T base rnd Q (⟨dst, .aU size x y,none⟩::os) e ds h:=an (lH hx hy hi) H
section
variable {ops:List aW} {bf:List Nat} {rs:List Rec} {R:Env→Heap→Prop} {i mask:Nat} {is:List Nat} {g:Option (Nat×Bool)} {er:Env}
theorem qW{op:BinOp}{a b:Value}(H:WD T base ops bf R is (⟨i,⟨dst, .bin (.num op) x y,g⟩,er,v, .quiet⟩::rs) (bM e dst v) h)(ho:bH ops i=some ⟨dst, .bin (.num op) x y,g⟩:=by exact rfl)(hm:bH bf i=some mask:=by exact rfl)(he:bE e (bS ⟨dst, .bin (.num op) x y,g⟩)=er:=by exact rfl)(hw:bC er g=some true:=by exact rfl)(hx:ev h er x=some a:=by exact rfl)(hy:ev h er y=some b:=by exact rfl)(hv:aA op a b=some v:=by with_reducible assumption):WD T base ops bf R (i::is) rs e h:=aM ho hm he hw rfl rfl (yz hx hy hv) H
theorem qV{n b o sz:Nat}{vs l:List Value}{own:Bool}(H:WD T base ops bf R is (⟨i,⟨dst, .load (some n) x,g⟩,er, .agg l.toArray, .quiet⟩::rs) (bM e dst (.agg l.toArray)) h)(ho:bH ops i=some ⟨dst, .load (some n) x,g⟩:=by exact rfl)(hm:bH bf i=some mask:=by exact rfl)(he:bE e (bS ⟨dst, .load (some n) x,g⟩)=er:=by exact rfl)(hw:bC er g=some true:=by exact rfl)(hx:ev h er x=some (.pointer (some ⟨b,o,none⟩)):=by exact rfl)(hb:h.get b=some (.cells vs own sz):=by assumption)(hv:cH n (bW o vs)=l:=by assumption)(hl:Nat.beq (bZ l) n=true:=by assumption):WD T base ops bf R (i::is) rs e h:=aM ho hm he hw rfl rfl (ct hx hb hv hl) H
theorem qK{b o sz:Nat}{vs:List Value}{own:Bool}(H:WD T base ops bf R is (⟨i,⟨dst, .load none x,g⟩,er,v, .quiet⟩::rs) (bM e dst v) h)(ho:bH ops i=some ⟨dst, .load none x,g⟩:=by exact rfl)(hm:bH bf i=some mask:=by exact rfl)(he:bE e (bS ⟨dst, .load none x,g⟩)=er:=by exact rfl)(hw:bC er g=some true:=by exact rfl)(hx:ev h er x=some (.pointer (some ⟨b,o,none⟩)):=by exact rfl)(hb:h.get b=some (.cells vs own sz):=by assumption)(hv:bH vs o=some v:=by assumption):WD T base ops bf R (i::is) rs e h:=aM ho hm he hw rfl rfl (bO hx hb hv) H
theorem qI{size b o len cap j:Nat}{k:IntKind}(H:WD T base ops bf R is (⟨i,⟨dst, .aU size x y,g⟩,er, .pointer (some ⟨b,o+j*size,none⟩), .quiet⟩::rs) (bM e dst (.pointer (some ⟨b,o+j*size,none⟩))) h)(ho:bH ops i=some ⟨dst, .aU size x y,g⟩:=by exact rfl)(hm:bH bf i=some mask:=by exact rfl)(he:bE e (bS ⟨dst, .aU size x y,g⟩)=er:=by exact rfl)(hw:bC er g=some true:=by exact rfl)(hx:ev h er x=some (.slice (some ⟨b,o,none⟩) len cap):=by exact rfl)(hy:ev h er y=some (.int k (j:Nat)):=by exact rfl)(hi:j<len:=by omega):WD T base ops bf R (i::is) rs e h:=aM ho hm he hw rfl rfl (lH hx hy hi) H
theorem qJ{size b o len j:Nat}{k:IntKind}(H:WD T base ops bf R is (⟨i,⟨dst, .cZ len size x y,g⟩,er, .pointer (some ⟨b,o+j*size,none⟩), .quiet⟩::rs) (bM e dst (.pointer (some ⟨b,o+j*size,none⟩))) h)(ho:bH ops i=some ⟨dst, .cZ len size x y,g⟩:=by exact rfl)(hm:bH bf i=some mask:=by exact rfl)(he:bE e (bS ⟨dst, .cZ len size x y,g⟩)=er:=by exact rfl)(hw:bC er g=some true:=by exact rfl)(hx:ev h er x=some (.pointer (some ⟨b,o,none⟩)):=by exact rfl)(hy:ev h er y=some (.int k (j:Nat)):=by exact rfl)(hi:j<len:=by omega):WD T base ops bf R (i::is) rs e h:=aM ho hm he hw rfl rfl (eY hx hy hi) H
theorem qO{op:AOp}(H:WD T base ops bf R is (⟨i,⟨dst,op,g⟩,er, .tuple #[], .skip⟩::rs) (bM e dst (.tuple #[])) h)(ho:bH ops i=some ⟨dst,op,g⟩:=by exact rfl)(hm:bH bf i=some mask:=by exact rfl)(he:bE e (bS ⟨dst,op,g⟩)=er:=by exact rfl)(hw:bC er g=some false:=by exact rfl):WD T base ops bf R (i::is) rs e h:=Nv ho hm he hw H
end
end Go.A
end
section
namespace Go.A
variable {T:Nat→Option af} {base:Nat} {rnd:Option Nat} {Q:XQ} {e:Env} {ds:Dfs} {h:Heap}
structure YQW (px:bw) (l:Nat) (L LX:bJ) (W:Nat→Prop) (n:Nat) (R S:Heap→Prop) (x:bw) (e:Env) (ds:Dfs) (h3:Heap):Prop where
 busy:∃o,h3.get l=some o∧busy o=true
 log:∀z∈h3.log,W z
 rel:(x= .normal∧∀h5:Heap,n≤h5.next→(∀z,z<n→z≠l→h5.get z=h3.get z)→h5.get l=some L→R h5)∨(x=px∧∀h5:Heap,h5.next=h3.next→(∀z,z≠l→h5.get z=h3.get z)→h5.get l=some LX→S h5)
structure YAW (px:bw) (T:Nat→Option af) (l:Nat) (e:Env) (ps:List Nat) (asg body:aY) (W:Nat→Prop) (n:Nat) (R S:Heap→Prop) (x:bw) (e2:Env) (ds2:Dfs) (h2:Heap):Prop where
 x:x= .normal
 loop:h2.get l=some (.loop e ps asg body 0 .normal)
 body:WE T n (some l) body (YQW px l (.loop e ps asg body 0 .normal) (.loop e ps asg body 2 px) W n R S) e2 ds2 (h2.wr 0 l (.loop e ps asg body 1 .normal))
theorem FW.NM(hp:bt T){px:bw}(hpx:px= .ret∨∃i,px= .exit i){l:Nat}{W:Nat→Prop}{e e1:Env}{ps:List Nat}{asg body:aY}{args:List Value}{R S:Heap→Prop}(hl:h.get l=some (.loop e ps asg body 0 .normal))(he:ir e ps args=some e1)(hlN:l<h.next)(hlo:W l)
 (H:WE T h.next (some l) asg (YAW px T l e ps asg body W h.next R S) e1 [] h):
 FW T (.yield l) args h fun r h'=>(∀z∈h'.log,W z)∧(r= .ret (.bool true)∧R h'∨r= .ret (.bool false)∧l∈h'.log∧S h'):=by
 obtain⟨x,e2,ds2,h2,⟨m,hm⟩,⟨rfl,hl2,H2⟩⟩:=H.ok
 obtain⟨x3,e3,ds3,h3,⟨m3,hm3⟩,⟨⟨o,ho,hb⟩,hlog,hrel⟩⟩:=H2.ok
 have hnr:notReady (h2.get l)=false:=by rw[hl2];rfl
 have hloop:∃a b c d p,o= .loop a b c d 1 p:=by
  unfold A.busy at hb
  split at hb
  ·exact⟨_,_,_,_,_,rfl⟩
  ·cases hb
 obtain⟨oa,ob,oc,od,op,rfl⟩:=hloop
 rcases hrel with⟨rfl,hrel⟩|⟨rfl,hrel⟩
 ·have A1:=(eO.all hp m).exec _ _ _ _ _ _ _ _ _ _ (hm m (Nat.le_refl _)) (Nat.le_refl _)
  have A2:=(eO.all hp m3).exec _ _ _ _ _ _ _ _ _ _ (hm3 m3 (Nat.le_refl _)) A1.next
  have A3:AS 0 h (h3.wr 0 l (.loop e ps asg body 0 .normal)):=((A1.zero.trans (AS.wr 0 h2 l _)).trans A2.zero).trans (AS.wr 0 h3 l _)
  obtain⟨g1,g2,g3⟩:=vI (v:= .bool true) A3
  refine⟨.ret (.bool true),gcA h (h3.wr 0 l (.loop e ps asg body 0 .normal)) (.bool true),⟨m+m3+1,fun n hn=> ?_⟩,?_, .inl ⟨rfl,?_⟩⟩
  ·obtain⟨k,rfl⟩:∃k,n=k+1:=⟨n-1,by omega⟩
   have q1:=hm k (by omega)
   have q2:=hm3 k (by omega)
   rw[←wr0]at q2
   simp only[fT,hl,he,q1,hnr,cond_false,q2,ho]
   rfl
  ·rw[g3];exact hlog
  ·refine hrel _ g2 (fun z hz hne=>(g1 z hz).trans (Heap.eM hne)) ((g1 l hlN).trans ?_)
   exact Heap.bB ho
 ·refine⟨.ret (.bool false),h3.wr h.next l (.loop e ps asg body 2 x3),⟨m+m3+1,fun n hn=> ?_⟩,?_, .inr ⟨rfl,pP hlN,?_⟩⟩
  ·obtain⟨k,rfl⟩:∃k,n=k+1:=⟨n-1,by omega⟩
   have q1:=hm k (by omega)
   have q2:=hm3 k (by omega)
   rw[←wr0]at q2
   rcases hpx with rfl|⟨i,rfl⟩<;>simp only[fT,hl,he,q1,hnr,cond_false,q2,ho]
  ·intro z hz
   rcases dO hz with rfl|hz
   ·exact hlo
   ·exact hlog z hz
  ·exact hrel _ rfl (fun z hne=>Heap.eM hne) (Heap.bB ho)
structure I9 {α:Type} (px:bw) (T:Nat→Option af) (W:Nat→Prop) (N l:Nat) (V:α→List Value) (all:List α) (P:List α→Heap→Prop) (S:Heap→Prop):Prop where
 pQ:∀done x H,x∈all→Rdy H→N≤H.next→P done H→FW T (.yield l) (V x) H fun r H'=>(∀z∈H'.log,W z)∧(r= .ret (.bool true)∧P (done++[x]) H'∨r= .ret (.bool false)∧l∈H'.log∧S H')
 fF:∀done H H',P done H→N≤H'.next→(∀x,x<N→H'.get x=H.get x)→P done H'
 Kz:∀H m,S H→S {H with log:=m}
 CE:∀H,S H→∃a b c d,H.get l=some (.loop a b c d 2 px)
 low:∀z,W z→z<N
theorem I9.call(hp:bt T){α:Type}{px:bw}{W:Nat→Prop}{N l:Nat}{V:α→List Value}{all:List α}{P:List α→Heap→Prop}{S:Heap→Prop}(Y:I9 px T W N l V all P S){K:Env→Dfs→Heap→Prop}{dst:Option Nat}{done:List α}{x:α}(hx:x∈all)(hw:WF h)(hN:N≤h.next)(hlb:l<base)(hP:P done h)
 (hK:∀h',Ws W h h'→P (done++[x]) h'→K (bM e dst (.bool true)) ds h')
 (hX:∀h',Ws W h h'→l∈h'.log→S h'→K (bM e dst (.bool false)) ds h'):FW T (.yield l) (V x) {h with log:=[]} (KO K Q base dst e ds h.log):=by
 refine FW.mono' (FW.BG hp (Y.pQ done x _ hx (.of hw) hN (Y.fF _ _ _ hP hN fun _ _=>rfl)) rfl) ?_
 rintro r h2 ⟨hA,hl,hq⟩
 have hk:Ws W {h with log:=[]} h2:=Ws.nK hA hl
 rcases hq with⟨rfl,hq⟩|⟨rfl,hm,hq⟩
 ·exact⟨hK _ hk.call (Y.fF _ _ _ hq (Nat.le_trans hN hA.next) fun _ _=>rfl)⟩
 ·exact⟨hX _ hk.call (mem_merge hlb hm) (Y.Kz _ _ hq)⟩
def GrW(T:Nat→Option af)(f:Nat)(args:List Value)(h:Heap)(W:Nat→Prop)(P S:Heap→Prop):Prop:=CW T f args h fun r h'=>Ws W h h'∧∃v,r= .ret v∧(P h'∨S h')
structure Mf (rs:List (Nat×Option (Option Nat))) (W:Nat→Prop) (l:Nat) (P S:Heap→Prop) (x:bw) (e:Env) (ds:Dfs) (h1:Heap):Prop where
 ok:(x= .normal∨x= .ret)∧ds=[]∧(∀z∈h1.log,W z)∧(∃vs,bY h1 e rs=some vs)∧(P h1∨l∈h1.log∧S h1)
theorem Ft{rs:List (Nat×Option (Option Nat))}{W:Nat→Prop}{l:Nat}{P S:Heap→Prop}{vs:List Value}(hl:∀z∈h.log,W z)(hr:bY h e rs=some vs)(hm:l∈h.log)(hq:S h):Mf rs W l P S .ret e [] h:=⟨⟨.inr rfl,rfl,hl,⟨vs,hr⟩, .inr ⟨hm,hq⟩⟩⟩
theorem Fs{rs:List (Nat×Option (Option Nat))}{W:Nat→Prop}{l:Nat}{P S:Heap→Prop}{vs:List Value}(hl:∀z∈h.log,W z)(hr:bY h e rs=some vs)(hq:P h):Mf rs W l P S .normal e [] h:=⟨⟨.inl rfl,rfl,hl,⟨vs,hr⟩, .inl hq⟩⟩
theorem GrW.of(hp:bt T){px:bw}{f:Nat}{args:List Value}{c:aY}{rs:List (Nat×Option (Option Nat))}{W:Nat→Prop}{l:Nat}{P S:Heap→Prop}(hf:T f=some (.code c rs))(hlN:l<h.next)
 (hP:∀h1 h2:Heap,h.next≤h2.next→(∀x,x<h.next→h2.get x=h1.get x)→P h1→P h2)(hS:∀H,S H→∃a b c d,H.get l=some (.loop a b c d 2 px))(H:WE T h.next none c (Mf rs W l P S) (dV 0 args) [] h):GrW T f args h W P S:=by
 obtain⟨x,e,ds,h1,⟨m,hm⟩,⟨hx,rfl,hl,⟨vs,hvs⟩,hq⟩⟩:=H.ok
 have hA:=(eO.all hp m).exec _ _ _ _ _ _ _ _ _ _ (hm m (Nat.le_refl _)) (Nat.le_refl _)
 obtain⟨g1,g2,g3,g4⟩:=nq (v:=eS vs) hA
 have key:Ws W h (gcA h h1 (eS vs))∧∃v,Res.ret (eS vs)= .ret v∧(P (gcA h h1 (eS vs))∨S (gcA h h1 (eS vs))):=by
  refine⟨Ws.nK (hA.gc' _) (by rw[g3];exact hl),_,rfl,?_⟩
  rcases hq with hq|⟨hml,hq⟩
  ·exact .inl (hP _ _ g2 g1 hq)
  ·obtain⟨a,b,c,d,hlp⟩:=hS _ hq
   rw[B9 hlp hlN hml]
   exact .inr hq
 refine CW.code hf ⟨x,e,[],h1,⟨m,hm⟩,?_⟩
 unfold u0
 rcases hx with rfl|rfl<;>(simp only[hvs];exact key)
theorem merge_lt{base z:Nat}:∀{m l:List Nat},z∈aC base l m→z∈l∨z∈m∧z<base
 |[],l,h=> .inl h
 |b::m,l,h=>by
  simp only[aC]at h
  rcases merge_lt (m:=m) h with h|⟨h,hb⟩
  ·revert h
   rw[cond_eq_ite,cond_eq_ite]
   split
   ·rename_i hlt
    split
    ·exact .inl
    ·intro h
     rcases List.mem_cons.1 h with rfl|h
     ·exact .inr ⟨List.mem_cons_self ..,by rw[blt_eq]at hlt;simpa using hlt⟩
     ·exact .inl h
   ·exact .inl
  ·exact .inr ⟨List.mem_cons_of_mem _ h,hb⟩
theorem Eu{px:bw}{h1:Heap}{f:Operand}{g:Nat}{W:Nat→Prop}{first cap:Array Value}{ps:List Nat}{asg body:aY}{P S:Heap→Prop}(hr:mJ h1 rnd=true)(hf:ev h1 e f=some (.func (.func g) first cap))(hnc:fS (T g)=false)
 (hbase:base≤h1.next)(w1:WF h1)
 (HG:GrW T g (dI first.toList (dI [.func (.yield h1.next) #[] #[]] cap.toList)) {h1.push (.loop e ps asg body 0 .normal)with log:=[]} W P S)
 (hP:∀H,P H→∃a b c d,H.get h1.next=some (.loop a b c d 0 .normal))(hS:∀H,S H→∃a b c d,H.get h1.next=some (.loop a b c d 2 px))
 (K1:∀h2 h3:Heap,(∀z∈h3.log,z∈h1.log∨W z∧z<base)→WF h3→h1.next<h3.next→h3.next=h2.next→(∀z,z≠h1.next→h3.get z=h2.get z)→(∀z,z<h1.next→¬W z→h3.get z=h1.get z)→P h2→Q .normal e ds h3)
 (K2:∀h2 h3:Heap,(∀z∈h3.log,z∈h1.log∨W z∧z<base)→WF h3→h1.next<h3.next→h3.next=h2.next→(∀z,z≠h1.next→h3.get z=h2.get z)→(∀z,z<h1.next→¬W z→h3.get z=h1.get z)→S h2→Q px e ds h3):WE T base rnd (.rangeFunc f ps asg body) Q e ds h1:=by
 refine uV hr hf hnc (CW.mono HG ?_)
 rintro r h2 ⟨hk,v,rfl,hq⟩
 have q1:∀z∈(({h2 with log:=aC base h1.log h2.log}:Heap).wr base h1.next .dead).log,z∈h1.log∨W z∧z<base:=by
  rw[Heap.aN (by omega)]
  intro z hz
  rcases merge_lt (show z∈aC base h1.log h2.log from hz)with hz|⟨hz,hb⟩
  ·exact .inl hz
  ·rcases hk.log z hz with q|q
   ·cases q
   ·exact .inr ⟨q,hb⟩
 have q2:WF (({h2 with log:=aC base h1.log h2.log}:Heap).wr base h1.next .dead):=((hk.wf ((w1.push _).log _)).log _).as (AS.wr _ _ _ _)
 have q3:h1.next<h2.next:=hk.next
 have q4:∀z,z≠h1.next→(({h2 with log:=aC base h1.log h2.log}:Heap).wr base h1.next .dead).get z=h2.get z:=fun z hne=>Heap.eM hne
 have q5:∀z,z<h1.next→¬W z→(({h2 with log:=aC base h1.log h2.log}:Heap).wr base h1.next .dead).get z=h1.get z:=fun z hz hn=>(q4 z (by omega)).trans ((hk.old z (Nat.lt_succ_of_lt hz) hn).trans (Heap.fJ hz))
 rcases hq with hq|hq
 ·obtain⟨a,b,c,d,hl⟩:=hP _ hq
  exact⟨_,rfl,_,_,_,_,_,_,hl,rfl,K1 h2 _ q1 q2 q3 rfl q4 q5 hq⟩
 ·obtain⟨a,b,c,d,hl⟩:=hS _ hq
  exact⟨_,rfl,_,_,_,_,_,_,hl,rfl,K2 h2 _ q1 q2 q3 rfl q4 q5 hq⟩
end Go.A
end
