/- How a run is reckoned. -/
import Derived.Test.YtalmahakphchfaaGreatDoorSC
import Derived.Test.YtalmahakphchfaaGreatDoorSA
import Derived.Lib.Bytealg
import Derived.Below
import Derived.Test.YtalmahakphchfaaGreatDoorSE
set_option linter.all false
section
namespace Go.A
variable {P:Program}
def Tr.all(Q:Nat→af→Prop):Tr→Prop
 | .nil=>True
 | .node l k v r=>l.all Q∧Q k v∧r.all Q
theorem Tr.all_nil{Q:Nat→af→Prop}:Tr.all Q .nil:=trivial
theorem Tr.aa{Q:Nat→af→Prop}{l r:Tr}{k:Nat}{v:af}(h1:l.all Q)(h2:Q k v)(h3:r.all Q):Tr.all Q (.node l k v r):=⟨h1,h2,h3⟩
theorem Tr.sB{Q:Nat→af→Prop}:∀{t:Tr} {n:Nat} {v:af},t.all Q→t.get n=some v→Q n v
 | .nil,_,_,_,h=>by cases h
 | .node l k v r,n,u,ha,h=>by
   simp only[Tr.get,cond_eq_ite,beq_eq,decide_eq_true_eq]at h
   split at h
   ·rename_i e;subst e;cases h;exact ha.2.1
   ·split at h
    ·exact Tr.sB ha.1 h
    ·exact Tr.sB ha.2.2 h
def zR(P:Program)(f:Nat)(p:List Value→Heap→Option (Value×Heap)):Prop:=∀args h v h',p args h=some (v,h')→h.log=[]→AS h.next h h'∧∀μ w args',R P μ h w→LR μ args args'→mL P (gH P μ h w (.ret v) h') ((callFunc f args'.toArray).run P w)
inductive Entry (P:Program) (k:Nat):af→Prop
 |code {c rs fn ks}:P.funcs[k]? =some fn→aH P fn ks=some (.code c rs)→Entry P k (.code c rs)
 |mA {p}:zR P k p→Entry P k (.mA p)
theorem Entry.of{k:Nat}{fn:Func}{a:af}{ks:List (List Nat)}(h1:P.funcs[k]? =some fn)(h2:aH P fn ks=some a):Entry P k a:=by
 have h3:=h2
 unfold aH at h3
 split at h3
 ·split at h3
  ·cases h3
  ·split at h3
   ·cases h3;exact .code h1 h2
   ·cases h3
 ·cases h3
theorem ru{t:Tr}(hm:P.follows .mixedOrders=true)(h:t.all (Entry P)):dY P t.get where
 mixed:=hm
 code:=fun f c rs hf=>by
  have:=Tr.sB h hf
  cases this with
  |code h1 h2=>exact⟨_,_,h1,h2⟩
 mA:=fun f p args h0 v h' hf hp hl=>by
  have:=Tr.sB h hf
  cases this with
  |mA h1=>exact h1 args h0 v h' hp hl
theorem R.grow{μ:Mu}{h:Heap}{w w':World}(hR:R P μ h w)(hs:w.heap.size≤w'.heap.size)(hk:∀r,r<w.heap.size→w'.heap[r]? =w.heap[r]?)(hsm:Same w w'):R P μ h w'∧St μ h w μ h w':=
 ⟨⟨hR.big,fun g o h1 h2=>let⟨k,a,b,c,x⟩:=hR.jU g o h1 h2;⟨k,a,b,c,x.get (hk _ (hR.dom _ _ a).2)⟩,fun b o hb=>OR.mono (fun _ _ h=>h) rfl (fun k hk'=>hk _ (hR.dom _ _ hk').2) (hR.obj b o hb),hR.lt,fun b k hb=>⟨(hR.dom b k hb).1,Nat.lt_of_lt_of_le (hR.dom b k hb).2 hs⟩,hR.jK⟩,
   ⟨fun _ _=>rfl,hs,fun r hr _=>hk r hr,fun _ _ h=>h,fun r L h=>⟨L,(hk r (Array.getElem?_eq_some_iff.1 h).1).trans h, .refl L⟩,hsm⟩⟩
theorem Dp{f:Nat}{fn:Func}(hf:P.funcs[f]? =some fn)(hn:fn.name≠ "runtime.NumGoroutine")(hb:fn.body.isSome=true)(args:Array Value)(w:World):(callFunc f args).run P w= .ok (.enter f args) w:=by
 cases hb':fn.body with
 |none=>rw[hb']at hb;cases hb
 |some b=>simp[callFunc,program,Sem.run,hf,hb',hn]
theorem oI{μ:Mu}{h:Heap}{w:World}{f:Nat}{fn:Func}(hf:P.funcs[f]? =some fn)(hn:fn.name≠ "runtime.NumGoroutine")(hb:fn.body.isSome=true){args:Array Value}{Q:Ending→World→Prop}(hc:Calls P f args w Q)
 {res:Res}{h':Heap}(hq:∀e w',Q e w'→gH P μ h w res h' e w'):mL P (gH P μ h w res h') ((callFunc f args).run P w):=by
 rw[Dp hf hn hb]
 exact callsIn_wide.2 (hc.mono hq)
end Go.A
end
section
namespace Go.A
variable {T:Nat→Option af}
def Ev(T:Nat→Option af)(base:Nat)(rnd:Option Nat)(c:aU)(e:Env)(ds:Dfs)(h:Heap)(r:br×Env×Dfs×Heap):Prop:=∃m,∀n,m≤n→b8 T n base rnd c e ds h=some r
def EvO(T:Nat→Option af)(base:Nat)(rnd:Option Nat)(ops:List bB)(e:Env)(ds:Dfs)(h:Heap)(r:br×Env×Dfs×Heap):Prop:=∃m,∀n,m≤n→fP T n base rnd ops e ds h=some r
def EvD(T:Nat→Option af)(base:Nat)(ops:List bB)(is bf:List Nat)(rs:List Rec)(e:Env)(h:Heap)(r:br×Env×Heap):Prop:=∃m,∀n,m≤n→ef T n base ops is bf rs e h=some r
def EvF(T:Nat→Option af)(fn:Fn)(args:List Value)(h:Heap)(r:Res×Heap):Prop:=∃m,∀n,m≤n→fC T n fn args h=some r
def EvC(T:Nat→Option af)(f:Nat)(args:List Value)(h:Heap)(r:Res×Heap):Prop:=∃m,∀n,m≤n→iS T n f args h=some r
def XW(T:Nat→Option af)(base:Nat)(rnd:Option Nat)(c:aU)(e:Env)(ds:Dfs)(h:Heap)(Q:br→Env→Dfs→Heap→Prop):Prop:=∃x e' ds' h',Ev T base rnd c e ds h (x,e',ds',h')∧Q x e' ds' h'
def FW(T:Nat→Option af)(fn:Fn)(args:List Value)(h:Heap)(Q:Res→Heap→Prop):Prop:=∃r h',EvF T fn args h (r,h')∧Q r h'
def CW(T:Nat→Option af)(f:Nat)(args:List Value)(h:Heap)(Q:Res→Heap→Prop):Prop:=∃r h',EvC T f args h (r,h')∧Q r h'
theorem XW.mono{base:Nat}{rnd:Option Nat}{c:aU}{e:Env}{ds:Dfs}{h:Heap}{Q Q':br→Env→Dfs→Heap→Prop}(H:XW T base rnd c e ds h Q)(hq:∀x e ds h,Q x e ds h→Q' x e ds h):XW T base rnd c e ds h Q':=
 let⟨x,e',ds',h',h1,h2⟩:=H;⟨x,e',ds',h',h1,hq _ _ _ _ h2⟩
theorem CW.mono{f:Nat}{args:List Value}{h:Heap}{Q Q':Res→Heap→Prop}(H:CW T f args h Q)(hq:∀r h,Q r h→Q' r h):CW T f args h Q':=
 let⟨r,h',h1,h2⟩:=H;⟨r,h',h1,hq _ _ h2⟩
abbrev XQ:=br→Env→Dfs→Heap→Prop
def kR(keep:List Nat)(Q:XQ):XQ:=fun x e ds h=>match x with
 | .normal=>Q .normal (cu e keep) ds h
 |x=>Q x e ds h
def kB(id:Nat)(Q:XQ):XQ:=fun x e ds h=>match x with
 | .exit i=>(i=id→Q .normal e ds h)∧(i≠id→Q (.exit i) e ds h)
 |x=>Q x e ds h
def kS(K:Env→Dfs→Heap→Prop)(Q:XQ):XQ:=fun x e ds h=>match x with
 | .normal=>K e ds h
 |x=>Q x e ds h
def kO(K:Env→Dfs→Heap→Prop)(Q:XQ)(base:Nat)(dst:Option Nat)(e:Env)(ds:Dfs)(log:List Nat):Res→Heap→Prop:=fun r h2=>match r with
 | .ret v=>K (cD e dst v) ds {h2 with log:=aC base log h2.log}
 | .panic v=>Q (.panic v) e ds {h2 with log:=aC base log h2.log}
def kD(K:List Rec→Env→Heap→Prop)(base:Nat)(mask:Nat)(rs:List Rec)(dst:Option Nat)(e:Env)(log:List Nat):Res→Heap→Prop:=fun r h2=>match r with
 | .ret v=>match bF {h2 with log:=aC base log h2.log} base h2.log mask rs with
   |some rs'=>K rs' (cD e dst v) {h2 with log:=aC base log h2.log}
   |none=>False
 | .panic _=>False
def wpA(T:Nat→Option af)(base:Nat)(rnd:Option Nat)(wpO:Env→Dfs→Heap→Prop)(Q:XQ)(dst:Option Nat)(e:Env)(ds:Dfs)(h:Heap):Option cC→Prop
 |some (.val v h')=>wpO (cD e dst v) ds h'
 |some (.call fn args h')=>FW T fn args {h' with log:=[]} (kO wpO Q base dst e ds h'.log)
 |some (.jo f args)=>rnd=none∧wpO (cD e dst (.tuple #[])) ((f,args)::ds) h
 |some (.panic v h')=>Q (.panic v) e ds h'
 |_=>False
def wpG(A:Prop)(B:Prop):Option Bool→Prop
 |some c=>(c=false→B)∧(c=true→A)
 |none=>False
def wpO(T:Nat→Option af)(base:Nat)(rnd:Option Nat)(Q:XQ):List bB→Env→Dfs→Heap→Prop
 |[],e,ds,h=>Q .normal e ds h
 |o::os,e,ds,h=>wpG (wpA T base rnd (wpO T base rnd Q os) Q o.dst e ds h (aop h base e o.op)) (wpO T base rnd Q os (cD e o.dst (.tuple #[])) ds h) (bY e o.guard)
def OL(T:Nat→Option af)(base:Nat)(wpD:List Rec→Env→Heap→Prop)(i:Nat)(o:bB)(mask:Nat)(rs:List Rec)(er e:Env)(h:Heap):Prop:=
 match jq o.op with
 |true=>
  match aop h base er o.op with
  |some (.val v h')=>
   match di o.op with
   |true=>mH h' base rs=true∧wpD (⟨i,o,er,v, .made h.next⟩::rs) (cD e o.dst v) h'
   |false=>h'.next=h.next∧wpD (⟨i,o,er,v, .quiet⟩::rs) (cD e o.dst v) h
  |_=>False
 |false=>
  match aop {h with log:=[]} h.next er o.op with
  |some (.val v h2)=>match bF {h2 with log:=aC base h.log h2.log} base h2.log mask rs with
   |some rs'=>wpD rs' (cD e o.dst v) {h2 with log:=aC base h.log h2.log}
   |none=>False
  |some (.call fn args _)=>FW T fn args {h with log:=[]} (kD wpD base mask rs o.dst e h.log)
  |_=>False
def wpD(T:Nat→Option af)(base:Nat)(ops:List bB)(bf:List Nat)(Q:Env→Heap→Prop):List Nat→List Rec→Env→Heap→Prop
 |[],_,e,h=>Q e h
 |i::is,rs,e,h=>
  match bD ops i,bD bf i with
  |some o,some mask=>wpG (OL T base (wpD T base ops bf Q is) i o mask rs (cu e (cQ o)) e h) (wpD T base ops bf Q is (⟨i,o,cu e (cQ o), .tuple #[], .skip⟩::rs) (cD e o.dst (.tuple #[])) h) (bY (cu e (cQ o)) o.guard)
  |_,_=>False
def wpC(A B:Prop):Option Value→Prop
 |some (.bool t)=>(t=true→A)∧(t=false→B)
 |_=>False
def wpE(T:Nat→Option af)(base:Nat)(rnd:Option Nat):aU→XQ→Env→Dfs→Heap→Prop
 | .skip,Q,e,ds,h=>Q .normal e ds h
 | .region ops keep,Q,e,ds,h=>wpO T base rnd (kR keep Q) ops e ds h
 | .draw ops order bf keep,Q,e,ds,h=>wpD T base ops bf (fun e' h'=>Q .normal (cu e' keep) ds h') order [] e h
 | .seq a b,Q,e,ds,h=>wpE T base rnd a (kS (wpE T base rnd b Q) Q) e ds h
 | .cond c a b,Q,e,ds,h=>wpC (wpE T base rnd a Q e ds h) (wpE T base rnd b Q e ds h) (ev h e c)
 | .block id b,Q,e,ds,h=>wpE T base rnd b (kB id Q) e ds h
 | .loop b,Q,e,ds,h=>XW T base rnd (.loop b) e ds h Q
 | .rangeFunc f ps a b,Q,e,ds,h=>XW T base rnd (.rangeFunc f ps a b) e ds h Q
 | .scope b,Q,e,ds,h=>wpE T base rnd b Q e ds h
 | .rangeMap o i x k ou nx pr o2 k2 b,Q,e,ds,h=>XW T base rnd (.rangeMap o i x k ou nx pr o2 k2 b) e ds h Q
 | .exit id,Q,e,ds,h=>Q (.exit id) e ds h
 | .ret,Q,e,ds,h=>Q .ret e ds h
theorem rB{base:Nat}{rnd:Option Nat}{Q:XQ}:∀{ops:List bB} {e:Env} {ds:Dfs} {h:Heap},wpO T base rnd Q ops e ds h→∃x e' ds' h',EvO T base rnd ops e ds h (x,e',ds',h')∧Q x e' ds' h'
 |[],e,ds,h,H=>⟨.normal,e,ds,h,⟨1,fun n hn=>by obtain⟨k,rfl⟩:∃k,n=k+1:=⟨n-1,by omega⟩;simp only[fP]⟩,H⟩
 |o::os,e,ds,h,H=>by
  simp only[wpO]at H
  unfold wpG at H
  split at H
  ·rename_i c hc
   cases c with
   |false=>
    obtain⟨x,e',ds',h',⟨m,h1⟩,h2⟩:=rB (H.1 rfl)
    exact⟨x,e',ds',h',⟨m+1,fun n hn=>by
     obtain⟨k,rfl⟩:∃k,n=k+1:=⟨n-1,by omega⟩
     simp only[fP,hc];exact h1 k (by omega)⟩,h2⟩
   |true=>
    have H:=H.2 rfl
    unfold wpA at H
    split at H
    ·rename_i v h3 ho
     obtain⟨x,e',ds',h',⟨m,h1⟩,h2⟩:=rB H
     exact⟨x,e',ds',h',⟨m+1,fun n hn=>by
      obtain⟨k,rfl⟩:∃k,n=k+1:=⟨n-1,by omega⟩
      simp only[fP,hc,ho];exact h1 k (by omega)⟩,h2⟩
    ·rename_i fn args h3 ho
     obtain⟨r,h4,⟨m1,hf⟩,H⟩:=H
     cases r with
     |ret v=>
      obtain⟨x,e',ds',h',⟨m,h1⟩,h2⟩:=rB H
      exact⟨x,e',ds',h',⟨m+m1+1,fun n hn=>by
       obtain⟨k,rfl⟩:∃k,n=k+1:=⟨n-1,by omega⟩
       simp only[fP,hc,ho,hf k (by omega)];exact h1 k (by omega)⟩,h2⟩
     |panic v=>
      exact⟨_,_,_,_,⟨m1+1,fun n hn=>by
       obtain⟨k,rfl⟩:∃k,n=k+1:=⟨n-1,by omega⟩
       simp only[fP,hc,ho,hf k (by omega)]⟩,H⟩
    ·rename_i f args ho
     obtain⟨hr,H⟩:=H
     subst hr
     obtain⟨x,e',ds',h',⟨m,h1⟩,h2⟩:=rB H
     exact⟨x,e',ds',h',⟨m+1,fun n hn=>by
      obtain⟨k,rfl⟩:∃k,n=k+1:=⟨n-1,by omega⟩
      simp only[fP,hc,ho];exact h1 k (by omega)⟩,h2⟩
    ·rename_i v h3 ho
     exact⟨_,_,_,_,⟨1,fun n hn=>by
      obtain⟨k,rfl⟩:∃k,n=k+1:=⟨n-1,by omega⟩
      simp only[fP,hc,ho]⟩,H⟩
    ·exact H.elim
  ·exact H.elim
theorem Bk{base:Nat}{ops:List bB}{bf:List Nat}{Q:Env→Heap→Prop}:∀{is:List Nat} {rs:List Rec} {e:Env} {h:Heap},wpD T base ops bf Q is rs e h→∃e' h',EvD T base ops is bf rs e h (.normal,e',h')∧Q e' h'
 |[],rs,e,h,H=>⟨e,h,⟨1,fun n hn=>by obtain⟨k,rfl⟩:∃k,n=k+1:=⟨n-1,by omega⟩;simp only[ef]⟩,H⟩
 |i::is,rs,e,h,H=>by
  simp only[wpD]at H
  split at H
  ·rename_i o mask ho hm
   unfold wpG at H
   split at H
   ·rename_i c hc
    have fin:∀{rs':List Rec} {e1:Env} {h1:Heap},wpD T base ops bf Q is rs' e1 h1→(∃m,∀n,m≤n→∀r,ef T n base ops is bf rs' e1 h1=some r→ef T (n+1) base ops (i::is) bf rs e h=some r)→∃e' h',EvD T base ops (i::is) bf rs e h (.normal,e',h')∧Q e' h':=fun hw ⟨m0,hs⟩=>by
     obtain⟨e',h',⟨m,h1⟩,h2⟩:=Bk hw
     exact⟨e',h',⟨m+m0+1,fun n hn=>by
      obtain⟨k,rfl⟩:∃k,n=k+1:=⟨n-1,by omega⟩
      exact hs k (by omega) _ (h1 k (by omega))⟩,h2⟩
    cases c with
    |false=>
     exact fin (H.1 rfl) ⟨0,fun n _ r hr=>by simp only[ef,ho,hm,hc];exact hr⟩
    |true=>
     have H:=H.2 rfl
     unfold OL at H
     split at H
     ·rename_i he
      split at H
      ·rename_i v h3 hop
       split at H
       ·rename_i hnw
        exact fin H.2 ⟨0,fun n _ r hr=>by simp only[ef,ho,hm,hc,he,hop,hnw,H.1,cond_true];exact hr⟩
       ·rename_i hnw
        exact fin H.2 ⟨0,fun n _ r hr=>by
         have hb:Nat.beq h3.next h.next=true:=by rw[beq_eq];simpa using H.1
         simp only[ef,ho,hm,hc,he,hop,hnw,hb,cond_true,cond_false];exact hr⟩
      ·exact H.elim
     ·rename_i he
      split at H
      ·rename_i v h3 hop
       split at H
       ·rename_i rs' hrs
        exact fin H ⟨0,fun n _ r hr=>by simp only[ef,ho,hm,hc,he,hop,hrs,cond_false];exact hr⟩
       ·exact H.elim
      ·rename_i fn args h3 hop
       obtain⟨r,h4,⟨m1,hf⟩,H⟩:=H
       unfold kD at H
       split at H
       ·rename_i v
        split at H
        ·rename_i rs' hrs
         exact fin H ⟨m1,fun n hn r hr=>by simp only[ef,ho,hm,hc,he,hop,hf n hn,hrs,cond_false];exact hr⟩
        ·exact H.elim
       ·exact H.elim
      ·exact H.elim
   ·exact H.elim
  ·exact H.elim
theorem pF{base:Nat}{rnd:Option Nat}:∀{c:aU} {Q:XQ} {e:Env} {ds:Dfs} {h:Heap},wpE T base rnd c Q e ds h→XW T base rnd c e ds h Q
 | .skip,Q,e,ds,h,H=>⟨_,_,_,_,⟨1,fun n hn=>by obtain⟨k,rfl⟩:∃k,n=k+1:=⟨n-1,by omega⟩;simp only[b8]⟩,H⟩
 | .exit i,Q,e,ds,h,H=>⟨_,_,_,_,⟨1,fun n hn=>by obtain⟨k,rfl⟩:∃k,n=k+1:=⟨n-1,by omega⟩;simp only[b8]⟩,H⟩
 | .ret,Q,e,ds,h,H=>⟨_,_,_,_,⟨1,fun n hn=>by obtain⟨k,rfl⟩:∃k,n=k+1:=⟨n-1,by omega⟩;simp only[b8]⟩,H⟩
 | .loop b,Q,e,ds,h,H=>H
 | .rangeFunc f ps a b,Q,e,ds,h,H=>H
 | .rangeMap o i x k ou nx pr o2 k2 b,Q,e,ds,h,H=>H
 | .scope b,Q,e,ds,h,H=>by
   obtain⟨x,e',ds',h',⟨m,h1⟩,h2⟩:=pF (c:=b) H
   exact⟨_,_,_,_,⟨m+1,fun n hn=>by
    obtain⟨k,rfl⟩:∃k,n=k+1:=⟨n-1,by omega⟩
    simp only[b8,h1 k (by omega)]⟩,h2⟩
 | .region ops keep,Q,e,ds,h,H=>by
   obtain⟨x,e',ds',h',⟨m,h1⟩,h2⟩:=rB H
   cases x with
   |normal=>exact⟨_,_,_,_,⟨m+1,fun n hn=>by
    obtain⟨k,rfl⟩:∃k,n=k+1:=⟨n-1,by omega⟩
    simp only[b8,h1 k (by omega)]⟩,h2⟩
   |_=>exact⟨_,_,_,_,⟨m+1,fun n hn=>by
     obtain⟨k,rfl⟩:∃k,n=k+1:=⟨n-1,by omega⟩
     simp only[b8,h1 k (by omega)]⟩,h2⟩
 | .draw ops order bf keep,Q,e,ds,h,H=>by
   obtain⟨e',h',⟨m,h1⟩,h2⟩:=Bk H
   exact⟨_,_,_,_,⟨m+1,fun n hn=>by
    obtain⟨k,rfl⟩:∃k,n=k+1:=⟨n-1,by omega⟩
    simp only[b8,h1 k (by omega)]⟩,h2⟩
 | .seq a b,Q,e,ds,h,H=>by
   obtain⟨x,e',ds',h',⟨m,h1⟩,h2⟩:=pF (c:=a) H
   cases x with
   |normal=>
    obtain⟨x2,e2,ds2,h3,⟨m2,h4⟩,h5⟩:=pF (c:=b) h2
    exact⟨_,_,_,_,⟨m+m2+1,fun n hn=>by
     obtain⟨k,rfl⟩:∃k,n=k+1:=⟨n-1,by omega⟩
     simp only[b8,h1 k (by omega)];exact h4 k (by omega)⟩,h5⟩
   |_=>exact⟨_,_,_,_,⟨m+1,fun n hn=>by
     obtain⟨k,rfl⟩:∃k,n=k+1:=⟨n-1,by omega⟩
     simp only[b8,h1 k (by omega)]⟩,h2⟩
 | .cond c a b,Q,e,ds,h,H=>by
   simp only[wpE]at H
   unfold wpC at H
   split at H
   ·rename_i t ht
    cases t with
    |true=>
     obtain⟨x,e',ds',h',⟨m,h1⟩,h2⟩:=pF (c:=a) (H.1 rfl)
     exact⟨_,_,_,_,⟨m+1,fun n hn=>by
      obtain⟨k,rfl⟩:∃k,n=k+1:=⟨n-1,by omega⟩
      simp only[b8,ht];exact h1 k (by omega)⟩,h2⟩
    |false=>
     obtain⟨x,e',ds',h',⟨m,h1⟩,h2⟩:=pF (c:=b) (H.2 rfl)
     exact⟨_,_,_,_,⟨m+1,fun n hn=>by
      obtain⟨k,rfl⟩:∃k,n=k+1:=⟨n-1,by omega⟩
      simp only[b8,ht];exact h1 k (by omega)⟩,h2⟩
   ·exact H.elim
 | .block id b,Q,e,ds,h,H=>by
   obtain⟨x,e',ds',h',⟨m,h1⟩,h2⟩:=pF (c:=b) H
   cases x with
   |exit i=>
    by_cases hi:i=id
    ·exact⟨_,_,_,_,⟨m+1,fun n hn=>by
      obtain⟨k,rfl⟩:∃k,n=k+1:=⟨n-1,by omega⟩
      have hb:Nat.beq i id=true:=by rw[beq_eq];simpa using hi
      simp only[b8,h1 k (by omega),hb,cond_true]⟩,h2.1 hi⟩
    ·exact⟨_,_,_,_,⟨m+1,fun n hn=>by
      obtain⟨k,rfl⟩:∃k,n=k+1:=⟨n-1,by omega⟩
      have hb:Nat.beq i id=false:=by rw[beq_eq];simpa using hi
      simp only[b8,h1 k (by omega),hb,cond_false]⟩,h2.2 hi⟩
   |_=>exact⟨_,_,_,_,⟨m+1,fun n hn=>by
     obtain⟨k,rfl⟩:∃k,n=k+1:=⟨n-1,by omega⟩
     simp only[b8,h1 k (by omega)]⟩,h2⟩
theorem XW.loop{base:Nat}{rnd:Option Nat}{b:aU}{Q:br→Env→Dfs→Heap→Prop}(I:Nat→Env→Dfs→Heap→Prop)
 (hr:∀k e ds h,I k e ds h→XW T base rnd b e ds h fun x e' ds' h'=>match x with| .normal=>∃k',k'<k∧I k' e' ds' h'|x=>Q x e' ds' h'):
 ∀{k:Nat} {e:Env} {ds:Dfs} {h:Heap},I k e ds h→XW T base rnd (.loop b) e ds h Q:=by
 intro k
 induction k using Nat.strongRecOn with
 |ind k ih=>
  intro e ds h hI
  obtain⟨x,e',ds',h',⟨m,h1⟩,h2⟩:=hr k e ds h hI
  cases x with
  |normal=>
   obtain⟨k',hk,hI'⟩:=h2
   obtain⟨x2,e2,ds2,h3,⟨m2,h4⟩,h5⟩:=ih k' hk hI'
   exact⟨_,_,_,_,⟨m+m2+1,fun n hn=>by
    obtain⟨k,rfl⟩:∃k,n=k+1:=⟨n-1,by omega⟩
    simp only[b8,h1 k (by omega)];exact h4 k (by omega)⟩,h5⟩
  |_=>exact⟨_,_,_,_,⟨m+1,fun n hn=>by
    obtain⟨k,rfl⟩:∃k,n=k+1:=⟨n-1,by omega⟩
    simp only[b8,h1 k (by omega)]⟩,h2⟩
theorem XW.QJ{base:Nat}{rnd:Option Nat}{a b:aU}{e:Env}{ds:Dfs}{h:Heap}{Q:br→Env→Dfs→Heap→Prop}
 (H:XW T base rnd a e ds h fun x e' ds' h'=>match x with| .normal=>XW T base rnd b e' ds' h' Q|x=>Q x e' ds' h'):XW T base rnd (.seq a b) e ds h Q:=by
 obtain⟨x,e',ds',h',⟨m,h1⟩,h2⟩:=H
 cases x with
 |normal=>
  obtain⟨x2,e2,ds2,h3,⟨m2,h4⟩,h5⟩:=h2
  exact⟨_,_,_,_,⟨m+m2+1,fun n hn=>by
   obtain⟨k,rfl⟩:∃k,n=k+1:=⟨n-1,by omega⟩
   simp only[b8,h1 k (by omega)];exact h4 k (by omega)⟩,h5⟩
 |_=>exact⟨_,_,_,_,⟨m+1,fun n hn=>by
   obtain⟨k,rfl⟩:∃k,n=k+1:=⟨n-1,by omega⟩
   simp only[b8,h1 k (by omega)]⟩,h2⟩
theorem FW.func{f:Nat}{args:List Value}{h:Heap}{Q:Res→Heap→Prop}(H:CW T f args h Q):FW T (.func f) args h Q:=by
 obtain⟨r,h',⟨m,h1⟩,h2⟩:=H
 exact⟨r,h',⟨m+1,fun n hn=>by
  obtain⟨k,rfl⟩:∃k,n=k+1:=⟨n-1,by omega⟩
  simp only[fC];exact h1 k (by omega)⟩,h2⟩
def vO(rs:List (Nat×Option (Option Nat)))(h:Heap)(Q:Res→Heap→Prop):br→Env→Dfs→Heap→Prop:=fun x e ds h1=>
 match x with
 | .exit _=>False
 | .panic v=>match ds with
   |[]=>Q (.panic v) h1
   |_=>False
 |_=>match ds with
  |[]=>match cm h1 e rs with
   |some vs=>Q (.ret (fh vs)) (gcA h h1 (fh vs))
   |none=>False
  |_=>False
theorem CW.code{f:Nat}{args:List Value}{h:Heap}{Q:Res→Heap→Prop}{c:aU}{rs:List (Nat×Option (Option Nat))}(hf:T f=some (.code c rs))
 (H:XW T h.next none c (ei 0 args) [] h (vO rs h Q)):CW T f args h Q:=by
 obtain⟨x,e,ds,h1,⟨m,he⟩,H⟩:=H
 unfold vO at H
 cases x with
 |exit _=>exact H.elim
 |panic v=>
  dsimp only at H
  split at H
  ·refine⟨_,_,⟨m+2,fun n hn=> ?_⟩,H⟩
   obtain⟨k,rfl⟩:∃k,n=k+2:=⟨n-2,by omega⟩
   have:=he (k+1) (by omega)
   simp only[iS,this,mP,hf]
  ·exact H.elim
 |normal=>
  dsimp only at H
  split at H
  ·split at H
   ·rename_i vs hvs
    refine⟨_,_,⟨m+2,fun n hn=> ?_⟩,H⟩
    obtain⟨k,rfl⟩:∃k,n=k+2:=⟨n-2,by omega⟩
    have:=he (k+1) (by omega)
    simp only[iS,this,mP,hf,hvs]
   ·exact H.elim
  ·exact H.elim
 |ret=>
  dsimp only at H
  split at H
  ·split at H
   ·rename_i vs hvs
    refine⟨_,_,⟨m+2,fun n hn=> ?_⟩,H⟩
    obtain⟨k,rfl⟩:∃k,n=k+2:=⟨n-2,by omega⟩
    have:=he (k+1) (by omega)
    simp only[iS,this,mP,hf,hvs]
   ·exact H.elim
  ·exact H.elim
end Go.A
end
section
namespace Go.A
variable {T:Nat→Option af} {base:Nat} {rnd:Option Nat} {Q:XQ} {e:Env} {ds:Dfs} {h:Heap} {c:aU}
structure WE (T:Nat→Option af) (base:Nat) (rnd:Option Nat) (c:aU) (Q:XQ) (e:Env) (ds:Dfs) (h:Heap):Prop where
 ok:XW T base rnd c e ds h Q
structure WO (T:Nat→Option af) (base:Nat) (rnd:Option Nat) (Q:XQ) (ops:List bB) (e:Env) (ds:Dfs) (h:Heap):Prop where
 ok:∃x e' ds' h',EvO T base rnd ops e ds h (x,e',ds',h')∧Q x e' ds' h'
structure WD (T:Nat→Option af) (base:Nat) (ops:List bB) (bf:List Nat) (Q:Env→Heap→Prop) (is:List Nat) (rs:List Rec) (e:Env) (h:Heap):Prop where
 ok:∃e' h',EvD T base ops is bf rs e h (.normal,e',h')∧Q e' h'
structure KR (keep:List Nat) (Q:XQ) (x:br) (e:Env) (ds:Dfs) (h:Heap):Prop where
 ok:kR keep Q x e ds h
structure KS (K:Env→Dfs→Heap→Prop) (Q:XQ) (x:br) (e:Env) (ds:Dfs) (h:Heap):Prop where
 ok:kS K Q x e ds h
structure KB (i:Nat) (Q:XQ) (x:br) (e:Env) (ds:Dfs) (h:Heap):Prop where
 ok:kB i Q x e ds h
structure KO (K:Env→Dfs→Heap→Prop) (Q:XQ) (base:Nat) (dst:Option Nat) (e:Env) (ds:Dfs) (log:List Nat) (r:Res) (h:Heap):Prop where
 ok:kO K Q base dst e ds log r h
structure KD (K:List Rec→Env→Heap→Prop) (base:Nat) (mask:Nat) (rs:List Rec) (dst:Option Nat) (e:Env) (log:List Nat) (r:Res) (h:Heap):Prop where
 ok:kD K base mask rs dst e log r h
theorem WE.of(H:wpE T base rnd c Q e ds h):WE T base rnd c Q e ds h:=⟨pF H⟩
theorem bA(H:Q .normal e ds h):WE T base rnd .skip Q e ds h:= .of H
theorem dz{i:Nat}(H:Q (.exit i) e ds h):WE T base rnd (.exit i) Q e ds h:= .of H
theorem aM(H:Q .ret e ds h):WE T base rnd .ret Q e ds h:= .of H
theorem an{a b:aU}(H:WE T base rnd a (KS (WE T base rnd b Q) Q) e ds h):WE T base rnd (.seq a b) Q e ds h:=by
 refine⟨XW.QJ (H.ok.mono fun x e ds h hq=> ?_)⟩
 cases x<;>first|exact hq.ok.ok|exact hq.ok
theorem aq{ops:List bB}{keep:List Nat}(H:WO T base rnd (KR keep Q) ops e ds h):WE T base rnd (.region ops keep) Q e ds h:=by
 obtain⟨x,e',ds',h',⟨m,h1⟩,⟨h2⟩⟩:=H.ok
 cases x with
 |normal=>exact⟨_,_,_,_,⟨m+1,fun n hn=>by
  obtain⟨k,rfl⟩:∃k,n=k+1:=⟨n-1,by omega⟩
  simp only[b8,h1 k (by omega)]⟩,h2⟩
 |_=>exact⟨_,_,_,_,⟨m+1,fun n hn=>by
   obtain⟨k,rfl⟩:∃k,n=k+1:=⟨n-1,by omega⟩
   simp only[b8,h1 k (by omega)]⟩,h2⟩
theorem aO{i:Nat}{b:aU}(H:WE T base rnd b (KB i Q) e ds h):WE T base rnd (.block i b) Q e ds h:=by
 obtain⟨x,e',ds',h',⟨m,h1⟩,⟨h2⟩⟩:=H.ok
 cases x with
 |exit j=>
  by_cases hi:j=i
  ·exact⟨_,_,_,_,⟨m+1,fun n hn=>by
    obtain⟨k,rfl⟩:∃k,n=k+1:=⟨n-1,by omega⟩
    have hb:Nat.beq j i=true:=by rw[beq_eq];simpa using hi
    simp only[b8,h1 k (by omega),hb,cond_true]⟩,h2.1 hi⟩
  ·exact⟨_,_,_,_,⟨m+1,fun n hn=>by
    obtain⟨k,rfl⟩:∃k,n=k+1:=⟨n-1,by omega⟩
    have hb:Nat.beq j i=false:=by rw[beq_eq];simpa using hi
    simp only[b8,h1 k (by omega),hb,cond_false]⟩,h2.2 hi⟩
 |_=>exact⟨_,_,_,_,⟨m+1,fun n hn=>by
   obtain⟨k,rfl⟩:∃k,n=k+1:=⟨n-1,by omega⟩
   simp only[b8,h1 k (by omega)]⟩,h2⟩
theorem Cj{c:Operand}{a b:aU}{t:Bool}(hc:ev h e c=some (.bool t))(h1:t=true→WE T base rnd a Q e ds h)(h2:t=false→WE T base rnd b Q e ds h):WE T base rnd (.cond c a b) Q e ds h:=by
 cases t with
 |true=>
  obtain⟨x,e',ds',h',⟨m,q1⟩,q2⟩:=(h1 rfl).ok
  exact⟨_,_,_,_,⟨m+1,fun n hn=>by
   obtain⟨k,rfl⟩:∃k,n=k+1:=⟨n-1,by omega⟩
   simp only[b8,hc];exact q1 k (by omega)⟩,q2⟩
 |false=>
  obtain⟨x,e',ds',h',⟨m,q1⟩,q2⟩:=(h2 rfl).ok
  exact⟨_,_,_,_,⟨m+1,fun n hn=>by
   obtain⟨k,rfl⟩:∃k,n=k+1:=⟨n-1,by omega⟩
   simp only[b8,hc];exact q1 k (by omega)⟩,q2⟩
theorem JF{c:Operand}{a b:aU}(hc:ev h e c=some (.bool true))(h1:WE T base rnd a Q e ds h):WE T base rnd (.cond c a b) Q e ds h:=Cj hc (fun _=>h1) (fun h=>by cases h)
theorem HC{c:Operand}{a b:aU}(hc:ev h e c=some (.bool false))(h1:WE T base rnd b Q e ds h):WE T base rnd (.cond c a b) Q e ds h:=Cj hc (fun h=>by cases h) (fun _=>h1)
theorem dn{ops:List bB}{is bf keep:List Nat}(H:WD T base ops bf (fun e' h'=>KR keep Q .normal e' ds h') is [] e h):WE T base rnd (.draw ops is bf keep) Q e ds h:=by
 obtain⟨e',h',⟨m,h1⟩,⟨h2⟩⟩:=H.ok
 exact⟨_,_,_,_,⟨m+1,fun n hn=>by
  obtain⟨k,rfl⟩:∃k,n=k+1:=⟨n-1,by omega⟩
  simp only[b8,h1 k (by omega)]⟩,h2⟩
theorem dL{b:aU}(I:Nat→Env→Dfs→Heap→Prop){k:Nat}(hI:I k e ds h)
 (hr:∀k e ds h,I k e ds h→WE T base rnd b (KS (fun e' ds' h'=>∃k',k'<k∧I k' e' ds' h') Q) e ds h):WE T base rnd (.loop b) Q e ds h:=
 ⟨XW.loop I (fun k e ds h hI=>((hr k e ds h hI).ok.mono fun x e ds h hq=>by cases x<;>exact hq.ok)) hI⟩
theorem WE.mono{c:aU}{Q':XQ}(H:WE T base rnd c Q' e ds h)(hq:∀x e ds h,Q' x e ds h→Q x e ds h):WE T base rnd c Q e ds h:=⟨H.ok.mono hq⟩
theorem NR{keep:List Nat}{e2:Env}(he:cu e keep=e2)(H:Q .normal e2 ds h):KR keep Q .normal e ds h:=by subst he;exact⟨H⟩
theorem bH{K:Env→Dfs→Heap→Prop}(H:K e ds h):KS K Q .normal e ds h:=⟨H⟩
theorem dZ{K:Env→Dfs→Heap→Prop}(H:Q .ret e ds h):KS K Q .ret e ds h:=⟨H⟩
theorem ek{K:Env→Dfs→Heap→Prop}{i:Nat}(H:Q (.exit i) e ds h):KS K Q (.exit i) e ds h:=⟨H⟩
theorem fF{i:Nat}(H:Q .normal e ds h):KB i Q .normal e ds h:=⟨H⟩
theorem jL{i:Nat}(H:Q .ret e ds h):KB i Q .ret e ds h:=⟨H⟩
theorem iY{i:Nat}(H:Q .normal e ds h):KB i Q (.exit i) e ds h:=⟨⟨fun _=>H,fun h=>(h rfl).elim⟩⟩
theorem K7{i j:Nat}(hn:Nat.beq j i=false)(H:Q (.exit j) e ds h):KB i Q (.exit j) e ds h:=by
 rw[beq_eq]at hn
 simp only[decide_eq_false_iff_not]at hn
 exact⟨⟨fun h=>(hn h).elim,fun _=>H⟩⟩
theorem ct(H:Q .normal e ds h):WO T base rnd Q [] e ds h:=⟨rB (T:=T) (base:=base) (rnd:=rnd) (ops:=[]) H⟩
theorem ah{dst:Option Nat}{op:AOp}{os:List bB}{v:Value}{h':Heap}(ho:aop h base e op=some (.val v h'))(H:WO T base rnd Q os (cD e dst v) ds h'):WO T base rnd Q (⟨dst,op,none⟩::os) e ds h:=by
 obtain⟨x,e',ds',h',⟨m,h1⟩,h2⟩:=H.ok
 exact⟨x,e',ds',h',⟨m+1,fun n hn=>by
  obtain⟨k,rfl⟩:∃k,n=k+1:=⟨n-1,by omega⟩
  simp only[fP,bY,ho];exact h1 k (by omega)⟩,h2⟩
theorem xD{dst:Option Nat}{op:AOp}{os:List bB}{fn:Fn}{args:List Value}{h':Heap}(ho:aop h base e op=some (.call fn args h'))(H:FW T fn args {h' with log:=[]} (KO (WO T base rnd Q os) Q base dst e ds h'.log)):WO T base rnd Q (⟨dst,op,none⟩::os) e ds h:=by
 obtain⟨r,h4,⟨m1,hf⟩,⟨H⟩⟩:=H
 cases r with
 |ret v=>
  obtain⟨x,e',ds',h',⟨m,h1⟩,h2⟩:=WO.ok H
  exact⟨x,e',ds',h',⟨m+m1+1,fun n hn=>by
   obtain⟨k,rfl⟩:∃k,n=k+1:=⟨n-1,by omega⟩
   simp only[fP,bY,ho,hf k (by omega)];exact h1 k (by omega)⟩,h2⟩
 |panic v=>
  exact⟨_,_,_,_,⟨m1+1,fun n hn=>by
   obtain⟨k,rfl⟩:∃k,n=k+1:=⟨n-1,by omega⟩
   simp only[fP,bY,ho,hf k (by omega)]⟩,H⟩
theorem HD{dst:Option Nat}{op:AOp}{os:List bB}{t:Nat}{b:Bool}(hg:geT e t=some (.bool b))(H:WO T base rnd Q (⟨dst,op,none⟩::os) e ds h):WO T base rnd Q (⟨dst,op,some (t,b)⟩::os) e ds h:=by
 obtain⟨x,e',ds',h',⟨m,h1⟩,h2⟩:=H.ok
 exact⟨x,e',ds',h',⟨m+1,fun n hn=>by
  obtain⟨k,rfl⟩:∃k,n=k+1:=⟨n-1,by omega⟩
  have:=h1 (k+1) (by omega)
  have hb:(b==b)=true:=by simp
  simp only[fP,bY]at this
  simp only[fP,bY,hg,hb];exact this⟩,h2⟩
theorem MA{dst:Option Nat}{op:AOp}{os:List bB}{t:Nat}{b x:Bool}(hg:geT e t=some (.bool x))(hx:x= !b)(H:WO T base rnd Q os (cD e dst (.tuple #[])) ds h):WO T base rnd Q (⟨dst,op,some (t,b)⟩::os) e ds h:=by
 obtain⟨x',e',ds',h',⟨m,h1⟩,h2⟩:=H.ok
 exact⟨x',e',ds',h',⟨m+1,fun n hn=>by
  obtain⟨k,rfl⟩:∃k,n=k+1:=⟨n-1,by omega⟩
  have hb:(x==b)=false:=by subst hx;cases b<;>rfl
  simp only[fP,bY,hg,hb];exact h1 k (by omega)⟩,h2⟩
theorem dH{ops:List bB}{bf:List Nat}{rs:List Rec}{Q:Env→Heap→Prop}(H:Q e h):WD T base ops bf Q [] rs e h:=⟨Bk (T:=T) (base:=base) (ops:=ops) (bf:=bf) (is:=[]) (rs:=rs) H⟩
theorem qj{ops:List bB}{bf:List Nat}{rs rs':List Rec}{Q:Env→Heap→Prop}{i:Nat}{is:List Nat}{e1:Env}{h1:Heap}(hs:∃m,∀n,m≤n→∀r,ef T n base ops is bf rs' e1 h1=some r→ef T (n+1) base ops (i::is) bf rs e h=some r)
 (H:WD T base ops bf Q is rs' e1 h1):WD T base ops bf Q (i::is) rs e h:=by
 obtain⟨e',h',⟨m,q1⟩,q2⟩:=H.ok
 obtain⟨m0,hs⟩:=hs
 exact⟨e',h',⟨m+m0+1,fun n hn=>by
  obtain⟨k,rfl⟩:∃k,n=k+1:=⟨n-1,by omega⟩
  exact hs k (by omega) _ (q1 k (by omega))⟩,q2⟩
theorem My{ops:List bB}{bf:List Nat}{rs:List Rec}{Q:Env→Heap→Prop}{i mask:Nat}{is:List Nat}{dst:Option Nat}{op:AOp}{g:Option (Nat×Bool)}{er:Env}(ho:bD ops i=some ⟨dst,op,g⟩)(hm:bD bf i=some mask)(he:cu e (cQ ⟨dst,op,g⟩)=er)(hw:bY er g=some false)
 (H:WD T base ops bf Q is (⟨i,⟨dst,op,g⟩,er, .tuple #[], .skip⟩::rs) (cD e dst (.tuple #[])) h):WD T base ops bf Q (i::is) rs e h:=by
 subst he
 exact qj ⟨0,fun n _ r hr=>by simp only[ef,ho,hm,hw];exact hr⟩ H
theorem aF{ops:List bB}{bf:List Nat}{rs:List Rec}{Q:Env→Heap→Prop}{i mask:Nat}{is:List Nat}{dst:Option Nat}{op:AOp}{g:Option (Nat×Bool)}{er:Env}{v:Value}(ho:bD ops i=some ⟨dst,op,g⟩)(hm:bD bf i=some mask)(he:cu e (cQ ⟨dst,op,g⟩)=er)(hw:bY er g=some true)
 (hq:jq op=true)(hn:di op=false)(hop:aop h base er op=some (.val v h))(H:WD T base ops bf Q is (⟨i,⟨dst,op,g⟩,er,v, .quiet⟩::rs) (cD e dst v) h):WD T base ops bf Q (i::is) rs e h:=by
 subst he
 have hb:Nat.beq h.next h.next=true:=by rw[beq_eq];simp
 exact qj ⟨0,fun n _ r hr=>by simp only[ef,ho,hm,hw,hq,hop,hn,hb,cond_true,cond_false];exact hr⟩ H
theorem HB{ops:List bB}{bf:List Nat}{rs:List Rec}{Q:Env→Heap→Prop}{i mask:Nat}{is:List Nat}{dst:Option Nat}{op:AOp}{g:Option (Nat×Bool)}{er:Env}{v:Value}{h':Heap}(ho:bD ops i=some ⟨dst,op,g⟩)(hm:bD bf i=some mask)(he:cu e (cQ ⟨dst,op,g⟩)=er)(hw:bY er g=some true)
 (hq:jq op=true)(hn:di op=true)(hop:aop h base er op=some (.val v h'))(hrs:mH h' base rs=true)(H:WD T base ops bf Q is (⟨i,⟨dst,op,g⟩,er,v, .made h.next⟩::rs) (cD e dst v) h'):WD T base ops bf Q (i::is) rs e h:=by
 subst he
 exact qj ⟨0,fun n _ r hr=>by simp only[ef,ho,hm,hw,hq,hop,hn,hrs,cond_true];exact hr⟩ H
theorem Mx{ops:List bB}{bf:List Nat}{rs rs':List Rec}{Q:Env→Heap→Prop}{i mask:Nat}{is:List Nat}{dst:Option Nat}{op:AOp}{g:Option (Nat×Bool)}{er:Env}{v:Value}{h2:Heap}(ho:bD ops i=some ⟨dst,op,g⟩)(hm:bD bf i=some mask)(he:cu e (cQ ⟨dst,op,g⟩)=er)(hw:bY er g=some true)
 (hq:jq op=false)(hop:aop {h with log:=[]} h.next er op=some (.val v h2))(hrs:bF {h2 with log:=aC base h.log h2.log} base h2.log mask rs=some rs')
 (H:WD T base ops bf Q is rs' (cD e dst v) {h2 with log:=aC base h.log h2.log}):WD T base ops bf Q (i::is) rs e h:=by
 subst he
 exact qj ⟨0,fun n _ r hr=>by simp only[ef,ho,hm,hw,hq,hop,hrs,cond_false];exact hr⟩ H
theorem xz{ops:List bB}{bf:List Nat}{rs:List Rec}{Q:Env→Heap→Prop}{i mask:Nat}{is:List Nat}{dst:Option Nat}{op:AOp}{g:Option (Nat×Bool)}{er:Env}{fn:Fn}{args:List Value}{h3:Heap}(ho:bD ops i=some ⟨dst,op,g⟩)(hm:bD bf i=some mask)(he:cu e (cQ ⟨dst,op,g⟩)=er)(hw:bY er g=some true)
 (hq:jq op=false)(hop:aop {h with log:=[]} h.next er op=some (.call fn args h3))(H:FW T fn args {h with log:=[]} (KD (WD T base ops bf Q is) base mask rs dst e h.log)):WD T base ops bf Q (i::is) rs e h:=by
 subst he
 obtain⟨r,h4,⟨m1,hf⟩,⟨H⟩⟩:=H
 unfold kD at H
 split at H
 ·split at H
  ·rename_i rs' hrs
   exact qj ⟨m1,fun n hn r hr=>by simp only[ef,ho,hm,hw,hq,hop,hf n hn,hrs,cond_false];exact hr⟩ H
  ·exact H.elim
 ·exact H.elim
end Go.A
end
section
namespace Go.A
variable {T:Nat→Option af}
theorem iW{base N:Nat}{rnd:Option Nat}{c:aU}{e:Env}{ds:Dfs}{h:Heap}{r:br×Env×Dfs×Heap}(H:∀n,(mX T (n+N)).exec base rnd c e ds h=some r):Ev T base rnd c e ds h r:=
 ⟨N,fun n hn=>by
  have:=H (n-N)
  rw[BL,show n-N+N=n by omega]at this
  exact this⟩
theorem jr{base:Nat}{rnd:Option Nat}{c:aU}{e e1:Env}{ds ds1:Dfs}{h h1:Heap}{r:br×Env×Dfs×Heap}(hc:c= .seq (cL c) (cR c))(H1:Ev T base rnd (cL c) e ds h (.normal,e1,ds1,h1))(H2:Ev T base rnd (cR c) e1 ds1 h1 r):Ev T base rnd c e ds h r:=by
 obtain⟨m1,q1⟩:=H1
 obtain⟨m2,q2⟩:=H2
 refine⟨m1+m2+1,fun n hn=> ?_⟩
 obtain⟨k,rfl⟩:∃k,n=k+1:=⟨n-1,by omega⟩
 rw[hc]
 simp only[b8,q1 k (by omega)]
 exact q2 k (by omega)
theorem CW.QD{f:Nat}{args:List Value}{h:Heap}{Q:Res→Heap→Prop}{c:aU}{rs:List (Nat×Option (Option Nat))}{x:br}{e:Env}{ds:Dfs}{h1:Heap}(hf:T f=some (.code c rs))(H:Ev T h.next none c (ei 0 args) [] h (x,e,ds,h1))(hq:vO rs h Q x e ds h1):CW T f args h Q:=
 CW.code hf ⟨x,e,ds,h1,H,hq⟩
theorem R.none{P:Program}{w:World}{n:Nat}(hn:P.globals.size≤n):R P (fun _=>none) ⟨[],n,[]⟩ w:=
 {big:=hn
  jU:=fun g o _ h=>by cases h
  obj:=fun b o h=>by cases h
  lt:=fun b o h=>by cases h
  dom:=fun b k h=>by cases h
  jK:=fun b b' o o' k k' _ h=>by cases h}
end Go.A
end
section
namespace Go.A
variable {T:Nat→Option af} {base:Nat} {rnd:Option Nat} {Q:XQ} {e:Env} {ds:Dfs} {h:Heap}
theorem Heap.l5(h:Heap)(o:bK):(h.push o).get h.next=some o:=by rw[Heap.dg,if_pos rfl]
theorem Heap.iX{h:Heap}{o:bK}{x:Nat}(hx:x<h.next):(h.push o).get x=h.get x:=by rw[Heap.dg,if_neg (by omega)]
theorem Heap.aJ{h:Heap}{base b:Nat}{o o':bK}(hb:h.get b=some o'):(h.wr base b o).get b=some o:=by rw[Heap.j7,if_pos rfl,hb];rfl
theorem Heap.yx(h:Heap)(base b:Nat)(o:bK):(h.wr base b o).get b=(h.get b).map fun _=>o:=by rw[Heap.j7,if_pos rfl]
theorem Heap.eG{h:Heap}{base b:Nat}{o:bK}{x:Nat}(hx:x≠b):(h.wr base b o).get x=h.get x:=by rw[Heap.j7,if_neg hx]
theorem Heap.tn(h:Heap)(o:bK):(h.push o).log=h.log:=rfl
theorem Heap.aL{h:Heap}{base b:Nat}{o:bK}(hb:base≤b):(h.wr base b o).log=h.log:=by
 simp only[Heap.wr,blt_eq]
 rw[decide_eq_false (by omega)];rfl
theorem iu{x:Operand}{v:Value}(hx:ev h e x=some v):aop h base e (.mov x)=some (.val v h):=by simp only[aop,hx,cB]
theorem iR{c a b:Operand}{v:Value}(hc:ev h e c=some (.bool true))(hx:ev h e a=some v):aop h base e (.pick c a b)=some (.val v h):=by simp only[aop,hc,hx,cB]
theorem iQ{c a b:Operand}{v:Value}(hc:ev h e c=some (.bool false))(hx:ev h e b=some v):aop h base e (.pick c a b)=some (.val v h):=by simp only[aop,hc,hx,cB]
theorem cZ{z:List Value}:aop h base e (.new z)=some (.val (.pointer (some ⟨h.next,0,none⟩)) (h.push (.cells z true 1))):=rfl
theorem MY{x:Operand}{v:Value}{vs:List Value}(hx:ev h e x=some v)(hc:cellsOf v=vs):aop h base e (.box x)=some (.val (.pointer (some ⟨h.next,0,none⟩)) (h.push (.cells vs true 1))):=by simp only[aop,hx,cB,hc]
theorem dS{z cs:List Value}{ps:List (Nat×Nat×Operand)}(hf:iJ h e z ps=some cs):aop h base e (.build z ps)=some (.val (.agg cs.toArray) h):=by simp only[aop,hf]
theorem xI{z cs:List Value}{n m:Nat}{ps:List (Nat×Nat×Operand)}(hf:iJ h e (gi n z) ps=some cs)(hm:bO z=m):aop h base e (.dA z n ps)=some (.val (.slice (some ⟨h.next,0,none⟩) n n) (h.push (.cells cs true m))):=by simp only[aop,hf,hm]
theorem dD{x:Operand}{b o sz:Nat}{vs:List Value}{own:Bool}{v:Value}(hx:ev h e x=some (.pointer (some ⟨b,o,none⟩)))(hb:h.get b=some (.cells vs own sz))(hv:bD vs o=some v):aop h base e (.load none x)=some (.val v h):=by
 simp only[aop,hx,cB,nj,hb,hv]
theorem dK{x:Operand}{n b o sz:Nat}{vs l:List Value}{own:Bool}(hx:ev h e x=some (.pointer (some ⟨b,o,none⟩)))(hb:h.get b=some (.cells vs own sz))(hv:bT n (bS o vs)=l)(hl:Nat.beq (bO l) n=true):
 aop h base e (.load (some n) x)=some (.val (.agg l.toArray) h):=by
 simp only[aop,hx,cB,nj,hb,hv,hl,cond_true]
theorem gV{x y:Operand}{n b o sz:Nat}{vs ws:List Value}{v:Value}(hx:ev h e x=some (.pointer (some ⟨b,o,none⟩)))(hy:ev h e y=some v)(hb:h.get b=some (.cells vs true sz))
 (hc:(Nat.beq (bO (cellsOf v)) n&&Nat.ble (o+n) (bO vs)&&dG (cellsOf v))=true)(hw:cg vs o (cellsOf v)=ws):aop h base e (.store n x y)=some (.val (.tuple #[]) (h.wr base b (.cells ws true sz))):=by
 simp only[aop,hx,hy,cB,pz,hb,hc,hw,cond_true]
theorem uF{op:BinOp}{x y:Operand}{a b v:Value}(hx:ev h e x=some a)(hy:ev h e y=some b)(hv:aA op a b=some v):aop h base e (.bin (.num op) x y)=some (.val v h):=by simp only[aop,hx,hy,cB,hv]
theorem MX{neq b:Bool}{ls:List dM}{x y:Operand}{xs ys:Array Value}(hx:ev h e x=some (.agg xs))(hy:ev h e y=some (.agg ys))(hn:bC ls xs.toList ys.toList=some b):aop h base e (.bin (.agg neq ls) x y)=some (.val (.bool (bif neq then !b else b)) h):=by
 simp only[aop,hx,hy,cB,hn]
theorem rI{x:Operand}{b:Bool}(hx:ev h e x=some (.bool b)):aop h base e (.un .not x)=some (.val (.bool !b) h):=by simp only[aop,hx,cB,uj]
theorem dV{off b o:Nat}{x:Operand}(hx:ev h e x=some (.pointer (some ⟨b,o,none⟩))):aop h base e (.cS off x)=some (.val (.pointer (some ⟨b,o+off,none⟩)) h):=by simp only[aop,hx]
theorem xK{size b o len cap i:Nat}{k:IntKind}{x y:Operand}(hx:ev h e x=some (.slice (some ⟨b,o,none⟩) len cap))(hy:ev h e y=some (.int k (i:Nat)))(hi:i<len):aop h base e (.aQ size x y)=some (.val (.pointer (some ⟨b,o+i*size,none⟩)) h):=by
 have:(.int k (i:Nat):Value)= .int k (Int.ofNat i):=rfl
 rw[this]at hy
 simp only[aop,hx,hy,blt_eq,decide_eq_true hi,cond_true]
theorem Cs{x:Operand}{i:Nat}{vs:Array Value}{v:Value}(hx:ev h e x=some (.tuple vs))(hv:bD vs.toList i=some v):aop h base e (.extract x i)=some (.val v h):=by simp only[aop,hx,cB,hv]
theorem KF{x:Operand}{a:Option Addr}{n c:Nat}(hx:ev h e x=some (.slice a n c)):aop h base e (.len 1 x)=some (.val (.int .i64 n) h):=by simp only[aop,hx]
theorem gL{fn:Fn}{fs cs:List Operand}{as bs:List Value}(h1:evs h e fs=some as)(h2:evs h e cs=some bs):aop h base e (.dP fn fs cs)=some (.val (.func fn as.toArray bs.toArray) h):=by simp only[aop,h1,h2]
theorem bP{x:Operand}{b o:Nat}(hx:ev h e x=some (.pointer (some ⟨b,o,none⟩))):aop h base e (.bh x)=some (.val (.pointer (some ⟨b,o,none⟩)) h):=by simp only[aop,hx,cB]
theorem DZ{f:Operand}{args:List Operand}{fv:Value}{as:List Value}{g:Nat}{first cap:Array Value}{all:List Value}(hf:ev h e f=some fv)(ha:evs h e args=some as)(hv:fv= .func (.func g) first cap)(hl:dO first.toList (dO as cap.toList)=all):
 aop h base e (.call f args)=some (.call (.func g) all h):=by subst hv;simp only[aop,hf,ha,mY,hl]
theorem cN{n:Int}(h1: -9223372036854775808≤n)(h2:n<9223372036854775808):fI .i64 n=n:=by
 rw[ql,IntKind.wrap_i64];omega
theorem Kr{k:IntKind}{a b:Int}:aA .lss (.int k a) (.int k b)=some (.bool (decide (a<b))):=by simp[aA,arith,kV]
theorem Kq{k:IntKind}{a b:Int}:aA .leq (.int k a) (.int k b)=some (.bool (decide (a≤b))):=by simp[aA,arith,kV]
theorem Kp{k:IntKind}{a b:Int}:aA .gtr (.int k a) (.int k b)=some (.bool (decide (b<a))):=by simp[aA,arith,kV]
theorem Fs{k:IntKind}{a b:Int}:aA .geq (.int k a) (.int k b)=some (.bool (decide (b≤a))):=by simp[aA,arith,kV]
theorem Ko{k:IntKind}{a b:Int}:aA .eql (.int k a) (.int k b)=some (.bool (a==b)):=by simp[aA,arith,kV]
theorem Kt{k:IntKind}{a b:Int}:aA .neq (.int k a) (.int k b)=some (.bool (a !=b)):=by simp[aA,arith,kV]
theorem nk{k:IntKind}{a b c:Int}(hc:fI k (a+b)=c):aA .add (.int k a) (.int k b)=some (.int k c):=by simp[aA,arith,hc]
theorem nr{k:IntKind}{a b c:Int}(hc:fI k (a-b)=c):aA .sub (.int k a) (.int k b)=some (.int k c):=by simp[aA,arith,hc]
theorem NX{n:Nat}(hn:n<9223372036854775807):aA .add (.int .i64 n) (.int .i64 1)=some (.int .i64 (n+1:Nat)):=nk (by rw[cN]<;>omega)
theorem KE{l m:List (Nat×bK)}(hk:l.map (·.1)=m.map (·.1))(hn:(m.map (·.1)).Nodup)(hg:∀b,b∈m.map (·.1)→eO l b=eO m b):l=m:=by
 induction m generalizing l with
 |nil=>simpa using hk
 |cons p m ih=>
  obtain⟨k,o⟩:=p
  cases l with
  |nil=>simp at hk
  |cons q l=>
   obtain⟨k',o'⟩:=q
   simp only[List.map_cons,List.cons.injEq]at hk
   obtain⟨h1,h2⟩:=hk
   subst h1
   simp only[List.map_cons,List.nodup_cons]at hn
   have h3:=hg k' (by simp)
   simp only[eO,cond_eq_ite,beq_eq,decide_true,if_true]at h3
   cases h3
   congr 1
   refine ih h2 hn.2 fun b hb=> ?_
   have h4:=hg b (by simp[hb])
   have hne:k'≠b:=fun e=>hn.1 (e▸hb)
   simpa only[eO,cond_eq_ite,beq_eq,decide_eq_true_eq,if_neg hne]using h4
structure WF (h:Heap):Prop where
 nodup:(h.bW.map (·.1)).Nodup
 lt:∀b,b∈h.bW.map (·.1)→b<h.next
theorem oR{a n b:Nat}:b∈cU a n↔a≤b∧b<a+n:=by
 induction n with
 |zero=>simp[cU]
 |succ n ih=>simp[cU,ih];omega
theorem vM(a n:Nat):(cU a n).Nodup:=by
 induction n with
 |zero=>simp[cU]
 |succ n ih=>simp only[cU,List.nodup_cons,oR];exact⟨by omega,ih⟩
theorem WF.as{base:Nat}{h h':Heap}(hw:WF h)(hA:AS base h h'):WF h' where
 nodup:=by
  rw[hA.keys,List.nodup_append]
  refine⟨vM _ _,hw.nodup,fun a ha b hb=> ?_⟩
  rw[oR]at ha
  have:=hw.lt b hb
  omega
 lt:=fun b hb=>by
  rw[hA.keys,List.mem_append]at hb
  have:=hA.next
  rcases hb with hb|hb
  ·rw[oR]at hb;omega
  ·have:=hw.lt b hb;omega
theorem WF.log{h:Heap}(hw:WF h)(l:List Nat):WF {h with log:=l}:=⟨hw.nodup,hw.lt⟩
theorem WF.push{h:Heap}(hw:WF h)(o:bK):WF (h.push o):=hw.as (AS.push 0 h o)
structure Ext (h h':Heap):Prop where
 next:h.next≤h'.next
 log:h'.log=h.log
 old:∀b,b<h.next→h'.get b=h.get b
 wf:WF h→WF h'
theorem Ext.refl(h:Heap):Ext h h:=⟨Nat.le_refl _,rfl,fun _ _=>rfl,id⟩
theorem Ext.trans{a b c:Heap}(h:Ext a b)(g:Ext b c):Ext a c:=⟨Nat.le_trans h.next g.next,g.log.trans h.log,fun x hx=>(g.old x (Nat.lt_of_lt_of_le hx h.next)).trans (h.old x hx),fun w=>g.wf (h.wf w)⟩
theorem Ext.push{a b:Heap}(h:Ext a b)(o:bK):Ext a (b.push o):=⟨Nat.le_succ_of_le h.next,h.log,fun x hx=>(Heap.iX (Nat.lt_of_lt_of_le hx h.next)).trans (h.old x hx),fun w=>(h.wf w).push o⟩
theorem Ext.wr{a b:Heap}(h:Ext a b){base x:Nat}{o:bK}(hx:a.next≤x)(hb:base≤x):Ext a (b.wr base x o):=⟨h.next,(Heap.aL hb).trans h.log,fun y hy=>(Heap.eG (by omega)).trans (h.old y hy),fun w=>(h.wf w).as (AS.wr base b x o)⟩
theorem CD{l:List (Nat×bK)}{b:Nat}(hb:b ∉ l.map (·.1)):eO l b=none:=by
 induction l with
 |nil=>rfl
 |cons p l ih=>
  obtain⟨k,o⟩:=p
  simp only[List.map_cons,List.mem_cons,not_or]at hb
  simp only[eO,cond_eq_ite,beq_eq,decide_eq_true_eq]
  rw[if_neg (Ne.symm hb.1)];exact ih hb.2
theorem BP{h h1:Heap}{v:Value}(hw:WF h)(hA:AS h.next h h1)(hl:h1.log=h.log)(h0:h.log=[])(hv:cT v=true):gcA h h1 v=h:=by
 have hA':=hA.keys
 have e:bS (h1.next-h.next) h1.bW=h.bW:=by
  rw[cK]
  have hlen:(cU h.next (h1.next-h.next)).length=h1.next-h.next:=by
   generalize h1.next-h.next=n
   induction n with
   |zero=>rfl
   |succ n ih=>simp[cU,ih]
  have hk:(h1.bW.drop (h1.next-h.next)).map (·.1)=h.bW.map (·.1):=by
   rw[List.map_drop,hA',List.drop_append_of_le_length (by omega),List.drop_of_length_le (by omega),List.nil_append]
  refine KE hk hw.nodup fun b hb=> ?_
  have hbl:=hw.lt b hb
  have hs:=hA.same b hbl hbl (by rw[hl,h0];rfl)
  have hsplit:h1.bW=h1.bW.take (h1.next-h.next)++h1.bW.drop (h1.next-h.next):=(List.take_append_drop _ _).symm
  have hkt:(h1.bW.take (h1.next-h.next)).map (·.1)=cU h.next (h1.next-h.next):=by
   rw[List.map_take,hA',List.take_append_of_le_length (by omega),List.take_of_length_le (by omega)]
  have:=jZ _ h.next _ (h1.bW.drop (h1.next-h.next)) hkt b hbl
  rw[←hsplit]at this
  exact this.symm.trans hs
 simp only[gcA,hv,hl,h0,gz,Bool.and_true,cond_true,mW,e]
 cases h;simp at h0⊢;exact h0
structure Rdy (h:Heap):Prop where
 wf:WF h
 log:h.log=[]
def Pu(T:Nat→Option af)(f:Nat)(args:List Value)(h:Heap)(v:Value):Prop:=CW T f args h fun r h'=>r= .ret v∧h'=h
structure Nz (rs:List (Nat×Option (Option Nat))) (v0:Value) (x:br) (e:Env) (ds:Dfs) (h1:Heap):Prop where
 ok:(x= .normal∨x= .ret)∧ds=[]∧h1.log=[]∧∃vs,cm h1 e rs=some vs∧fh vs=v0
theorem aD{rs:List (Nat×Option (Option Nat))}{v0:Value}{vs:List Value}(hl:h.log=[])(hr:cm h e rs=some vs)(hv:fh vs=v0):Nz rs v0 .ret e [] h:=⟨⟨.inr rfl,rfl,hl,vs,hr,hv⟩⟩
theorem Pu.of(hp:bI T){f:Nat}{args:List Value}{c:aU}{rs:List (Nat×Option (Option Nat))}{v0:Value}(hf:T f=some (.code c rs))(hr:Rdy h)(hv:cT v0=true)(H:WE T h.next none c (Nz rs v0) (ei 0 args) [] h):Pu T f args h v0:=by
 obtain⟨x,e,ds,h1,⟨m,hm⟩,⟨hx,rfl,hl,vs,hvs,rfl⟩⟩:=H.ok
 have hA:=(eC.all hp m).exec _ _ _ _ _ _ _ _ _ _ (hm m (Nat.le_refl _)) (Nat.le_refl _)
 refine CW.code hf ⟨x,e,[],h1,⟨m,hm⟩,?_⟩
 unfold vO
 have hg:=BP hr.wf hA (hl.trans hr.log.symm) hr.log hv
 rcases hx with rfl|rfl
 ·simp only[hvs,hg];exact⟨trivial,trivial⟩
 ·simp only[hvs,hg];exact⟨trivial,trivial⟩
theorem FW.pu{f:Nat}{args:List Value}{v:Value}{K:Env→Dfs→Heap→Prop}{dst:Option Nat}(H:Pu T f args {h with log:=[]} v)(hK:K (cD e dst v) ds h):FW T (.func f) args {h with log:=[]} (KO K Q base dst e ds h.log):=by
 refine .func (CW.mono H ?_)
 rintro r h' ⟨rfl,rfl⟩
 exact⟨hK⟩
theorem Rdy.of{h:Heap}(hw:WF h):Rdy {h with log:=[]}:=⟨hw.log [],rfl⟩
theorem FW.puD{f:Nat}{args:List Value}{v:Value}{K:List Rec→Env→Heap→Prop}{mask:Nat}{rs rs':List Rec}{dst:Option Nat}(H:Pu T f args {h with log:=[]} v)(hrs:bF h base [] mask rs=some rs')(hK:K rs' (cD e dst v) h):
 FW T (.func f) args {h with log:=[]} (KD K base mask rs dst e h.log):=by
 refine .func (CW.mono H ?_)
 rintro r h' ⟨rfl,rfl⟩
 refine⟨?_⟩
 show(match bF {h with log:=aC base h.log []} base [] mask rs with
  |some rs'=>K rs' (cD e dst v) {h with log:=aC base h.log []}
  |none=>False)
 have:({h with log:=aC base h.log []}:Heap)=h:=rfl
 rw[this,hrs]
 exact hK
structure pL (h:Heap) (b o n sz:Nat) (cs:List Value):Prop where
 lt:b<h.next
 obj:∃vs own s,h.get b=some (.cells vs own s)∧bT (n*sz) (bS o vs)=cs
 len:cs.length=n*sz
inductive cA (h:Heap) (sz:Nat):Value→Nat→List Value→Prop
 |nil {c}:cA h sz (.slice none 0 c) 0 []
 |mem {b o n cap cs}:pL h b o n sz cs→n≤cap→cA h sz (.slice (some ⟨b,o,none⟩) n cap) n cs
theorem pL.ext{h h':Heap}{b o n sz:Nat}{cs:List Value}(s:pL h b o n sz cs)(x:Ext h h'):pL h' b o n sz cs:=by
 obtain⟨vs,own,t,h1,h2⟩:=s.obj
 exact⟨Nat.lt_of_lt_of_le s.lt x.next,⟨vs,own,t,(x.old _ s.lt).trans h1,h2⟩,s.len⟩
theorem cA.ext{h h':Heap}{sz n:Nat}{v:Value}{cs:List Value}(s:cA h sz v n cs)(x:Ext h h'):cA h' sz v n cs:=by
 cases s with
 |nil=>exact .nil
 |mem s hc=>exact .mem (s.ext x) hc
theorem cA.form{h:Heap}{sz n:Nat}{v:Value}{cs:List Value}(s:cA h sz v n cs):∃a c,v= .slice a n c:=by
 cases s<;>exact⟨_,_,rfl⟩
theorem cA.log{h:Heap}{sz n:Nat}{v:Value}{cs:List Value}(s:cA h sz v n cs)(l:List Nat):cA {h with log:=l} sz v n cs:=by
 cases s with
 |nil=>exact .nil
 |mem s hc=>exact .mem ⟨s.lt,s.obj,s.len⟩ hc
theorem cA.inv{h:Heap}{sz n:Nat}{v:Value}{cs:List Value}(s:cA h sz v n cs):(∃c,v= .slice none 0 c∧n=0∧cs=[])∨∃b o cap,v= .slice (some ⟨b,o,none⟩) n cap∧pL h b o n sz cs∧n≤cap:=by
 cases s with
 |nil=>exact .inl ⟨_,rfl,rfl,rfl⟩
 |mem s hc=>exact .inr ⟨_,_,_,rfl,s,hc⟩
theorem Ao{k:IntKind}{a b:Int}(h:b≤a):aA .geq (.int k a) (.int k b)=some (.bool true):=by rw[Fs,decide_eq_true h]
theorem An{k:IntKind}{a b:Int}(h:a<b):aA .geq (.int k a) (.int k b)=some (.bool false):=by rw[Fs,decide_eq_false (by omega)]
theorem mh{k:IntKind}{a b:Int}(h:a≤b):aA .leq (.int k a) (.int k b)=some (.bool true):=by rw[Kq,decide_eq_true h]
theorem oZ{k:IntKind}{a b:Int}(h:b<a):aA .leq (.int k a) (.int k b)=some (.bool false):=by rw[Kq,decide_eq_false (by omega)]
theorem gP{k:IntKind}{a b:Int}(h:a<b):aA .lss (.int k a) (.int k b)=some (.bool true):=by rw[Kr,decide_eq_true h]
theorem iF{k:IntKind}{a b:Int}(h:b≤a):aA .lss (.int k a) (.int k b)=some (.bool false):=by rw[Kr,decide_eq_false (by omega)]
theorem mg{k:IntKind}{a b:Int}(h:b<a):aA .gtr (.int k a) (.int k b)=some (.bool true):=by rw[Kp,decide_eq_true h]
theorem mb{k:IntKind}{a b:Int}(h:a≤b):aA .gtr (.int k a) (.int k b)=some (.bool false):=by rw[Kp,decide_eq_false (by omega)]
theorem Am{k:IntKind}{a b:Int}(h:a=b):aA .eql (.int k a) (.int k b)=some (.bool true):=by rw[Ko];simp[h]
theorem wg{k:IntKind}{a b:Int}(h:a≠b):aA .eql (.int k a) (.int k b)=some (.bool false):=by rw[Ko];simp[h]
theorem Ap{k:IntKind}{a b:Int}(h:a≠b):aA .neq (.int k a) (.int k b)=some (.bool true):=by rw[Kt];simp[h]
theorem Ft{k:IntKind}{a b:Int}(h:a=b):aA .neq (.int k a) (.int k b)=some (.bool false):=by rw[Kt];simp[h]
def Al(T:Nat→Option af)(f:Nat)(args:List Value)(h:Heap)(Q:Value→Heap→Prop):Prop:=CW T f args h fun r h'=>Ext h h'∧∃v,r= .ret v∧Q v h'
structure Ny (rs:List (Nat×Option (Option Nat))) (Q:Value→Heap→Prop) (x:br) (e:Env) (ds:Dfs) (h1:Heap):Prop where
 ok:(x= .normal∨x= .ret)∧ds=[]∧h1.log=[]∧∃vs,cm h1 e rs=some vs∧Q (fh vs) h1
theorem iV{rs:List (Nat×Option (Option Nat))}{Q:Value→Heap→Prop}{vs:List Value}(hl:h.log=[])(hr:cm h e rs=some vs)(hq:Q (fh vs) h):Ny rs Q .ret e [] h:=⟨⟨.inr rfl,rfl,hl,vs,hr,hq⟩⟩
theorem Ext.oK{h h1:Heap}(hr:Rdy h)(hA:AS h.next h h1)(hl:h1.log=[]):Ext h h1:=
 ⟨hA.next,hl.trans hr.log.symm,fun b hb=>hA.same b hb hb (by rw[hl];rfl),fun w=>w.as hA⟩
theorem Al.of(hp:bI T){f:Nat}{args:List Value}{c:aU}{rs:List (Nat×Option (Option Nat))}{Q:Value→Heap→Prop}(hf:T f=some (.code c rs))(hr:Rdy h)(hQ:∀v h1,cT v=true→Q v h1→Q v h)(H:WE T h.next none c (Ny rs Q) (ei 0 args) [] h):Al T f args h Q:=by
 obtain⟨x,e,ds,h1,⟨m,hm⟩,⟨hx,rfl,hl,vs,hvs,hq⟩⟩:=H.ok
 have hA:=(eC.all hp m).exec _ _ _ _ _ _ _ _ _ _ (hm m (Nat.le_refl _)) (Nat.le_refl _)
 refine CW.code hf ⟨x,e,[],h1,⟨m,hm⟩,?_⟩
 have key:Ext h (gcA h h1 (fh vs))∧Q (fh vs) (gcA h h1 (fh vs)):=by
  cases hv:cT (fh vs)with
  |true=>
   rw[BP hr.wf hA (hl.trans hr.log.symm) hr.log hv]
   exact⟨.refl _,hQ _ _ hv hq⟩
  |false=>
   have:gcA h h1 (fh vs)=h1:=by simp[gcA,hv]
   rw[this]
   exact⟨.oK hr hA hl,hq⟩
 unfold vO
 rcases hx with rfl|rfl
 ·simp only[hvs];exact⟨key.1,_,rfl,key.2⟩
 ·simp only[hvs];exact⟨key.1,_,rfl,key.2⟩
theorem Ext.Lc{h h':Heap}(x:Ext {h with log:=[]} h'):Ext h {h' with log:=aC base h.log h'.log}:=by
 have:h'.log=[]:=x.log
 refine⟨x.next,by rw[this];rfl,x.old,fun w=>(x.wf (w.log [])).log _⟩
theorem FW.al{f:Nat}{args:List Value}{Q':Value→Heap→Prop}{K:Env→Dfs→Heap→Prop}{dst:Option Nat}(H:Al T f args {h with log:=[]} Q')(hlog:∀v (h':Heap) l,Q' v h'→Q' v {h' with log:=l})
 (hK:∀v h',Ext h h'→Q' v h'→K (cD e dst v) ds h'):FW T (.func f) args {h with log:=[]} (KO K Q base dst e ds h.log):=by
 refine .func (CW.mono H ?_)
 rintro r h' ⟨hx,v,rfl,hq⟩
 exact⟨hK v _ hx.Lc (hlog v h' _ hq)⟩
theorem Jj:cm h e []=some []:=rfl
theorem GQ{t:Nat}{v:Value}{rs:List (Nat×Option (Option Nat))}{vs:List Value}(ht:geT e t=some v)(hr:cm h e rs=some vs):cm h e ((t,none)::rs)=some (v::vs):=by simp only[cm,ht,hr]
theorem cW{t n b o s:Nat}{own:Bool}{ws l:List Value}{rs:List (Nat×Option (Option Nat))}{vs:List Value}(ht:geT e t=some (.pointer (some ⟨b,o,none⟩)))(hb:h.get b=some (.cells ws own s))(hl:bT n (bS o ws)=l)(hn:Nat.beq (bO l) n=true)(hr:cm h e rs=some vs):
 cm h e ((t,some (some n))::rs)=some (.agg l.toArray::vs):=by simp only[cm,ht,nj,hb,hl,hn,cond_true,hr]
theorem GP{t b o s:Nat}{own:Bool}{ws:List Value}{v:Value}{rs:List (Nat×Option (Option Nat))}{vs:List Value}(ht:geT e t=some (.pointer (some ⟨b,o,none⟩)))(hb:h.get b=some (.cells ws own s))(hl:bD ws o=some v)(hr:cm h e rs=some vs):
 cm h e ((t,some none)::rs)=some (v::vs):=by simp only[cm,ht,nj,hb,hl,hr]
theorem cO{log:List Nat}{mask:Nat}:bF h base log mask []=some []:=rfl
theorem Jf{log:List Nat}{mask:Nat}{r:Rec}{rs rs':List Rec}(hb:Nat.testBit mask r.i=true)(H:bF h base log mask rs=some rs'):bF h base log mask (r::rs)=some rs':=by
 simp only[bF,hb,cond_true,H]
theorem Jg{log:List Nat}{mask:Nat}{r:Rec}{rs rs':List Rec}(hb:Nat.testBit mask r.i=false)(hq:pg h base r=true)(hm:Dm log r=true)(H:bF h base log mask rs=some rs'):bF h base log mask (r::rs)=some (r::rs'):=by
 simp only[bF,hb,hq,hm,Bool.and_true,cond_true,cond_false,H]
theorem Jm{r:Rec}{b:Nat}(hk:r.k= .made b):pg h base r=true:=by simp only[pg,hk]
theorem aI{r:Rec}(hk:r.k= .quiet)(hv:aop h base r.e r.o.op=some (.val r.v h))(hs:je r.v r.v=true):pg h base r=true:=by
 have hb:Nat.beq h.next h.next=true:=by rw[beq_eq];simp
 simp only[pg,hk,hv,hs,hb,Bool.and_self]
theorem GY:mH h base []=true:=rfl
theorem gZ{r:Rec}{rs:List Rec}(h1:pg h base r=true)(h2:mH h base rs=true):mH h base (r::rs)=true:=by simp only[mH,h1,cond_true,h2]
theorem dB(a:Option Addr):je (.pointer a) (.pointer a)=true:=by simp[je,kQ]
theorem eN(k:IntKind)(n:Int):je (.int k n) (.int k n)=true:=by simp[je,kQ]
theorem Cf(b:Bool):je (.bool b) (.bool b)=true:=by simp[je,kQ]
theorem ry{c:Array Value}(h:jk c.toList c.toList=true):je (.agg c) (.agg c)=true:=h
theorem fJ{v:Value}{l:List Value}(h1:kQ v v=true)(h2:jk l l=true):jk (v::l) (v::l)=true:=by simp only[jk,h1,cond_true,h2]
theorem iq(k:IntKind)(n:Int):kQ (.int k n) (.int k n)=true:=by simp[kQ]
theorem vq{b o n c size:Nat}{vs cs:List Value}{own:Bool}{s:Nat}(hb:h.get b=some (.cells vs own s))(hc:bT (n*size) (bS o vs)=cs)(hl:cs.length=n*size):fN h size (.slice (some ⟨b,o,none⟩) n c)=some (cs,n):=by
 simp only[fN,hb,hc,bN,hl,beq_eq,decide_true,cond_true]
theorem Cq{size bytes n c:Nat}{x y:Operand}{v:Value}{cs:List Value}(hx:ev h e x=some (.slice none 0 0))(hy:ev h e y=some v)(hs:fN h size v=some (cs,n))(hn:n≠0)(hb:(2*(0+n)+768)*bytes≤281474976710656)(hc:c=UNK):
 aop h base e (.append size bytes x y)=some (.val (.slice (some ⟨h.next,0,none⟩) n c) (h.push (.cells cs true size))):=by
 have h0:Nat.beq n 0=false:=by rw[beq_eq];simpa using hn
 have h1:Nat.ble ((2*(0+n)+768)*bytes) 281474976710656=true:=by rw[ble_eq];simpa using hb
 subst hc
 simp only[aop,hx,hy,hs,jB,h0,h1,cond_true,cond_false,Nat.beq,Bool.and_self,gN]
theorem zS{size bytes len n q:Nat}{x y:Operand}{v:Value}{vs cs ws:List Value}(hx:ev h e x=some (.slice (some ⟨q,0,none⟩) len UNK))(hy:ev h e y=some v)(hs:fN h size v=some (cs,n))(hn:n≠0)(hq:h.get q=some (.cells vs true size))(hl:vs.length=len*size)
 (hsz:0<size)(h1:dG cs=true)(hb:(2*(len+n)+768)*bytes≤281474976710656)(hw:dO vs cs=ws):
 aop h base e (.append size bytes x y)=some (.val (.slice (some ⟨h.next,0,none⟩) (len+n) UNK) ((h.wr base q .dead).push (.cells ws true size))):=by
 have h0:Nat.beq n 0=false:=by rw[beq_eq];simpa using hn
 have h2:Nat.ble ((2*(len+n)+768)*bytes) 281474976710656=true:=by rw[ble_eq];simpa using hb
 have h3:Nat.beq UNK UNK=true:=by rw[beq_eq];simp
 have h4:Nat.beq size size=true:=by rw[beq_eq];simp
 have h5:Nat.ble (0+(len+n)*size) (bO vs)=false:=by
  rw[ble_eq,bN,hl,Nat.add_mul]
  have:0<n*size:=Nat.mul_pos (Nat.pos_of_ne_zero hn) hsz
  simp;omega
 have h6:Nat.beq (len*size) (bO vs)=true:=by rw[beq_eq,bN,hl];simp
 simp only[aop,hx,hy,hs,jB,h0,h2,hq,h3,h4,h5,h6,h1,Bool.and_true,Bool.false_and,cond_true,cond_false,hw,gN,Nat.beq]
theorem qi{ops:List bB}{bf:List Nat}{rs rs':List Rec}{Q:Env→Heap→Prop}{i mask:Nat}{is:List Nat}{dst:Option Nat}{op:AOp}{g:Option (Nat×Bool)}{er:Env}{v:Value}{h2 h3:Heap}{lg:List Nat}(ho:bD ops i=some ⟨dst,op,g⟩)(hm:bD bf i=some mask)
 (he:cu e (cQ ⟨dst,op,g⟩)=er)(hw:bY er g=some true)(hq:jq op=false)(hop:aop {h with log:=[]} h.next er op=some (.val v h2))(h3e:({h2 with log:=aC base h.log h2.log}:Heap)=h3)(hlg:h2.log=lg)
 (hrs:bF h3 base lg mask rs=some rs')(H:WD T base ops bf Q is rs' (cD e dst v) h3):WD T base ops bf Q (i::is) rs e h:=by
 subst h3e;subst hlg
 exact Mx ho hm he hw hq hop hrs H
theorem th{b:Nat}(hb:b<h.next)(o:bK):(({h with log:=[]}:Heap).wr h.next b o).log=[b]:=by
 simp[Heap.wr,blt_eq,hb,eW]
theorem EL{b:Nat}(hb:b<h.next)(hbb:base≤b)(o:bK):({({h with log:=[]}:Heap).wr h.next b o with log:=aC base h.log (({h with log:=[]}:Heap).wr h.next b o).log}:Heap)=h.wr base b o:=by
 rw[th hb]
 have h1:Nat.blt b base=false:=by rw[blt_eq];simp;omega
 simp only[Heap.wr,aC,h1,cond_false]
theorem nQ{ops:List bB}{bf:List Nat}{rs rs':List Rec}{Q:Env→Heap→Prop}{i mask:Nat}{is:List Nat}{dst:Option Nat}{x y:Operand}{n b o sz:Nat}{vs ws:List Value}{v:Value}{g:Option (Nat×Bool)}{er:Env}(ho:bD ops i=some ⟨dst, .store n x y,g⟩)(hm:bD bf i=some mask)
 (he:cu e (cQ ⟨dst, .store n x y,g⟩)=er)(hw:bY er g=some true)(hx:ev {h with log:=[]} er x=some (.pointer (some ⟨b,o,none⟩)))(hy:ev {h with log:=[]} er y=some v)(hb:h.get b=some (.cells vs true sz))
 (hc:(Nat.beq (bO (cellsOf v)) n&&Nat.ble (o+n) (bO vs)&&dG (cellsOf v))=true)(hws:cg vs o (cellsOf v)=ws)(hlt:b<h.next)(hbb:base≤b)(hrs:bF (h.wr base b (.cells ws true sz)) base [b] mask rs=some rs')
 (H:WD T base ops bf Q is rs' (cD e dst (.tuple #[])) (h.wr base b (.cells ws true sz))):WD T base ops bf Q (i::is) rs e h:=
 qi ho hm he hw rfl (gV (h:={h with log:=[]}) hx hy hb hc hws) (EL hlt hbb _) (th hlt _) hrs H
theorem Heap.yw{h:Heap}{o:bK}{x:Nat}(h1:x≤h.next)(h2:h.next≤x):(h.push o).get x=some o:=by rw[Heap.dg,if_pos (Nat.le_antisymm h1 h2)]
theorem Heap.CE{h:Heap}{base b:Nat}{o:bK}{x:Nat}(h1:x≤b)(h2:b≤x):(h.wr base b o).get x=(h.get x).map fun _=>o:=by rw[Heap.j7,if_pos (Nat.le_antisymm h1 h2),Nat.le_antisymm h1 h2]
theorem aT{log:List Nat}{mask i:Nat}{o:bB}{e:Env}{v:Value}{k:Rk}{rs rs':List Rec}(hb:Nat.testBit mask i=true)(H:bF h base log mask rs=some rs'):bF h base log mask (⟨i,o,e,v,k⟩::rs)=some rs':=Jf hb H
theorem aN{log:List Nat}{mask i:Nat}{o:bB}{e:Env}{v:Value}{k:Rk}{rs rs':List Rec}(hb:Nat.testBit mask i=false)(hq:pg h base ⟨i,o,e,v,k⟩=true)(hm:Dm log ⟨i,o,e,v,k⟩=true)(H:bF h base log mask rs=some rs'):
 bF h base log mask (⟨i,o,e,v,k⟩::rs)=some (⟨i,o,e,v,k⟩::rs'):=Jg hb hq hm H
theorem CO(n:Nat):Nat.beq n n=true:=by rw[beq_eq];simp
theorem gJ{a b:Nat}(h:a≤b):Nat.ble a b=true:=by rw[ble_eq];simpa using h
theorem jE{a b:Nat}(h:a<b):Nat.blt a b=true:=by rw[blt_eq];simpa using h
theorem p8{a b:Nat}(h:¬a<b):Nat.blt a b=false:=by rw[blt_eq];simpa using h
theorem EM{b:Nat}(hb:b<h.next)(o:bK):({({h with log:=[]}:Heap).wr h.next b o with log:=aC base h.log (({h with log:=[]}:Heap).wr h.next b o).log}:Heap)=h.wr base b o:=by
 rw[th hb]
 rfl
theorem gu{α:Type}{l m:List α}{o:Nat}(ho:o+m.length≤l.length):cg l o m=l.take o++m++l.drop (o+m.length):=by
 apply List.ext_getElem?
 intro i
 rw[lF m l o i ho]
 by_cases h1:o≤i∧i<o+m.length
 ·rw[if_pos h1,List.getElem?_append_left (by simp;omega),List.getElem?_append_right (by simp;omega)]
  congr 1;simp;omega
 ·rw[if_neg h1]
  by_cases h2:i<o
  ·rw[List.getElem?_append_left (by simp;omega),List.getElem?_append_left (by simp;omega),List.getElem?_take_of_lt h2]
  ·rw[List.getElem?_append_right (by simp;omega),List.getElem?_drop]
   congr 1;simp;omega
structure Upd (h h':Heap) (b:Nat) (o:bK):Prop where
 next:h.next≤h'.next
 log:h'.log=[b]
 old:∀x,x<h.next→x≠b→h'.get x=h.get x
 obj:h'.get b=some o
 wf:WF h→WF h'
end Go.A
end
section
namespace Go.A
theorem z1(h:Heap)(o:bK):(h.push o).next=h.next+1:=rfl
theorem z2(h:Heap)(base b:Nat)(o:bK):(h.wr base b o).next=h.next:=rfl
theorem z3(h:Heap)(o:bK):(h.push o).get h.next=some o:=Heap.l5 h o
theorem z4{h:Heap}{o:bK}{x:Nat}(hx:x<h.next):(h.push o).get x=h.get x:=Heap.iX hx
theorem z5{h:Heap}{base b:Nat}{o:bK}{x:Nat}(hx:x≠b):(h.wr base b o).get x=h.get x:=Heap.eG hx
theorem z6(h:Heap)(base b:Nat)(o:bK):(h.wr base b o).get b=(h.get b).map fun _=>o:=Heap.yx h base b o
theorem z7{α β:Type}(f:α→β)(a:α):Option.map f (some a)=some (f a):=rfl
theorem z8{h:Heap}{o:bK}{x:Nat}(h1:x≤h.next)(h2:h.next≤x):(h.push o).get x=some o:=Heap.yw h1 h2
theorem z9{h:Heap}{base b:Nat}{o:bK}{x:Nat}(h1:x≤b)(h2:b≤x):(h.wr base b o).get x=(h.get x).map fun _=>o:=Heap.CE h1 h2
end Go.A
end
section
namespace Go.A
variable {T:Nat→Option af} {base:Nat} {rnd:Option Nat} {Q:XQ} {e:Env} {ds:Dfs} {h:Heap}
def fH(lo:Nat)(l:List Nat):Prop:=∀x∈l,lo≤x
theorem fH.nil(lo:Nat):fH lo []:=fun x hx=>by cases hx
theorem fH.merge{lo base:Nat}:∀{m l:List Nat},fH lo l→fH lo m→fH lo (aC base l m)
 |[],l,h1,_=>h1
 |b::m,l,h1,h2=>by
  simp only[aC]
  refine fH.merge ?_ fun x hx=>h2 x (List.mem_cons_of_mem _ hx)
  have hb:=h2 b (List.mem_cons_self ..)
  simp only[cond_eq_ite]
  split
  ·split
   ·exact h1
   ·intro x hx
    rcases List.mem_cons.1 hx with rfl|hx
    ·exact hb
    ·exact h1 x hx
  ·exact h1
structure Lk (lo:Nat) (h h':Heap):Prop where
 next:h.next≤h'.next
 log:fH lo h.log→fH lo h'.log
 old:∀x,x<lo→h'.get x=h.get x
 wf:WF h→WF h'
theorem Lk.refl(lo:Nat)(h:Heap):Lk lo h h:=⟨Nat.le_refl _,id,fun _ _=>rfl,id⟩
theorem Lk.trans{lo:Nat}{a b c:Heap}(x:Lk lo a b)(y:Lk lo b c):Lk lo a c:=⟨Nat.le_trans x.next y.next,fun h=>y.log (x.log h),fun z hz=>(y.old z hz).trans (x.old z hz),fun w=>y.wf (x.wf w)⟩
theorem Lk.push{lo:Nat}{a b:Heap}(x:Lk lo a b)(hlo:lo≤b.next)(o:bK):Lk lo a (b.push o):=x.trans ⟨Nat.le_succ _,id,fun z hz=>Heap.iX (by omega),fun w=>w.push o⟩
theorem Ext.lk{lo:Nat}{a b:Heap}(x:Ext a b)(hlo:lo≤a.next):Lk lo a b:=⟨x.next,fun h=>by rw[x.log];exact h,fun z hz=>x.old z (by omega),x.wf⟩
theorem l8{l:List Nat}{x:Nat}(h:x ∉ l):eW l x=false:=by
 cases e:eW l x with
 |false=>rfl
 |true=>exact(h (ja.1 e)).elim
theorem Lk.oK{lo:Nat}{h h':Heap}(hA:AS h.next h h')(hlo:lo≤h.next)(hl:fH lo h'.log):Lk lo h h':=
 ⟨hA.next,fun _=>hl,fun x hx=>hA.same x (by omega) (by omega) (l8 fun hm=>by have:=hl x hm;omega),fun w=>w.as hA⟩
theorem Lk.call{lo:Nat}{h h2:Heap}(x:Lk lo {h with log:=[]} h2):Lk lo h {h2 with log:=aC base h.log h2.log}:=
 ⟨x.next,fun hl=>hl.merge (x.log (fH.nil _)),x.old,fun w=>(x.wf (w.log [])).log _⟩
structure Q4 (rs:List (Nat×Option (Option Nat))) (lo:Nat) (Q:Value→Heap→Prop) (x:br) (e:Env) (ds:Dfs) (h1:Heap):Prop where
 ok:(x= .normal∨x= .ret)∧ds=[]∧fH lo h1.log∧∃vs,cm h1 e rs=some vs∧Q (fh vs) h1
theorem pR{h h1:Heap}{v:Value}(hA:AS h.next h h1):(∀x,x<h.next→(gcA h h1 v).get x=h1.get x)∧h.next≤(gcA h h1 v).next∧(gcA h h1 v).log=h1.log∧(cT v=false→gcA h h1 v=h1):=by
 unfold gcA
 cases hc:(cT v&&gz h1 h.next h1.log)with
 |false=>exact⟨fun _ _=>rfl,hA.next,rfl,fun _=>rfl⟩
 |true=>
  refine⟨fun x hx=> ?_,Nat.le_refl _,rfl,fun hn=>by rw[hn]at hc;cases hc⟩
  have hA':=hA.keys
  have hlen:(cU h.next (h1.next-h.next)).length=h1.next-h.next:=by
   generalize h1.next-h.next=n
   induction n with
   |zero=>rfl
   |succ n ih=>simp[cU,ih]
  have hkt:(h1.bW.take (h1.next-h.next)).map (·.1)=cU h.next (h1.next-h.next):=by
   rw[List.map_take,hA',List.take_append_of_le_length (by omega),List.take_of_length_le (by omega)]
  have:=jZ _ h.next _ (h1.bW.drop (h1.next-h.next)) hkt x hx
  rw[List.take_append_drop]at this
  show eO (bS (h1.next-h.next) h1.bW) x=eO h1.bW x
  rw[cK]
  exact this.symm
theorem wr0(l:Nat)(o:bK):({h with bW:=ir h.bW l o}:Heap)=h.wr 0 l o:=rfl
def busy:bK→Bool
 | .loop _ _ _ _ 1 _=>true
 |_=>false
theorem um{f:Operand}{ps:List Nat}{asg body:aU}{g:Nat}{first cap:Array Value}(hr:nL h rnd=true)(hf:ev h e f=some (.func (.func g) first cap))(hnc:gK (T g)=false)
 (H:CW T g (dO first.toList (dO [.func (.yield h.next) #[] #[]] cap.toList)) {h.push (.loop e ps asg body 0 .normal)with log:=[]} fun r h2=>∃v,r= .ret v∧∃e' ps' a' b' st gX,h2.get h.next=some (.loop e' ps' a' b' st gX)∧Nat.beq st 1=false∧
   Q gX e ds (({h2 with log:=aC base h.log h2.log}:Heap).wr base h.next .dead)):WE T base rnd (.rangeFunc f ps asg body) Q e ds h:=by
 obtain⟨r,h2,⟨m,hm⟩,v,rfl,e',ps',a',b',st,gX,hl,hst,hq⟩:=H
 refine⟨⟨gX,e,ds,_,⟨m+1,fun n hn=> ?_⟩,hq⟩⟩
 obtain⟨k,rfl⟩:∃k,n=k+1:=⟨n-1,by omega⟩
 simp only[b8,hr,hf,hnc,cond_true,cond_false,hm k (by omega),hl,hst]
theorem FW.Bi(hp:bI T){fn:Fn}{args:List Value}{Q:Res→Heap→Prop}(H:FW T fn args h Q)(hl:h.log=[]):FW T fn args h fun r h'=>AS h.next h h'∧Q r h':=by
 obtain⟨r,h',⟨m,hm⟩,hq⟩:=H
 exact⟨r,h',⟨m,hm⟩,(eC.all hp m).iT _ _ _ _ _ (hm m (Nat.le_refl _)) hl,hq⟩
theorem FW.mono'{fn:Fn}{args:List Value}{Q Q':Res→Heap→Prop}(H:FW T fn args h Q)(hq:∀r h',Q r h'→Q' r h'):FW T fn args h Q':=
 let⟨r,h',h1,h2⟩:=H;⟨r,h',h1,hq _ _ h2⟩
theorem AS.zero{base:Nat}{h h':Heap}(a:AS base h h'):AS 0 h h':=⟨a.next,a.keys,fun b hb=>by omega,fun b hb=>by omega⟩
theorem qB{h h1:Heap}{v:Value}(hA:AS 0 h h1):(∀x,x<h.next→(gcA h h1 v).get x=h1.get x)∧h.next≤(gcA h h1 v).next∧(gcA h h1 v).log=h1.log:=by
 unfold gcA
 cases hc:(cT v&&gz h1 h.next h1.log)with
 |false=>exact⟨fun _ _=>rfl,hA.next,rfl⟩
 |true=>
  refine⟨fun x hx=> ?_,Nat.le_refl _,rfl⟩
  have hA':=hA.keys
  have hlen:(cU h.next (h1.next-h.next)).length=h1.next-h.next:=by
   generalize h1.next-h.next=n
   induction n with
   |zero=>rfl
   |succ n ih=>simp[cU,ih]
  have hkt:(h1.bW.take (h1.next-h.next)).map (·.1)=cU h.next (h1.next-h.next):=by
   rw[List.map_take,hA',List.take_append_of_le_length (by omega),List.take_of_length_le (by omega)]
  have:=jZ _ h.next _ (h1.bW.drop (h1.next-h.next)) hkt x hx
  rw[List.take_append_drop]at this
  show eO (bS (h1.next-h.next) h1.bW) x=eO h1.bW x
  rw[cK]
  exact this.symm
structure PW (l wb:Nat) (H0:Heap) (L:bK) (O:List (Nat×Nat)→bK) (done:List (Nat×Nat)) (H:Heap):Prop where
 old:∀x,x<l→x≠wb→H.get x=H0.get x
 obj:H.get wb=some (O done)
 loop:H.get l=some L
 nx:l<H.next
inductive Own (lo:Nat) (h:Heap) (sz:Nat):Value→Nat→List Value→Prop
 |nil:Own lo h sz (.slice none 0 0) 0 []
 |full {q n cs}:lo≤q→q<h.next→h.get q=some (.cells cs true sz)→cs.length=n*sz→n≠0→Own lo h sz (.slice (some ⟨q,0,none⟩) n UNK) n cs
theorem Own.slice{lo sz n:Nat}{v:Value}{cs:List Value}(s:Own lo h sz v n cs)(hn:n<4000000):cA h sz v n cs:=by
 cases s with
 |nil=>exact .nil
 |full h1 h2 h3 h4 h5=>
  refine .mem ⟨h2,⟨_,_,_,h3,?_⟩,h4⟩ (by unfold UNK;omega)
  rw[dy,cK,List.drop_zero,List.take_of_length_le (by omega)]
theorem Own.keep{lo sz n:Nat}{h':Heap}{v:Value}{cs:List Value}(s:Own lo h sz v n cs)(hn:h.next≤h'.next)(ha:∀z,lo≤z→z<h.next→h'.get z=h.get z):Own lo h' sz v n cs:=by
 cases s with
 |nil=>exact .nil
 |full h1 h2 h3 h4 h5=>exact .full h1 (by omega) ((ha _ h1 h2).trans h3) h4 h5
theorem Own.ext{lo sz n:Nat}{h':Heap}{v:Value}{cs:List Value}(s:Own lo h sz v n cs)(x:Ext h h'):Own lo h' sz v n cs:=s.keep x.next fun z _ hz=>x.old z hz
theorem Own.log{lo sz n:Nat}{v:Value}{cs:List Value}(s:Own lo h sz v n cs)(m:List Nat):Own lo {h with log:=m} sz v n cs:=s.keep (h':={h with log:=m}) (Nat.le_refl _) fun _ _ _=>rfl
theorem Own.low{lo lo' sz n:Nat}{v:Value}{cs:List Value}(s:Own lo h sz v n cs)(hl:lo'≤lo):Own lo' h sz v n cs:=by
 cases s with
 |nil=>exact .nil
 |full h1 h2 h3 h4 h5=>exact .full (by omega) h2 h3 h4 h5
structure Lx (lo:Nat) (h h':Heap):Prop where
 next:h.next≤h'.next
 log:h'.log=h.log
 old:∀z,z<lo→h'.get z=h.get z
 wf:WF h→WF h'
theorem Lx.refl(lo:Nat)(h:Heap):Lx lo h h:=⟨Nat.le_refl _,rfl,fun _ _=>rfl,id⟩
theorem Lx.trans{lo:Nat}{a b c:Heap}(x:Lx lo a b)(y:Lx lo b c):Lx lo a c:=⟨Nat.le_trans x.next y.next,y.log.trans x.log,fun z hz=>(y.old z hz).trans (x.old z hz),fun w=>y.wf (x.wf w)⟩
theorem Lx.push{lo:Nat}{a b:Heap}(x:Lx lo a b)(hlo:lo≤b.next)(o:bK):Lx lo a (b.push o):=x.trans ⟨Nat.le_succ _,rfl,fun z hz=>Heap.iX (by omega),fun w=>w.push o⟩
theorem Lx.wr{lo:Nat}{a b:Heap}(x:Lx lo a b){base y:Nat}{o:bK}(hy:lo≤y)(hb:base≤y):Lx lo a (b.wr base y o):=x.trans ⟨Nat.le_refl _,Heap.aL hb,fun z hz=>Heap.eG (by omega),fun w=>w.as (AS.wr _ _ _ _)⟩
theorem Ext.lx{lo:Nat}{a b:Heap}(x:Ext a b)(hlo:lo≤a.next):Lx lo a b:=⟨x.next,x.log,fun z hz=>x.old z (by omega),x.wf⟩
theorem Lx.ext{a b:Heap}(x:Lx a.next a b):Ext a b:=⟨x.next,x.log,x.old,x.wf⟩
theorem Lx.mono{lo lo':Nat}{a b:Heap}(x:Lx lo a b)(h:lo'≤lo):Lx lo' a b:=⟨x.next,x.log,fun z hz=>x.old z (by omega),x.wf⟩
theorem Ck{lo sz bytes n:Nat}{dst:Option Nat}{os:List bB}{x y:Operand}{v u:Value}{cs c1:List Value}(s:Own lo h sz v n cs)(hn:n<1000000)(hsz:0<sz)(hb:bytes≤100000)(hlo:lo≤h.next)(hbase:base≤lo)
 (hx:ev h e x=some v)(hy:ev h e y=some u)(hs:fN h sz u=some (c1,1))(hl1:c1.length=sz)(h1:dG c1=true)
 (hK:∀v' h',Own lo h' sz v' (n+1) (cs++c1)→Lx lo h h'→WO T base rnd Q os (cD e dst v') ds h'):WO T base rnd Q (⟨dst, .append sz bytes x y,none⟩::os) e ds h:=by
 have hbd:(2*(n+1)+768)*bytes≤281474976710656:=by
  have:(2*(n+1)+768)*bytes≤2000768*100000:=Nat.mul_le_mul (by omega) hb
  omega
 cases s with
 |nil=>
  refine ah (Cq (n:=1) hx hy hs (by omega) (by simpa using hbd) rfl) ?_
  refine hK _ _ ?_ ((Lx.refl lo h).push hlo _)
  have:=Own.full (lo:=lo) (h:=h.push (.cells c1 true sz)) (sz:=sz) (q:=h.next) (n:=1) (cs:=c1) hlo (Nat.lt_succ_self _) (Heap.l5 _ _) (by omega) (by omega)
  exact this
 | @full q _ _ q1 q2 q3 q4 q5=>
   refine ah (zS (n:=1) (vs:=cs) (ws:=cs++c1) hx hy hs (by omega) q3 q4 hsz h1 hbd (dW _ _)) ?_
   refine hK _ _ ?_ (((Lx.refl lo h).wr q1 (by omega)).push hlo _)
   refine .full hlo (Nat.lt_succ_self _) ?_ (by rw[List.length_append,q4,hl1,Nat.add_mul,Nat.one_mul]) (by omega)
   exact Heap.l5 _ _
structure Ws (S:Nat→Prop) (h h':Heap):Prop where
 next:h.next≤h'.next
 log:∀z∈h'.log,z∈h.log∨S z
 old:∀z,z<h.next→¬S z→h'.get z=h.get z
 wf:WF h→WF h'
theorem Ws.oK{S:Nat→Prop}{h h':Heap}(hA:AS h.next h h')(hl:∀z∈h'.log,S z):Ws S h h':=
 ⟨hA.next,fun z hz=> .inr (hl z hz),fun z hz hn=>hA.same z hz hz (l8 fun hm=>hn (hl z hm)),fun w=>w.as hA⟩
theorem uY{base z:Nat}:∀{m l:List Nat},z∈aC base l m→z∈l∨z∈m
 |[],l,h=> .inl h
 |b::m,l,h=>by
  simp only[aC]at h
  rcases uY (m:=m) h with h|h
  ·revert h
   rw[cond_eq_ite,cond_eq_ite]
   split
   ·split
    ·exact .inl
    ·intro h
     rcases List.mem_cons.1 h with rfl|h
     ·exact .inr (List.mem_cons_self ..)
     ·exact .inl h
   ·exact .inl
  ·exact .inr (List.mem_cons_of_mem _ h)
theorem Ws.call{S:Nat→Prop}{h h2:Heap}(x:Ws S {h with log:=[]} h2):Ws S h {h2 with log:=aC base h.log h2.log}:=
 ⟨x.next,fun z hz=>(uY hz).imp id fun q=>(x.log z q).elim (fun q=>by cases q) id,x.old,fun w=>(x.wf (w.log [])).log _⟩
def Gs(T:Nat→Option af)(f:Nat)(args:List Value)(h:Heap)(S:Nat→Prop)(Q:Value→Heap→Prop):Prop:=CW T f args h fun r h'=>Ws S h h'∧∃v,r= .ret v∧Q v h'
structure NA (rs:List (Nat×Option (Option Nat))) (S:Nat→Prop) (Q:Value→Heap→Prop) (x:br) (e:Env) (ds:Dfs) (h1:Heap):Prop where
 ok:(x= .normal∨x= .ret)∧ds=[]∧(∀z∈h1.log,S z)∧∃vs,cm h1 e rs=some vs∧Q (fh vs) h1
theorem pP{rs:List (Nat×Option (Option Nat))}{S:Nat→Prop}{Q:Value→Heap→Prop}{vs:List Value}(hl:∀z∈h.log,S z)(hr:cm h e rs=some vs)(hq:Q (fh vs) h):NA rs S Q .ret e [] h:=⟨⟨.inr rfl,rfl,hl,vs,hr,hq⟩⟩
theorem Gs.of(hp:bI T){f:Nat}{args:List Value}{c:aU}{rs:List (Nat×Option (Option Nat))}{S:Nat→Prop}{Q:Value→Heap→Prop}(hf:T f=some (.code c rs))
 (hQ:∀v h1 h2,cT v=true→h.next≤h2.next→(∀x,x<h.next→h2.get x=h1.get x)→Q v h1→Q v h2)(H:WE T h.next none c (NA rs S Q) (ei 0 args) [] h):Gs T f args h S Q:=by
 obtain⟨x,e,ds,h1,⟨m,hm⟩,⟨hx,rfl,hl,vs,hvs,hq⟩⟩:=H.ok
 have hA:=(eC.all hp m).exec _ _ _ _ _ _ _ _ _ _ (hm m (Nat.le_refl _)) (Nat.le_refl _)
 obtain⟨g1,g2,g3,g4⟩:=pR (v:=fh vs) hA
 have key:Ws S h (gcA h h1 (fh vs))∧∃v,Res.ret (fh vs)= .ret v∧Q v (gcA h h1 (fh vs)):=by
  refine⟨Ws.oK (hA.gc' _) (by rw[g3];exact hl),_,rfl,?_⟩
  cases hv:cT (fh vs)with
  |true=>exact hQ _ _ _ hv g2 g1 hq
  |false=>rw[g4 hv];exact hq
 refine CW.code hf ⟨x,e,[],h1,⟨m,hm⟩,?_⟩
 unfold vO
 rcases hx with rfl|rfl<;>(simp only[hvs];exact key)
theorem FW.gsD{f:Nat}{args:List Value}{S:Nat→Prop}{Q':Value→Heap→Prop}{K:List Rec→Env→Heap→Prop}{mask:Nat}{rs:List Rec}{dst:Option Nat}(H:Gs T f args {h with log:=[]} S Q')(hlog:∀v (h':Heap) l,Q' v h'→Q' v {h' with log:=l})
 (hK:∀v h' lg,Ws S h h'→(∀z∈lg,S z)→Q' v h'→∃rs',bF h' base lg mask rs=some rs'∧K rs' (cD e dst v) h'):FW T (.func f) args {h with log:=[]} (KD K base mask rs dst e h.log):=by
 refine .func (CW.mono H ?_)
 rintro r h2 ⟨hx,v,rfl,hq⟩
 obtain⟨rs',q1,q2⟩:=hK v {h2 with log:=aC base h.log h2.log} h2.log hx.call (fun z hz=>(hx.log z hz).elim (fun q=>by cases q) id) (hlog v h2 _ hq)
 refine⟨?_⟩
 show kD K base mask rs dst e h.log (.ret v) h2
 unfold kD
 simp only[q1]
 exact q2
theorem ML{base b:Nat}{o:bK}{S:Nat→Prop}(hl:∀z∈h.log,S z)(hb:S b):∀z∈(h.wr base b o).log,S z:=by
 intro z hz
 simp only[Heap.wr,cond_eq_ite]at hz
 split at hz
 ·split at hz
  ·exact hl z hz
  ·rcases List.mem_cons.1 hz with rfl|hz
   ·exact hb
   ·exact hl z hz
 ·exact hl z hz
theorem Ws.trans{S:Nat→Prop}{a b c:Heap}(x:Ws S a b)(y:Ws S b c):Ws S a c:=
 ⟨Nat.le_trans x.next y.next,fun z hz=>(y.log z hz).elim (x.log z) .inr,fun z hz hn=>(y.old z (Nat.lt_of_lt_of_le hz x.next) hn).trans (x.old z hz hn),fun w=>y.wf (x.wf w)⟩
theorem Ext.ws{S:Nat→Prop}{a b:Heap}(x:Ext a b):Ws S a b:=⟨x.next,fun z hz=> .inl (x.log▸hz),fun z hz _=>x.old z hz,x.wf⟩
theorem D0{k k':IntKind}{n m:Int}{x:Operand}(hx:ev h e x=some (.int k' n))(hm:fI k n=m):aop h base e (.conv (.int k) x)=some (.val (.int k m) h):=by
 subst hm;simp only[aop,hx,cB,oE,gN]
theorem D8{len size i:Nat}{k:IntKind}{x y:Operand}{cs:Array Value}{v:Value}(hx:ev h e x=some (.agg cs))(hy:ev h e y=some (.int k (i:Nat)))(hi:i<len)(hv:bD cs.toList (i*size)=some v):aop h base e (.qG len size none x y)=some (.val v h):=by
 have:(.int k (i:Nat):Value)= .int k (Int.ofNat i):=rfl
 rw[this]at hy
 simp only[aop,hx,hy,jE hi,cond_true,hv,cB]
def mi(a b:Int):Int:=if b<a then b else a
theorem qu{x y:Operand}{a b:Int}(hx:ev h e x=some (.int .i64 a))(hy:ev h e y=some (.int .i64 b)):aop h base e (.ew false [x,y])=some (.val (.int .i64 (mi a b)) h):=by
 simp only[aop,evs,hx,hy,mmA,if_true,cB,mi];rfl
theorem rC{n:Nat}(h2:n<18446744073709551616):fI .u64 (n:Int)=n:=by
 have e1:((n:Nat):Int)=Int.ofNat n:=rfl
 rw[e1]
 simp only[fI,jE h2,cond_true]
theorem NY{a b:Nat}(ha:a<18446744073709551616)(hb:b<18446744073709551616):aA .or (.int .u64 a) (.int .u64 b)=some (.int .u64 ((Nat.lor a b:Nat):Int)):=by
 have e1:((a:Nat):Int)=Int.ofNat a:=rfl
 have e2:((b:Nat):Int)=Int.ofNat b:=rfl
 rw[e1,e2]
 simp only[aA,arith,nX,jE ha,jE hb,Bool.and_self,cond_true,if_true]
 rfl
theorem pY{a b:Nat}(ha:a<18446744073709551616)(hb:b<18446744073709551616):aA .and (.int .u64 a) (.int .u64 b)=some (.int .u64 ((Nat.land a b:Nat):Int)):=by
 have e1:((a:Nat):Int)=Int.ofNat a:=rfl
 have e2:((b:Nat):Int)=Int.ofNat b:=rfl
 rw[e1,e2]
 simp only[aA,arith,nX,jE ha,jE hb,Bool.and_self,cond_true,if_true]
 rfl
theorem rP{a n:Nat}{k:IntKind}(hn:n≤64):aA .shr (.int .u64 a) (.int k n)=some (.int .u64 ((Nat.shiftRight a n:Nat):Int)):=by
 have e1:((a:Nat):Int)=Int.ofNat a:=rfl
 have e2:((n:Nat):Int)=Int.ofNat n:=rfl
 rw[e1,e2]
 simp only[aA,mD,Nat.min_eq_left hn]
 rfl
theorem qQ{a b:Nat}(h:a+b<18446744073709551616):aA .add (.int .u64 a) (.int .u64 b)=some (.int .u64 ((a+b:Nat):Int)):=nk (by rw[←Int.natCast_add];exact rC h)
theorem Lh{a:Nat}:aA .rem (.int .i64 a) (.int .i64 8)=some (.int .i64 ((a % 8:Nat):Int)):=by
 have e:(a:Int).tmod 8=((a % 8:Nat):Int):=by rw[Int.tmod_eq_emod_of_nonneg (by omega)];omega
 simp[aA,arith,e]
theorem Lf{a:Nat}(h1:a<9223372036854775808):aA .quo (.int .i64 a) (.int .i64 8)=some (.int .i64 ((a / 8:Nat):Int)):=by
 have e:fI .i64 ((a:Int).tdiv 8)=((a / 8:Nat):Int):=by
  rw[Int.tdiv_eq_ediv_of_nonneg (by omega),cN (by omega) (by omega)];omega
 have e2:aA .quo (.int .i64 a) (.int .i64 8)=some (.int .i64 (fI .i64 ((a:Int).tdiv 8))):=rfl
 rw[e2,e]
theorem o5{z:Nat}:∀{m l:List Nat},z∈l→z∈aC base l m
 |[],l,h=>h
 |b::m,l,h=>by
  simp only[aC]
  refine o5 (m:=m) ?_
  rw[cond_eq_ite,cond_eq_ite]
  split
  ·split
   ·exact h
   ·exact List.mem_cons_of_mem _ h
  ·exact h
theorem mem_merge{z:Nat}(hz:z<base):∀{m l:List Nat},z∈m→z∈aC base l m
 |b::m,l,h=>by
  simp only[aC]
  rcases List.mem_cons.1 h with rfl|h
  ·refine o5 ?_
   rw[jE hz,cond_true,cond_eq_ite]
   split
   ·rename_i hh;exact ja.1 hh
   ·exact List.mem_cons_self ..
  ·exact mem_merge hz h
theorem sV{l:Nat}{a:Env}{b:List Nat}{c d:aU}{st:Nat}{p:br}(hl:h.get l=some (.loop a b c d st p))(hb:l<base):∀{lg:List Nat},l∈lg→gz h base lg=false
 |x::lg,hm=>by
  have ih:l∈lg→gz h base lg=false:=sV hl hb
  by_cases hx:x=l
  ·subst hx
   simp only[gz,jE hb,cond_true,hl]
  ·have hm':l∈lg:=by rcases List.mem_cons.1 hm with h1|h1;exact absurd h1.symm hx;exact h1
   simp only[gz,cond_eq_ite,ih hm']
   split
   ·split<;>simp
   ·rfl
theorem vQ{h1:Heap}{v:Value}{l:Nat}{a:Env}{b:List Nat}{c d:aU}{st:Nat}{p:br}(hl:h1.get l=some (.loop a b c d st p))(hb:l<h.next)(hm:l∈h1.log):gcA h h1 v=h1:=by
 unfold gcA
 rw[sV hl hb hm,Bool.and_false,cond_false]
theorem vA{b:Nat}{o:bK}(hb:b<base):(h.wr base b o).log=if eW h.log b=true then h.log else b::h.log:=by
 unfold Heap.wr
 rw[jE hb]
 simp only[cond_eq_ite,if_true]
theorem dJ{b z:Nat}{o:bK}(hz:z∈(h.wr base b o).log):z=b∨z∈h.log:=by
 by_cases hb:b<base
 ·rw[vA hb]at hz
  by_cases hh:eW h.log b=true
  ·rw[if_pos hh]at hz;exact .inr hz
  ·rw[if_neg hh]at hz;exact List.mem_cons.1 hz
 ·rw[Heap.aL (by omega)]at hz;exact .inr hz
theorem pG{b:Nat}{o:bK}(hb:b<base):b∈(h.wr base b o).log:=by
 rw[vA hb]
 by_cases hh:eW h.log b=true
 ·rw[if_pos hh];exact ja.1 hh
 ·rw[if_neg hh];exact List.mem_cons_self ..
structure YQX (l:Nat) (L LX:bK) (lo N n:Nat) (R S:Heap→Prop) (x:br) (e:Env) (ds:Dfs) (h3:Heap):Prop where
 busy:∃o,h3.get l=some o∧busy o=true
 log:∀z∈h3.log,lo≤z∧z<N
 rel:(x= .normal∧∀h5:Heap,n≤h5.next→(∀z,z<n→z≠l→h5.get z=h3.get z)→h5.get l=some L→R h5)∨(x= .ret∧∀h5:Heap,h5.next=h3.next→(∀z,z≠l→h5.get z=h3.get z)→h5.get l=some LX→S h5)
structure YAX (T:Nat→Option af) (l:Nat) (e:Env) (ps:List Nat) (asg body:aU) (lo N n:Nat) (R S:Heap→Prop) (x:br) (e2:Env) (ds2:Dfs) (h2:Heap):Prop where
 x:x= .normal
 loop:h2.get l=some (.loop e ps asg body 0 .normal)
 body:WE T n (some l) body (YQX l (.loop e ps asg body 0 .normal) (.loop e ps asg body 2 .ret) lo N n R S) e2 ds2 (h2.wr 0 l (.loop e ps asg body 1 .normal))
theorem FW.HR(hp:bI T){l lo N:Nat}{e e1:Env}{ps:List Nat}{asg body:aU}{args:List Value}{R S:Heap→Prop}(hl:h.get l=some (.loop e ps asg body 0 .normal))(he:iO e ps args=some e1)(hlN:l<h.next)(hlo:lo≤l∧l<N)
 (H:WE T h.next (some l) asg (YAX T l e ps asg body lo N h.next R S) e1 [] h):
 FW T (.yield l) args h fun r h'=>(∀z∈h'.log,lo≤z∧z<N)∧(r= .ret (.bool true)∧R h'∨r= .ret (.bool false)∧l∈h'.log∧S h'):=by
 obtain⟨x,e2,ds2,h2,⟨m,hm⟩,⟨rfl,hl2,H2⟩⟩:=H.ok
 obtain⟨x3,e3,ds3,h3,⟨m3,hm3⟩,⟨⟨o,ho,hb⟩,hlog,hrel⟩⟩:=H2.ok
 have hnr:notReady (h2.get l)=false:=by rw[hl2];rfl
 have hloop:∃a b c d p,o= .loop a b c d 1 p:=by
  unfold A.busy at hb
  split at hb
  ·exact⟨_,_,_,_,_,rfl⟩
  ·cases hb
 obtain⟨oa,ob,oc,od,op,rfl⟩:=hloop
 rcases hrel with⟨rfl,hrel⟩|⟨rfl,hrel⟩
 ·have A1:=(eC.all hp m).exec _ _ _ _ _ _ _ _ _ _ (hm m (Nat.le_refl _)) (Nat.le_refl _)
  have A2:=(eC.all hp m3).exec _ _ _ _ _ _ _ _ _ _ (hm3 m3 (Nat.le_refl _)) A1.next
  have A3:AS 0 h (h3.wr 0 l (.loop e ps asg body 0 .normal)):=((A1.zero.trans (AS.wr 0 h2 l _)).trans A2.zero).trans (AS.wr 0 h3 l _)
  obtain⟨g1,g2,g3⟩:=qB (v:= .bool true) A3
  refine⟨.ret (.bool true),gcA h (h3.wr 0 l (.loop e ps asg body 0 .normal)) (.bool true),⟨m+m3+1,fun n hn=> ?_⟩,?_, .inl ⟨rfl,?_⟩⟩
  ·obtain⟨k,rfl⟩:∃k,n=k+1:=⟨n-1,by omega⟩
   have q1:=hm k (by omega)
   have q2:=hm3 k (by omega)
   rw[←wr0]at q2
   simp only[fC,hl,he,q1,hnr,cond_false,q2,ho]
   rfl
  ·rw[g3];exact hlog
  ·refine hrel _ g2 (fun z hz hne=>(g1 z hz).trans (Heap.eG hne)) ((g1 l hlN).trans ?_)
   exact Heap.aJ ho
 ·refine⟨.ret (.bool false),h3.wr h.next l (.loop e ps asg body 2 .ret),⟨m+m3+1,fun n hn=> ?_⟩,?_, .inr ⟨rfl,pG hlN,?_⟩⟩
  ·obtain⟨k,rfl⟩:∃k,n=k+1:=⟨n-1,by omega⟩
   have q1:=hm k (by omega)
   have q2:=hm3 k (by omega)
   rw[←wr0]at q2
   simp only[fC,hl,he,q1,hnr,cond_false,q2,ho]
  ·intro z hz
   rcases dJ hz with rfl|hz
   ·exact hlo
   ·exact hlog z hz
  ·exact hrel _ rfl (fun z hne=>Heap.eG hne) (Heap.aJ ho)
structure DX {α:Type} (T:Nat→Option af) (lo N l:Nat) (V:α→Value) (all:List α) (P:List α→Heap→Prop) (S:Heap→Prop):Prop where
 nS:∀done x H,x∈all→Rdy H→N≤H.next→P done H→FW T (.yield l) [V x] H fun r H'=>(∀z∈H'.log,lo≤z∧z<N)∧(r= .ret (.bool true)∧P (done++[x]) H'∨r= .ret (.bool false)∧l∈H'.log∧S H')
 eZ:∀done H H',P done H→N≤H'.next→(∀x,x<N→H'.get x=H.get x)→P done H'
 Ds:∀H m,S H→S {H with log:=m}
 vm:∀H,S H→∃a b c d,H.get l=some (.loop a b c d 2 .ret)
theorem DX.call(hp:bI T){α:Type}{lo N l:Nat}{V:α→Value}{all:List α}{P:List α→Heap→Prop}{S:Heap→Prop}(Y:DX T lo N l V all P S){K:Env→Dfs→Heap→Prop}{dst:Option Nat}{done:List α}{x:α}(hx:x∈all)(hw:WF h)(hlo:lo≤h.next)(hN:N≤h.next)(hlb:l<base)(hP:P done h)
 (hK:∀h',Lk lo h h'→(∀z,N≤z→z<h.next→h'.get z=h.get z)→P (done++[x]) h'→K (cD e dst (.bool true)) ds h')
 (hX:∀h',Lk lo h h'→l∈h'.log→S h'→K (cD e dst (.bool false)) ds h'):FW T (.yield l) [V x] {h with log:=[]} (KO K Q base dst e ds h.log):=by
 refine FW.mono' (FW.Bi hp (Y.nS done x _ hx (.of hw) hN (Y.eZ _ _ _ hP hN fun _ _=>rfl)) rfl) ?_
 rintro r h2 ⟨hA,hl,hq⟩
 have hk:Lk lo {h with log:=[]} h2:=Lk.oK hA hlo fun z hz=>(hl z hz).1
 rcases hq with⟨rfl,hq⟩|⟨rfl,hm,hq⟩
 ·refine⟨hK _ hk.call (fun z h1 h3=> ?_) (Y.eZ _ _ _ hq (Nat.le_trans hN hA.next) fun _ _=>rfl)⟩
  exact hA.same z h3 h3 (l8 fun hm=>by have:=(hl z hm).2;omega)
 ·exact⟨hX _ hk.call (mem_merge hlb hm) (Y.Ds _ _ hq)⟩
def GrX(T:Nat→Option af)(f:Nat)(args:List Value)(h:Heap)(lo:Nat)(P S:Heap→Prop):Prop:=CW T f args h fun r h'=>Lk lo h h'∧∃v,r= .ret v∧(P h'∨S h')
structure Ie (rs:List (Nat×Option (Option Nat))) (lo l:Nat) (P S:Heap→Prop) (x:br) (e:Env) (ds:Dfs) (h1:Heap):Prop where
 ok:(x= .normal∨x= .ret)∧ds=[]∧fH lo h1.log∧(∃vs,cm h1 e rs=some vs)∧(P h1∨l∈h1.log∧S h1)
theorem x9{rs:List (Nat×Option (Option Nat))}{lo l:Nat}{P S:Heap→Prop}{vs:List Value}(hl:fH lo h.log)(hr:cm h e rs=some vs)(hm:l∈h.log)(hq:S h):Ie rs lo l P S .ret e [] h:=⟨⟨.inr rfl,rfl,hl,⟨vs,hr⟩, .inr ⟨hm,hq⟩⟩⟩
theorem x8{rs:List (Nat×Option (Option Nat))}{lo l:Nat}{P S:Heap→Prop}{vs:List Value}(hl:fH lo h.log)(hr:cm h e rs=some vs)(hq:P h):Ie rs lo l P S .normal e [] h:=⟨⟨.inl rfl,rfl,hl,⟨vs,hr⟩, .inl hq⟩⟩
theorem GrX.of(hp:bI T){f:Nat}{args:List Value}{c:aU}{rs:List (Nat×Option (Option Nat))}{lo l:Nat}{P S:Heap→Prop}(hf:T f=some (.code c rs))(hlo:lo≤h.next)(hlN:l<h.next)
 (hP:∀h1 h2:Heap,h.next≤h2.next→(∀x,x<h.next→h2.get x=h1.get x)→P h1→P h2)(hS:∀H,S H→∃a b c d,H.get l=some (.loop a b c d 2 .ret))(H:WE T h.next none c (Ie rs lo l P S) (ei 0 args) [] h):GrX T f args h lo P S:=by
 obtain⟨x,e,ds,h1,⟨m,hm⟩,⟨hx,rfl,hl,⟨vs,hvs⟩,hq⟩⟩:=H.ok
 have hA:=(eC.all hp m).exec _ _ _ _ _ _ _ _ _ _ (hm m (Nat.le_refl _)) (Nat.le_refl _)
 obtain⟨g1,g2,g3,g4⟩:=pR (v:=fh vs) hA
 have key:Lk lo h (gcA h h1 (fh vs))∧∃v,Res.ret (fh vs)= .ret v∧(P (gcA h h1 (fh vs))∨S (gcA h h1 (fh vs))):=by
  refine⟨Lk.oK (hA.gc' _) hlo (by rw[g3];exact hl),_,rfl,?_⟩
  rcases hq with hq|⟨hml,hq⟩
  ·exact .inl (hP _ _ g2 g1 hq)
  ·obtain⟨a,b,c,d,hlp⟩:=hS _ hq
   rw[vQ hlp hlN hml]
   exact .inr hq
 refine CW.code hf ⟨x,e,[],h1,⟨m,hm⟩,?_⟩
 unfold vO
 rcases hx with rfl|rfl<;>(simp only[hvs];exact key)
theorem tv{base:Nat}:∀{m l:List Nat},fH base m→aC base l m=l
 |[],_,_=>rfl
 |b::m,l,h=>by
  have hb:=h b (List.mem_cons_self ..)
  simp only[aC,p8 (show¬b<base by omega),cond_false]
  exact tv fun x hx=>h x (List.mem_cons_of_mem _ hx)
theorem vz{h1:Heap}{f:Operand}{g lo:Nat}{first cap:Array Value}{ps:List Nat}{asg body:aU}{P S:Heap→Prop}(hr:nL h1 rnd=true)(hf:ev h1 e f=some (.func (.func g) first cap))(hnc:gK (T g)=false)
 (hlo:base≤lo)(hlo2:lo≤h1.next)(hlog:h1.log=[])(w1:WF h1)
 (HG:GrX T g (dO first.toList (dO [.func (.yield h1.next) #[] #[]] cap.toList)) {h1.push (.loop e ps asg body 0 .normal)with log:=[]} lo P S)
 (hP:∀H,P H→∃a b c d,H.get h1.next=some (.loop a b c d 0 .normal))(hS:∀H,S H→∃a b c d,H.get h1.next=some (.loop a b c d 2 .ret))
 (K1:∀h2 h3:Heap,h3.log=[]→WF h3→h1.next<h3.next→h3.next=h2.next→(∀z,z≠h1.next→h3.get z=h2.get z)→P h2→Q .normal e ds h3)
 (K2:∀h2 h3:Heap,h3.log=[]→WF h3→h1.next<h3.next→h3.next=h2.next→(∀z,z≠h1.next→h3.get z=h2.get z)→S h2→Q .ret e ds h3):WE T base rnd (.rangeFunc f ps asg body) Q e ds h1:=by
 refine um hr hf hnc (CW.mono HG ?_)
 rintro r h2 ⟨hk,v,rfl,hq⟩
 have hl2:fH base h2.log:=fun z hz=>Nat.le_trans hlo (hk.log (fH.nil _) z hz)
 have q1:(({h2 with log:=aC base h1.log h2.log}:Heap).wr base h1.next .dead).log=[]:=by
  rw[Heap.aL (by omega)]
  show aC base h1.log h2.log=[]
  rw[tv hl2,hlog]
 have q2:WF (({h2 with log:=aC base h1.log h2.log}:Heap).wr base h1.next .dead):=((hk.wf ((w1.push _).log _)).log _).as (AS.wr _ _ _ _)
 have q3:h1.next<h2.next:=hk.next
 have q4:∀z,z≠h1.next→(({h2 with log:=aC base h1.log h2.log}:Heap).wr base h1.next .dead).get z=h2.get z:=fun z hne=>Heap.eG hne
 rcases hq with hq|hq
 ·obtain⟨a,b,c,d,hl⟩:=hP _ hq
  exact⟨_,rfl,_,_,_,_,_,_,hl,rfl,K1 h2 _ q1 q2 q3 rfl q4 hq⟩
 ·obtain⟨a,b,c,d,hl⟩:=hS _ hq
  exact⟨_,rfl,_,_,_,_,_,_,hl,rfl,K2 h2 _ q1 q2 q3 rfl q4 hq⟩
structure YQM (px:br) (l:Nat) (L LX:bK) (lo N n:Nat) (R S:Heap→Prop) (x:br) (e:Env) (ds:Dfs) (h3:Heap):Prop where
 busy:∃o,h3.get l=some o∧busy o=true
 log:∀z∈h3.log,lo≤z∧z<N
 rel:(x= .normal∧∀h5:Heap,n≤h5.next→(∀z,z<n→z≠l→h5.get z=h3.get z)→h5.get l=some L→R h5)∨(x=px∧∀h5:Heap,h5.next=h3.next→(∀z,z≠l→h5.get z=h3.get z)→h5.get l=some LX→S h5)
structure YAM (px:br) (T:Nat→Option af) (l:Nat) (e:Env) (ps:List Nat) (asg body:aU) (lo N n:Nat) (R S:Heap→Prop) (x:br) (e2:Env) (ds2:Dfs) (h2:Heap):Prop where
 x:x= .normal
 loop:h2.get l=some (.loop e ps asg body 0 .normal)
 body:WE T n (some l) body (YQM px l (.loop e ps asg body 0 .normal) (.loop e ps asg body 2 px) lo N n R S) e2 ds2 (h2.wr 0 l (.loop e ps asg body 1 .normal))
theorem FW.MN(hp:bI T){px:br}(hpx:px= .ret∨∃i,px= .exit i){l lo N:Nat}{e e1:Env}{ps:List Nat}{asg body:aU}{args:List Value}{R S:Heap→Prop}(hl:h.get l=some (.loop e ps asg body 0 .normal))(he:iO e ps args=some e1)(hlN:l<h.next)(hlo:lo≤l∧l<N)
 (H:WE T h.next (some l) asg (YAM px T l e ps asg body lo N h.next R S) e1 [] h):
 FW T (.yield l) args h fun r h'=>(∀z∈h'.log,lo≤z∧z<N)∧(r= .ret (.bool true)∧R h'∨r= .ret (.bool false)∧l∈h'.log∧S h'):=by
 obtain⟨x,e2,ds2,h2,⟨m,hm⟩,⟨rfl,hl2,H2⟩⟩:=H.ok
 obtain⟨x3,e3,ds3,h3,⟨m3,hm3⟩,⟨⟨o,ho,hb⟩,hlog,hrel⟩⟩:=H2.ok
 have hnr:notReady (h2.get l)=false:=by rw[hl2];rfl
 have hloop:∃a b c d p,o= .loop a b c d 1 p:=by
  unfold A.busy at hb
  split at hb
  ·exact⟨_,_,_,_,_,rfl⟩
  ·cases hb
 obtain⟨oa,ob,oc,od,op,rfl⟩:=hloop
 rcases hrel with⟨rfl,hrel⟩|⟨rfl,hrel⟩
 ·have A1:=(eC.all hp m).exec _ _ _ _ _ _ _ _ _ _ (hm m (Nat.le_refl _)) (Nat.le_refl _)
  have A2:=(eC.all hp m3).exec _ _ _ _ _ _ _ _ _ _ (hm3 m3 (Nat.le_refl _)) A1.next
  have A3:AS 0 h (h3.wr 0 l (.loop e ps asg body 0 .normal)):=((A1.zero.trans (AS.wr 0 h2 l _)).trans A2.zero).trans (AS.wr 0 h3 l _)
  obtain⟨g1,g2,g3⟩:=qB (v:= .bool true) A3
  refine⟨.ret (.bool true),gcA h (h3.wr 0 l (.loop e ps asg body 0 .normal)) (.bool true),⟨m+m3+1,fun n hn=> ?_⟩,?_, .inl ⟨rfl,?_⟩⟩
  ·obtain⟨k,rfl⟩:∃k,n=k+1:=⟨n-1,by omega⟩
   have q1:=hm k (by omega)
   have q2:=hm3 k (by omega)
   rw[←wr0]at q2
   simp only[fC,hl,he,q1,hnr,cond_false,q2,ho]
   rfl
  ·rw[g3];exact hlog
  ·refine hrel _ g2 (fun z hz hne=>(g1 z hz).trans (Heap.eG hne)) ((g1 l hlN).trans ?_)
   exact Heap.aJ ho
 ·refine⟨.ret (.bool false),h3.wr h.next l (.loop e ps asg body 2 x3),⟨m+m3+1,fun n hn=> ?_⟩,?_, .inr ⟨rfl,pG hlN,?_⟩⟩
  ·obtain⟨k,rfl⟩:∃k,n=k+1:=⟨n-1,by omega⟩
   have q1:=hm k (by omega)
   have q2:=hm3 k (by omega)
   rw[←wr0]at q2
   rcases hpx with rfl|⟨i,rfl⟩<;>simp only[fC,hl,he,q1,hnr,cond_false,q2,ho]
  ·intro z hz
   rcases dJ hz with rfl|hz
   ·exact hlo
   ·exact hlog z hz
  ·exact hrel _ rfl (fun z hne=>Heap.eG hne) (Heap.aJ ho)
structure HT {α:Type} (px:br) (T:Nat→Option af) (lo N l:Nat) (V:α→List Value) (all:List α) (P:List α→Heap→Prop) (S:Heap→Prop):Prop where
 nS:∀done x H,x∈all→Rdy H→N≤H.next→P done H→FW T (.yield l) (V x) H fun r H'=>(∀z∈H'.log,lo≤z∧z<N)∧(r= .ret (.bool true)∧P (done++[x]) H'∨r= .ret (.bool false)∧l∈H'.log∧S H')
 eZ:∀done H H',P done H→N≤H'.next→(∀x,x<N→H'.get x=H.get x)→P done H'
 Ds:∀H m,S H→S {H with log:=m}
 vm:∀H,S H→∃a b c d,H.get l=some (.loop a b c d 2 px)
theorem HT.call(hp:bI T){α:Type}{px:br}{lo N l:Nat}{V:α→List Value}{all:List α}{P:List α→Heap→Prop}{S:Heap→Prop}(Y:HT px T lo N l V all P S){K:Env→Dfs→Heap→Prop}{dst:Option Nat}{done:List α}{x:α}(hx:x∈all)(hw:WF h)(hlo:lo≤h.next)(hN:N≤h.next)(hlb:l<base)(hP:P done h)
 (hK:∀h',Lk lo h h'→(∀z,N≤z→z<h.next→h'.get z=h.get z)→P (done++[x]) h'→K (cD e dst (.bool true)) ds h')
 (hX:∀h',Lk lo h h'→l∈h'.log→S h'→K (cD e dst (.bool false)) ds h'):FW T (.yield l) (V x) {h with log:=[]} (KO K Q base dst e ds h.log):=by
 refine FW.mono' (FW.Bi hp (Y.nS done x _ hx (.of hw) hN (Y.eZ _ _ _ hP hN fun _ _=>rfl)) rfl) ?_
 rintro r h2 ⟨hA,hl,hq⟩
 have hk:Lk lo {h with log:=[]} h2:=Lk.oK hA hlo fun z hz=>(hl z hz).1
 rcases hq with⟨rfl,hq⟩|⟨rfl,hm,hq⟩
 ·refine⟨hK _ hk.call (fun z h1 h3=> ?_) (Y.eZ _ _ _ hq (Nat.le_trans hN hA.next) fun _ _=>rfl)⟩
  exact hA.same z h3 h3 (l8 fun hm=>by have:=(hl z hm).2;omega)
 ·exact⟨hX _ hk.call (mem_merge hlb hm) (Y.Ds _ _ hq)⟩
theorem GrX.ofM(hp:bI T){px:br}{f:Nat}{args:List Value}{c:aU}{rs:List (Nat×Option (Option Nat))}{lo l:Nat}{P S:Heap→Prop}(hf:T f=some (.code c rs))(hlo:lo≤h.next)(hlN:l<h.next)
 (hP:∀h1 h2:Heap,h.next≤h2.next→(∀x,x<h.next→h2.get x=h1.get x)→P h1→P h2)(hS:∀H,S H→∃a b c d,H.get l=some (.loop a b c d 2 px))(H:WE T h.next none c (Ie rs lo l P S) (ei 0 args) [] h):GrX T f args h lo P S:=by
 obtain⟨x,e,ds,h1,⟨m,hm⟩,⟨hx,rfl,hl,⟨vs,hvs⟩,hq⟩⟩:=H.ok
 have hA:=(eC.all hp m).exec _ _ _ _ _ _ _ _ _ _ (hm m (Nat.le_refl _)) (Nat.le_refl _)
 obtain⟨g1,g2,g3,g4⟩:=pR (v:=fh vs) hA
 have key:Lk lo h (gcA h h1 (fh vs))∧∃v,Res.ret (fh vs)= .ret v∧(P (gcA h h1 (fh vs))∨S (gcA h h1 (fh vs))):=by
  refine⟨Lk.oK (hA.gc' _) hlo (by rw[g3];exact hl),_,rfl,?_⟩
  rcases hq with hq|⟨hml,hq⟩
  ·exact .inl (hP _ _ g2 g1 hq)
  ·obtain⟨a,b,c,d,hlp⟩:=hS _ hq
   rw[vQ hlp hlN hml]
   exact .inr hq
 refine CW.code hf ⟨x,e,[],h1,⟨m,hm⟩,?_⟩
 unfold vO
 rcases hx with rfl|rfl<;>(simp only[hvs];exact key)
theorem DJ{px:br}{h1:Heap}{f:Operand}{g lo:Nat}{first cap:Array Value}{ps:List Nat}{asg body:aU}{P S:Heap→Prop}(hr:nL h1 rnd=true)(hf:ev h1 e f=some (.func (.func g) first cap))(hnc:gK (T g)=false)
 (hlo:base≤lo)(hlo2:lo≤h1.next)(hlog:h1.log=[])(w1:WF h1)
 (HG:GrX T g (dO first.toList (dO [.func (.yield h1.next) #[] #[]] cap.toList)) {h1.push (.loop e ps asg body 0 .normal)with log:=[]} lo P S)
 (hP:∀H,P H→∃a b c d,H.get h1.next=some (.loop a b c d 0 .normal))(hS:∀H,S H→∃a b c d,H.get h1.next=some (.loop a b c d 2 px))
 (K1:∀h2 h3:Heap,h3.log=[]→WF h3→h1.next<h3.next→h3.next=h2.next→(∀z,z≠h1.next→h3.get z=h2.get z)→P h2→Q .normal e ds h3)
 (K2:∀h2 h3:Heap,h3.log=[]→WF h3→h1.next<h3.next→h3.next=h2.next→(∀z,z≠h1.next→h3.get z=h2.get z)→S h2→Q px e ds h3):WE T base rnd (.rangeFunc f ps asg body) Q e ds h1:=by
 refine um hr hf hnc (CW.mono HG ?_)
 rintro r h2 ⟨hk,v,rfl,hq⟩
 have hl2:fH base h2.log:=fun z hz=>Nat.le_trans hlo (hk.log (fH.nil _) z hz)
 have q1:(({h2 with log:=aC base h1.log h2.log}:Heap).wr base h1.next .dead).log=[]:=by
  rw[Heap.aL (by omega)]
  show aC base h1.log h2.log=[]
  rw[tv hl2,hlog]
 have q2:WF (({h2 with log:=aC base h1.log h2.log}:Heap).wr base h1.next .dead):=((hk.wf ((w1.push _).log _)).log _).as (AS.wr _ _ _ _)
 have q3:h1.next<h2.next:=hk.next
 have q4:∀z,z≠h1.next→(({h2 with log:=aC base h1.log h2.log}:Heap).wr base h1.next .dead).get z=h2.get z:=fun z hne=>Heap.eG hne
 rcases hq with hq|hq
 ·obtain⟨a,b,c,d,hl⟩:=hP _ hq
  exact⟨_,rfl,_,_,_,_,_,_,hl,rfl,K1 h2 _ q1 q2 q3 rfl q4 hq⟩
 ·obtain⟨a,b,c,d,hl⟩:=hS _ hq
  exact⟨_,rfl,_,_,_,_,_,_,hl,rfl,K2 h2 _ q1 q2 q3 rfl q4 hq⟩
theorem zM{b:aU}(H:WE T base rnd b Q e ds h):WE T base rnd (.scope b) Q e ds h:=by
 obtain⟨x,e',ds',h',⟨m,h1⟩,h2⟩:=H.ok
 exact⟨_,_,_,_,⟨m+1,fun n hn=>by
  obtain⟨k,rfl⟩:∃k,n=k+1:=⟨n-1,by omega⟩
  simp only[b8,h1 k (by omega)]⟩,h2⟩
def Br(h:Heap)(q:Nat):Prop:=∃vs own t,h.get q=some (.cells vs own t)∧cV vs=false
structure Q1 {α:Type} (T:Nat→Option af) (lo N l q:Nat) (V:α→Value) (all:List α) (P:List α→Heap→Prop):Prop where
 hq:q<N
 nS:∀done x rest H,all=done++x::rest→Rdy H→N≤H.next→P done H→FW T (.yield l) [V x] H fun r H'=>r= .ret (.bool true)∧(∀z∈H'.log,lo≤z)∧q∈H'.log∧Br H' q∧P (done++[x]) H'
 eZ:∀done H H',P done H→H.next≤H'.next→(∀x,x<H.next→H'.get x=H.get x)→P done H'
structure Q2 {α:Type} (T:Nat→Option af) (lo N l q:Nat) (V:α→List Value) (all:List α) (P:List α→Heap→Prop) (W:Heap→Nat→Prop):Prop where
 hq:q<N
 nS:∀done x H,x∈all→done.length<100000→Rdy H→N≤H.next→P done H→FW T (.yield l) (V x) H fun r H'=>r= .ret (.bool true)∧(∀z∈H'.log,lo≤z)∧q∈H'.log∧Br H' q∧P (done++[x]) H'∧(∀z,z<H.next→¬W H z→H'.get z=H.get z)∧(∀z,W H' z→W H z∨H.next≤z)
 eZ:∀done H H',P done H→H.next≤H'.next→(∀x,x<H.next→H'.get x=H.get x)→P done H'
 wst:∀done H H',P done H→H.next≤H'.next→(∀x,x<H.next→H'.get x=H.get x)→∀z,W H' z→W H z
 wlt:∀done H z,P done H→W H z→z<H.next
structure Q5 (rs:List (Nat×Option (Option Nat))) (S:Nat→Prop) (Q Qp:Value→Heap→Prop) (x:br) (e:Env) (ds:Dfs) (h1:Heap):Prop where
 ok:ds=[]∧(∀z∈h1.log,S z)∧(((x= .normal∨x= .ret)∧∃vs,cm h1 e rs=some vs∧Q (fh vs) h1)∨∃v,x= .panic v∧Qp v h1)
structure SE (T:Nat→Option af) (base:Nat) (c:aU) (K:br→Env→Option Value→Heap→Prop) (e:Env) (p:Option Value) (h:Heap):Prop where
 ok:∃x e' p' h',(∃m,∀n,m≤n→ic T n base c e p h=some (x,e',p',h'))∧K x e' p' h'
variable {p:Option Value} {K:br→Env→Option Value→Heap→Prop} {KO':Env→Option Value→Heap→Prop}
end Go.A
end
section
namespace Go.A
variable {T:Nat→Option af} {base:Nat} {rnd:Option Nat} {Q Q':XQ} {e e2:Env} {ds:Dfs} {h:Heap} {os:List bB} {dst:Option Nat} {v u:Value} {x y:Operand} {keep k2:List Nat} {K:Env→Dfs→Heap→Prop}
theorem y1(H:Q .normal e2 ds h)(he:cu e keep=e2:=by simp only[cu,cD,geT,ei,cond_true,cond_false,Nat.beq];exact rfl):KR keep Q .normal e ds h:=NR he H
theorem y3(H:K e2 ds h)(he:cu e keep=e2:=by simp only[cu,cD,geT,ei,cond_true,cond_false,Nat.beq];exact rfl):WO T base rnd (KR keep (KS K Q)) [] e ds h:=ct (NR he (bH H))
theorem y4{b:aU}(H:WO T base rnd (KR keep (KS (WE T base rnd b Q) Q)) os e ds h):WE T base rnd (.seq (.region os keep) b) Q e ds h:=an (aq H)
theorem yM(H:WO T base rnd Q os (cD e dst v) ds h)(hx:ev h e x=some v:=by exact rfl):WO T base rnd Q (⟨dst, .mov x,none⟩::os) e ds h:=ah (iu hx) H
theorem yE{i:Nat}{vs:Array Value}(H:WO T base rnd Q os (cD e dst v) ds h)(hx:ev h e x=some (.tuple vs):=by exact rfl)(hv:bD vs.toList i=some v:=by exact rfl):WO T base rnd Q (⟨dst, .extract x i,none⟩::os) e ds h:=ah (Cs hx hv) H
theorem yL{b o sz:Nat}{vs:List Value}{own:Bool}(H:WO T base rnd Q os (cD e dst v) ds h)(hx:ev h e x=some (.pointer (some ⟨b,o,none⟩)):=by exact rfl)
 (hb:h.get b=some (.cells vs own sz):=by first|assumption|(simp(disch:=first|omega|(simp only[z1,z2];omega))only[z3,z4,z5,z6,z7,z1,z2, *];done)|(simp(disch:=first|omega|(simp only[z1,z2];omega))only[z3,z4,z5,z6,z7,z1,z2, *];exact rfl)|(simp(disch:=first|omega|(simp only[z1,z2];omega)|(simp only[z1,z2];done)|fail)only[Go.A.z8,z4,z5,z9,z7,z1,z2, *];done)|(simp(disch:=first|omega|(simp only[z1,z2];omega)|(simp only[z1,z2];done)|fail)only[Go.A.z8,z4,z5,z9,z7,z1,z2, *];exact rfl))
 (hv:bD vs o=some v:=by exact rfl):WO T base rnd Q (⟨dst, .load none x,none⟩::os) e ds h:=ah (dD hx hb hv) H
theorem yN{n b o sz:Nat}{vs l:List Value}{own:Bool}(H:WO T base rnd Q os (cD e dst (.agg l.toArray)) ds h)(hx:ev h e x=some (.pointer (some ⟨b,o,none⟩)):=by exact rfl)
 (hb:h.get b=some (.cells vs own sz):=by first|assumption|(simp(disch:=first|omega|(simp only[z1,z2];omega))only[z3,z4,z5,z6,z7,z1,z2, *];done)|(simp(disch:=first|omega|(simp only[z1,z2];omega))only[z3,z4,z5,z6,z7,z1,z2, *];exact rfl)|(simp(disch:=first|omega|(simp only[z1,z2];omega)|(simp only[z1,z2];done)|fail)only[Go.A.z8,z4,z5,z9,z7,z1,z2, *];done)|(simp(disch:=first|omega|(simp only[z1,z2];omega)|(simp only[z1,z2];done)|fail)only[Go.A.z8,z4,z5,z9,z7,z1,z2, *];exact rfl))
 (hv:bT n (bS o vs)=l:=by exact rfl)(hl:Nat.beq (bO l) n=true:=by exact rfl):WO T base rnd Q (⟨dst, .load (some n) x,none⟩::os) e ds h:=ah (dK hx hb hv hl) H
theorem yS{n b o sz:Nat}{vs ws:List Value}(H:WO T base rnd Q os (cD e dst (.tuple #[])) ds (h.wr base b (.cells ws true sz)))(hx:ev h e x=some (.pointer (some ⟨b,o,none⟩)):=by exact rfl)(hy:ev h e y=some v:=by exact rfl)
 (hb:h.get b=some (.cells vs true sz):=by first|assumption|(simp(disch:=first|omega|(simp only[z1,z2];omega))only[z3,z4,z5,z6,z7,z1,z2, *];done)|(simp(disch:=first|omega|(simp only[z1,z2];omega))only[z3,z4,z5,z6,z7,z1,z2, *];exact rfl)|(simp(disch:=first|omega|(simp only[z1,z2];omega)|(simp only[z1,z2];done)|fail)only[Go.A.z8,z4,z5,z9,z7,z1,z2, *];done)|(simp(disch:=first|omega|(simp only[z1,z2];omega)|(simp only[z1,z2];done)|fail)only[Go.A.z8,z4,z5,z9,z7,z1,z2, *];exact rfl))
 (hc:(Nat.beq (bO (cellsOf v)) n&&Nat.ble (o+n) (bO vs)&&dG (cellsOf v))=true:=by exact rfl)(hw:cg vs o (cellsOf v)=ws:=by exact rfl):WO T base rnd Q (⟨dst, .store n x y,none⟩::os) e ds h:=ah (gV hx hy hb hc hw) H
theorem yF{off b o:Nat}(H:WO T base rnd Q os (cD e dst (.pointer (some ⟨b,o+off,none⟩))) ds h)(hx:ev h e x=some (.pointer (some ⟨b,o,none⟩)):=by exact rfl):WO T base rnd Q (⟨dst, .cS off x,none⟩::os) e ds h:=ah (dV hx) H
theorem yB{vs:List Value}(H:WO T base rnd Q os (cD e dst (.pointer (some ⟨h.next,0,none⟩))) ds (h.push (.cells vs true 1)))(hx:ev h e x=some v:=by exact rfl)(hc:cellsOf v=vs:=by exact rfl):WO T base rnd Q (⟨dst, .box x,none⟩::os) e ds h:=ah (MY hx hc) H
theorem yT{c:Operand}(H:WO T base rnd Q os (cD e dst v) ds h)(hc:ev h e c=some (.bool true):=by exact rfl)(hx:ev h e x=some v:=by exact rfl):WO T base rnd Q (⟨dst, .pick c x y,none⟩::os) e ds h:=ah (iR hc hx) H
theorem yU{c:Operand}(H:WO T base rnd Q os (cD e dst v) ds h)(hc:ev h e c=some (.bool false):=by exact rfl)(hx:ev h e y=some v:=by exact rfl):WO T base rnd Q (⟨dst, .pick c x y,none⟩::os) e ds h:=ah (iQ hc hx) H
theorem yO{op:AOp}{t:Nat}{b:Bool}(H:WO T base rnd Q (⟨dst,op,none⟩::os) e ds h)(hg:geT e t=some (.bool b):=by exact rfl):WO T base rnd Q (⟨dst,op,some (t,b)⟩::os) e ds h:=HD hg H
theorem yP{op:AOp}{t:Nat}{b c:Bool}(H:WO T base rnd Q os (cD e dst (.tuple #[])) ds h)(hg:geT e t=some (.bool c):=by exact rfl)(hx:c= !b:=by exact rfl):WO T base rnd Q (⟨dst,op,some (t,b)⟩::os) e ds h:=MA hg hx H
theorem yC{f:Operand}{args:List Operand}{fv:Value}{as:List Value}{g:Nat}{first cap:Array Value}{all:List Value}(H:FW T (.func g) all {h with log:=[]} (KO (WO T base rnd Q os) Q base dst e ds h.log))(hf:ev h e f=some fv:=by exact rfl)(ha:evs h e args=some as:=by exact rfl)(hv:fv= .func (.func g) first cap:=by exact rfl)(hl:dO first.toList (dO as cap.toList)=all:=by exact rfl):
 WO T base rnd Q (⟨dst, .call f args,none⟩::os) e ds h:=xD (DZ hf ha hv hl) H
theorem yX{c:Operand}{a b:aU}(H:WE T base rnd b Q e ds h)(hc:ev h e c=some (.bool false):=by exact rfl):WE T base rnd (.cond c a b) Q e ds h:=HC hc H
theorem yY{c:Operand}{a b:aU}(H:WE T base rnd a Q e ds h)(hc:ev h e c=some (.bool true):=by exact rfl):WE T base rnd (.cond c a b) Q e ds h:=JF hc H
theorem yA{b:Bool}(H:WO T base rnd Q os (cD e dst (.bool !b)) ds h)(hx:ev h e x=some (.bool b):=by exact rfl):WO T base rnd Q (⟨dst, .un .not x,none⟩::os) e ds h:=ah (rI hx) H
theorem yD{a:Option Addr}{n c:Nat}(H:WO T base rnd Q os (cD e dst (.int .i64 n)) ds h)(hx:ev h e x=some (.slice a n c):=by exact rfl):WO T base rnd Q (⟨dst, .len 1 x,none⟩::os) e ds h:=ah (KF hx) H
section
variable {k:IntKind} {a b:Int}
theorem yt{op:BinOp}{u:Value}(H:WO T base rnd Q os (cD e dst (.bool true)) ds h)(hx:ev h e x=some v:=by exact rfl)(hy:ev h e y=some u:=by exact rfl)(hv:aA op v u=some (.bool true):=by first|exact Ao (by omega)|exact mh (by omega)|exact gP (by omega)|exact mg (by omega)|exact Am (by omega)|exact Ap (by omega)):
 WO T base rnd Q (⟨dst, .bin (.num op) x y,none⟩::os) e ds h:=ah (uF hx hy hv) H
theorem yf{op:BinOp}{u:Value}(H:WO T base rnd Q os (cD e dst (.bool false)) ds h)(hx:ev h e x=some v:=by exact rfl)(hy:ev h e y=some u:=by exact rfl)(hv:aA op v u=some (.bool false):=by first|exact An (by omega)|exact oZ (by omega)|exact iF (by omega)|exact mb (by omega)|exact wg (by omega)|exact Ft (by omega)):
 WO T base rnd Q (⟨dst, .bin (.num op) x y,none⟩::os) e ds h:=ah (uF hx hy hv) H
theorem iI{n:Nat}(H:WO T base rnd Q os (cD e dst (.int .i64 (n+1:Nat))) ds h)(hx:ev h e x=some (.int .i64 n):=by exact rfl)(hy:ev h e y=some (.int .i64 1):=by exact rfl)(hn:n<9223372036854775807:=by omega):WO T base rnd Q (⟨dst, .bin (.num .add) x y,none⟩::os) e ds h:=ah (uF hx hy (NX hn)) H
end
section
variable {ops:List bB} {bf:List Nat} {rs:List Rec} {R:Env→Heap→Prop} {i mask:Nat} {is:List Nat} {g:Option (Nat×Bool)} {er:Env}
theorem qM(H:WD T base ops bf R is (⟨i,⟨dst, .mov x,g⟩,er,v, .quiet⟩::rs) (cD e dst v) h)(ho:bD ops i=some ⟨dst, .mov x,g⟩:=by exact rfl)(hm:bD bf i=some mask:=by exact rfl)(he:cu e (cQ ⟨dst, .mov x,g⟩)=er:=by exact rfl)(hw:bY er g=some true:=by exact rfl)(hx:ev h er x=some v:=by exact rfl):WD T base ops bf R (i::is) rs e h:=aF ho hm he hw rfl rfl (iu hx) H
theorem qF{off b o:Nat}(H:WD T base ops bf R is (⟨i,⟨dst, .cS off x,g⟩,er, .pointer (some ⟨b,o+off,none⟩), .quiet⟩::rs) (cD e dst (.pointer (some ⟨b,o+off,none⟩))) h)(ho:bD ops i=some ⟨dst, .cS off x,g⟩:=by exact rfl)(hm:bD bf i=some mask:=by exact rfl)(he:cu e (cQ ⟨dst, .cS off x,g⟩)=er:=by exact rfl)(hw:bY er g=some true:=by exact rfl)(hx:ev h er x=some (.pointer (some ⟨b,o,none⟩)):=by exact rfl):
 WD T base ops bf R (i::is) rs e h:=aF ho hm he hw rfl rfl (dV hx) H
theorem qL{b o sz:Nat}{vs:List Value}{own:Bool}(H:WD T base ops bf R is (⟨i,⟨dst, .load none x,g⟩,er,v, .quiet⟩::rs) (cD e dst v) h)(ho:bD ops i=some ⟨dst, .load none x,g⟩:=by exact rfl)(hm:bD bf i=some mask:=by exact rfl)(he:cu e (cQ ⟨dst, .load none x,g⟩)=er:=by exact rfl)(hw:bY er g=some true:=by exact rfl)(hx:ev h er x=some (.pointer (some ⟨b,o,none⟩)):=by exact rfl)
 (hb:h.get b=some (.cells vs own sz):=by first|assumption|(simp(disch:=first|omega|(simp only[z1,z2];omega))only[z3,z4,z5,z6,z7,z1,z2, *];done)|(simp(disch:=first|omega|(simp only[z1,z2];omega))only[z3,z4,z5,z6,z7,z1,z2, *];exact rfl)|(simp(disch:=first|omega|(simp only[z1,z2];omega)|(simp only[z1,z2];done)|fail)only[Go.A.z8,z4,z5,z9,z7,z1,z2, *];done)|(simp(disch:=first|omega|(simp only[z1,z2];omega)|(simp only[z1,z2];done)|fail)only[Go.A.z8,z4,z5,z9,z7,z1,z2, *];exact rfl))
 (hv:bD vs o=some v:=by exact rfl):WD T base ops bf R (i::is) rs e h:=aF ho hm he hw rfl rfl (dD hx hb hv) H
theorem qN{n b o sz:Nat}{vs l:List Value}{own:Bool}(H:WD T base ops bf R is (⟨i,⟨dst, .load (some n) x,g⟩,er, .agg l.toArray, .quiet⟩::rs) (cD e dst (.agg l.toArray)) h)(ho:bD ops i=some ⟨dst, .load (some n) x,g⟩:=by exact rfl)(hm:bD bf i=some mask:=by exact rfl)(he:cu e (cQ ⟨dst, .load (some n) x,g⟩)=er:=by exact rfl)(hw:bY er g=some true:=by exact rfl)(hx:ev h er x=some (.pointer (some ⟨b,o,none⟩)):=by exact rfl)
 (hb:h.get b=some (.cells vs own sz):=by first|assumption|(simp(disch:=first|omega|(simp only[z1,z2];omega))only[z3,z4,z5,z6,z7,z1,z2, *];done)|(simp(disch:=first|omega|(simp only[z1,z2];omega))only[z3,z4,z5,z6,z7,z1,z2, *];exact rfl)|(simp(disch:=first|omega|(simp only[z1,z2];omega)|(simp only[z1,z2];done)|fail)only[Go.A.z8,z4,z5,z9,z7,z1,z2, *];done)|(simp(disch:=first|omega|(simp only[z1,z2];omega)|(simp only[z1,z2];done)|fail)only[Go.A.z8,z4,z5,z9,z7,z1,z2, *];exact rfl))
 (hv:bT n (bS o vs)=l:=by exact rfl)(hl:Nat.beq (bO l) n=true:=by exact rfl):WD T base ops bf R (i::is) rs e h:=aF ho hm he hw rfl rfl (dK hx hb hv hl) H
theorem qC{f:Operand}{args:List Operand}{fv:Value}{as:List Value}{k:Nat}{first cap:Array Value}{all:List Value}(H:FW T (.func k) all {h with log:=[]} (KD (WD T base ops bf R is) base mask rs dst e h.log))(ho:bD ops i=some ⟨dst, .call f args,g⟩:=by exact rfl)(hm:bD bf i=some mask:=by exact rfl)(he:cu e (cQ ⟨dst, .call f args,g⟩)=er:=by exact rfl)(hw:bY er g=some true:=by exact rfl)
 (hf:ev {h with log:=[]} er f=some fv:=by exact rfl)(ha:evs {h with log:=[]} er args=some as:=by exact rfl)(hv:fv= .func (.func k) first cap:=by exact rfl)(hl:dO first.toList (dO as cap.toList)=all:=by exact rfl):WD T base ops bf R (i::is) rs e h:=xz ho hm he hw rfl (DZ hf ha hv hl) H
end
end Go.A
end
section
set_option maxRecDepth 100000
namespace Go.A
variable {T:Nat→Option af} {base:Nat} {rnd:Option Nat} {Q:XQ} {e:Env} {ds:Dfs} {h:Heap}
def mx(a b:Int):Int:=if b>a then b else a
theorem fk{base:Nat}{h:Heap}{e:Env}{len size b o i:Nat}{k:IntKind}{x y:Operand}(hx:ev h e x=some (.pointer (some ⟨b,o,none⟩)))(hy:ev h e y=some (.int k (i:Nat)))(hi:i<len):aop h base e (.bE len size x y)=some (.val (.pointer (some ⟨b,o+i*size,none⟩)) h):=by
 have e0:(.int k (i:Nat):Value)= .int k (Int.ofNat i):=rfl
 rw[e0]at hy
 simp only[aop,hx,hy,jE hi,cond_true]
theorem uE{base:Nat}{h:Heap}{e:Env}{x y:Operand}{a b:Int}(hx:ev h e x=some (.int .i64 a))(hy:ev h e y=some (.int .i64 b)):aop h base e (.ew true [x,y])=some (.val (.int .i64 (mx a b)) h):=by
 simp only[aop,evs,hx,hy,mmA,if_true,cB,mx]
theorem bQ{x y:Operand}{b n sz:Nat}{vs cs:List Value}(hx:ev h e x=some (.pointer (some ⟨b,0,none⟩)))(hy:ev h e y=some (.agg cs.toArray))(hb:h.get b=some (.cells vs true sz))(hn:cs.length=n)(hv:vs.length=n)(h1:dG cs=true):
 aop h base e (.store n x y)=some (.val (.tuple #[]) (h.wr base b (.cells cs true sz))):=by
 have hc:cellsOf (.agg cs.toArray)=cs:=by show cs.toArray.toList=cs;simp
 refine gV hx hy hb ?_ ?_
 ·rw[hc,bN,bN,hn,hv,h1,CO,Nat.zero_add,gJ (Nat.le_refl n)];rfl
 ·rw[hc,gu (by omega)]
  simp only[List.take_zero,List.nil_append,Nat.zero_add]
  rw[List.drop_of_length_le (by omega),List.append_nil]
theorem Ec{x y:Operand}{b o sz:Nat}{vs:List Value}{v:Value}(hx:ev h e x=some (.pointer (some ⟨b,o,none⟩)))(hy:ev h e y=some v)(hb:h.get b=some (.cells vs true sz))(hc:cellsOf v=[v])(h1:dG [v]=true)(ho:o<vs.length):
 aop h base e (.store 1 x y)=some (.val (.tuple #[]) (h.wr base b (.cells (vs.set o v) true sz))):=by
 refine gV hx hy hb ?_ ?_
 ·rw[hc,h1,bN,bN,gJ (by omega)];rfl
 ·rw[hc]
  show pX vs o v=vs.set o v
  clear hx hy hb
  induction vs generalizing o with
  |nil=>simp at ho
  |cons w vs ih=>
   cases o with
   |zero=>rfl
   |succ o=>simp only[pX,List.set_cons_succ];rw[ih (by simpa using ho)]
theorem MZ{op:UnOp}{x:Operand}{a v:Value}(hx:ev h e x=some a)(hv:uj op a=some v):aop h base e (.un op x)=some (.val v h):=by simp only[aop,hx,cB,hv]
theorem pN{base:Nat}{h:Heap}{e:Env}:aop h base e .mkMap=some (.val (.map (some h.next)) (h.push (.map []))):=rfl
theorem Ks{a b:Int}(h1: -9223372036854775808≤a*b)(h2:a*b<9223372036854775808):aA .mul (.int .i64 a) (.int .i64 b)=some (.int .i64 (a*b)):=by
 simp[aA,arith,cN h1 h2]
theorem rQ{base:Nat}:∀{m l:List Nat},fH base m→aC base l m=l
 |[],_,_=>rfl
 |b::m,l,h=>by
  have hb:=h b (List.mem_cons_self ..)
  simp only[aC,p8 (show¬b<base by omega),cond_false]
  exact rQ fun x hx=>h x (List.mem_cons_of_mem _ hx)
theorem FW.gs0{base:Nat}{Q:XQ}{e:Env}{ds:Dfs}{h:Heap}{f:Nat}{args:List Value}{S:Nat→Prop}{Q':Value→Heap→Prop}{K:Env→Dfs→Heap→Prop}{dst:Option Nat}(H:Gs T f args {h with log:=[]} S Q')(hlog:∀v (h':Heap) l,Q' v h'→Q' v {h' with log:=l})(hS:∀z,S z→base≤z)(hK:∀v h',h.next≤h'.next→h'.log=h.log→(∀z,z<h.next→¬S z→h'.get z=h.get z)→(WF h→WF h')→Q' v h'→K (cD e dst v) ds h'):
 FW T (.func f) args {h with log:=[]} (KO K Q base dst e ds h.log):=by
 refine .func (CW.mono H ?_)
 rintro r h2 ⟨hx,v,rfl,hq⟩
 exact⟨hK v _ hx.next (rQ fun z hz=>hS z ((hx.log z hz).elim (fun q=>by cases q) id)) hx.old (fun w=>(hx.wf (w.log [])).log _) (hlog v h2 _ hq)⟩
theorem rA{base:Nat}{h:Heap}{e:Env}{ops:List bB}{bf:List Nat}{rs rs':List Rec}{Q:Env→Heap→Prop}{i mask:Nat}{is:List Nat}{dst:Option Nat}{g:Option (Nat×Bool)}{er:Env}{x y:Operand}{b o sz:Nat}{vs:List Value}{v:Value}
 (ho:bD ops i=some ⟨dst, .store 1 x y,g⟩)(hm:bD bf i=some mask)(he:cu e (cQ ⟨dst, .store 1 x y,g⟩)=er)(hwt:bY er g=some true)(hx:ev {h with log:=[]} er x=some (.pointer (some ⟨b,o,none⟩)))(hy:ev {h with log:=[]} er y=some v)(hb:h.get b=some (.cells vs true sz))
 (hc:cellsOf v=[v])(h1:dG [v]=true)(ho':o<vs.length)(hlt:b<h.next)(hbb:base≤b)(hrs:bF (h.wr base b (.cells (vs.set o v) true sz)) base [b] mask rs=some rs')
 (H:WD T base ops bf Q is rs' (cD e dst (.tuple #[])) (h.wr base b (.cells (vs.set o v) true sz))):WD T base ops bf Q (i::is) rs e h:=
 qi ho hm he hwt rfl (Ec (h:={h with log:=[]}) hx hy hb hc h1 ho') (EL hlt hbb _) (th hlt _) hrs H
theorem zL{base:Nat}{h:Heap}{e:Env}{ops:List bB}{bf:List Nat}{rs rs':List Rec}{Q:Env→Heap→Prop}{i mask:Nat}{is:List Nat}{dst:Option Nat}{g:Option (Nat×Bool)}{er:Env}{x y:Operand}{b n sz:Nat}{vs cs:List Value}
 (ho:bD ops i=some ⟨dst, .store n x y,g⟩)(hm:bD bf i=some mask)(he:cu e (cQ ⟨dst, .store n x y,g⟩)=er)(hwt:bY er g=some true)(hx:ev {h with log:=[]} er x=some (.pointer (some ⟨b,0,none⟩)))(hy:ev {h with log:=[]} er y=some (.agg cs.toArray))(hb:h.get b=some (.cells vs true sz))
 (hn:cs.length=n)(hv:vs.length=n)(h1:dG cs=true)(hlt:b<h.next)(hbb:base≤b)(hrs:bF (h.wr base b (.cells cs true sz)) base [b] mask rs=some rs')
 (H:WD T base ops bf Q is rs' (cD e dst (.tuple #[])) (h.wr base b (.cells cs true sz))):WD T base ops bf Q (i::is) rs e h:=
 qi ho hm he hwt rfl (bQ (h:={h with log:=[]}) hx hy hb hn hv h1) (EL hlt hbb _) (th hlt _) hrs H
theorem ec{base:Nat}{e:Env}{h:Heap}{ops:List bB}{bf:List Nat}{rs rs':List Rec}{Q:Env→Heap→Prop}{i mask:Nat}{is:List Nat}{dst:Option Nat}{x y:Operand}{n b o sz:Nat}{vs ws:List Value}{v:Value}{g:Option (Nat×Bool)}{er:Env}(ho:bD ops i=some ⟨dst, .store n x y,g⟩)(hm:bD bf i=some mask)
 (he:cu e (cQ ⟨dst, .store n x y,g⟩)=er)(hw:bY er g=some true)(hx:ev {h with log:=[]} er x=some (.pointer (some ⟨b,o,none⟩)))(hy:ev {h with log:=[]} er y=some v)(hb:h.get b=some (.cells vs true sz))
 (hc:(Nat.beq (bO (cellsOf v)) n&&Nat.ble (o+n) (bO vs)&&dG (cellsOf v))=true)(hws:cg vs o (cellsOf v)=ws)(hlt:b<h.next)(hrs:bF (h.wr base b (.cells ws true sz)) base [b] mask rs=some rs')
 (H:WD T base ops bf Q is rs' (cD e dst (.tuple #[])) (h.wr base b (.cells ws true sz))):WD T base ops bf Q (i::is) rs e h:=
 qi ho hm he hw rfl (gV (h:={h with log:=[]}) hx hy hb hc hws) (EM hlt _) (th hlt _) hrs H
theorem Bh{base:Nat}{rnd:Option Nat}{Q:XQ}{e:Env}{E0:Env→Env}{ds:Dfs}{h:Heap}{a b:aU}{P:Heap→Prop}(H1:WE T base rnd a (fun x e' ds' h'=>x= .normal∧(∃r,e'=E0 r)∧ds'=[]∧P h') e ds h)(H2:∀r h',P h'→WE T base rnd b Q (E0 r) [] h'):WE T base rnd (.seq a b) Q e ds h:=by
 refine an (H1.mono ?_)
 rintro x e' ds' h' ⟨rfl,⟨r,rfl⟩,rfl,hp⟩
 exact bH (H2 r h' hp)
theorem cH{base:Nat}{rnd:Option Nat}{Q:XQ}{e:Env}{E0:Env}{ds:Dfs}{h:Heap}{a b:aU}{P:Heap→Prop}(H1:WE T base rnd a (fun x e' ds' h'=>x= .normal∧e'=E0∧ds'=[]∧P h') e ds h)(H2:∀h',P h'→WE T base rnd b Q E0 [] h'):WE T base rnd (.seq a b) Q e ds h:=by
 refine an (H1.mono ?_)
 rintro x e' ds' h' ⟨rfl,rfl,rfl,hp⟩
 exact bH (H2 h' hp)
theorem WF.gF{h:Heap}(w:WF h){x:Nat}{o:bK}(hx:h.get x=some o):x<h.next:=by
 refine w.lt x (Classical.byContradiction fun hn=> ?_)
 have:=CD hn
 rw[show eO h.bW x=h.get x from rfl,hx]at this
 cases this
end Go.A
end
section
namespace Go.A
variable {T:Nat→Option af} {base:Nat} {rnd:Option Nat} {Q:XQ} {e:Env} {ds:Dfs} {h:Heap} {os:List bB} {dst:Option Nat} {v:Value} {x y:Operand}
theorem yW{op:BinOp}{a b:Value}(H:WO T base rnd Q os (cD e dst v) ds h)(hx:ev h e x=some a:=by exact rfl)(hy:ev h e y=some b:=by exact rfl)(hv:aA op a b=some v:=by with_reducible assumption):WO T base rnd Q (⟨dst, .bin (.num op) x y,none⟩::os) e ds h:=ah (uF hx hy hv) H
theorem yV{n b o sz:Nat}{vs l:List Value}{own:Bool}(H:WO T base rnd Q os (cD e dst (.agg l.toArray)) ds h)(hx:ev h e x=some (.pointer (some ⟨b,o,none⟩)):=by exact rfl)(hb:h.get b=some (.cells vs own sz):=by assumption)(hv:bT n (bS o vs)=l:=by assumption)(hl:Nat.beq (bO l) n=true:=by assumption):WO T base rnd Q (⟨dst, .load (some n) x,none⟩::os) e ds h:=ah (dK hx hb hv hl) H
theorem yI{size b o len cap i:Nat}{k:IntKind}(H:WO T base rnd Q os (cD e dst (.pointer (some ⟨b,o+i*size,none⟩))) ds h)(hx:ev h e x=some (.slice (some ⟨b,o,none⟩) len cap):=by exact rfl)(hy:ev h e y=some (.int k (i:Nat)):=by exact rfl)(hi:i<len:=by omega):WO T base rnd Q (⟨dst, .aQ size x y,none⟩::os) e ds h:=ah (xK hx hy hi) H
section
variable {ops:List bB} {bf:List Nat} {rs:List Rec} {R:Env→Heap→Prop} {i mask:Nat} {is:List Nat} {g:Option (Nat×Bool)} {er:Env}
theorem qW{op:BinOp}{a b:Value}(H:WD T base ops bf R is (⟨i,⟨dst, .bin (.num op) x y,g⟩,er,v, .quiet⟩::rs) (cD e dst v) h)(ho:bD ops i=some ⟨dst, .bin (.num op) x y,g⟩:=by exact rfl)(hm:bD bf i=some mask:=by exact rfl)(he:cu e (cQ ⟨dst, .bin (.num op) x y,g⟩)=er:=by exact rfl)(hw:bY er g=some true:=by exact rfl)(hx:ev h er x=some a:=by exact rfl)(hy:ev h er y=some b:=by exact rfl)(hv:aA op a b=some v:=by with_reducible assumption):WD T base ops bf R (i::is) rs e h:=aF ho hm he hw rfl rfl (uF hx hy hv) H
theorem qV{n b o sz:Nat}{vs l:List Value}{own:Bool}(H:WD T base ops bf R is (⟨i,⟨dst, .load (some n) x,g⟩,er, .agg l.toArray, .quiet⟩::rs) (cD e dst (.agg l.toArray)) h)(ho:bD ops i=some ⟨dst, .load (some n) x,g⟩:=by exact rfl)(hm:bD bf i=some mask:=by exact rfl)(he:cu e (cQ ⟨dst, .load (some n) x,g⟩)=er:=by exact rfl)(hw:bY er g=some true:=by exact rfl)(hx:ev h er x=some (.pointer (some ⟨b,o,none⟩)):=by exact rfl)(hb:h.get b=some (.cells vs own sz):=by assumption)(hv:bT n (bS o vs)=l:=by assumption)(hl:Nat.beq (bO l) n=true:=by assumption):WD T base ops bf R (i::is) rs e h:=aF ho hm he hw rfl rfl (dK hx hb hv hl) H
theorem qK{b o sz:Nat}{vs:List Value}{own:Bool}(H:WD T base ops bf R is (⟨i,⟨dst, .load none x,g⟩,er,v, .quiet⟩::rs) (cD e dst v) h)(ho:bD ops i=some ⟨dst, .load none x,g⟩:=by exact rfl)(hm:bD bf i=some mask:=by exact rfl)(he:cu e (cQ ⟨dst, .load none x,g⟩)=er:=by exact rfl)(hw:bY er g=some true:=by exact rfl)(hx:ev h er x=some (.pointer (some ⟨b,o,none⟩)):=by exact rfl)(hb:h.get b=some (.cells vs own sz):=by assumption)(hv:bD vs o=some v:=by assumption):WD T base ops bf R (i::is) rs e h:=aF ho hm he hw rfl rfl (dD hx hb hv) H
theorem qI{size b o len cap j:Nat}{k:IntKind}(H:WD T base ops bf R is (⟨i,⟨dst, .aQ size x y,g⟩,er, .pointer (some ⟨b,o+j*size,none⟩), .quiet⟩::rs) (cD e dst (.pointer (some ⟨b,o+j*size,none⟩))) h)(ho:bD ops i=some ⟨dst, .aQ size x y,g⟩:=by exact rfl)(hm:bD bf i=some mask:=by exact rfl)(he:cu e (cQ ⟨dst, .aQ size x y,g⟩)=er:=by exact rfl)(hw:bY er g=some true:=by exact rfl)(hx:ev h er x=some (.slice (some ⟨b,o,none⟩) len cap):=by exact rfl)(hy:ev h er y=some (.int k (j:Nat)):=by exact rfl)(hi:j<len:=by omega):WD T base ops bf R (i::is) rs e h:=aF ho hm he hw rfl rfl (xK hx hy hi) H
theorem qJ{size b o len j:Nat}{k:IntKind}(H:WD T base ops bf R is (⟨i,⟨dst, .bE len size x y,g⟩,er, .pointer (some ⟨b,o+j*size,none⟩), .quiet⟩::rs) (cD e dst (.pointer (some ⟨b,o+j*size,none⟩))) h)(ho:bD ops i=some ⟨dst, .bE len size x y,g⟩:=by exact rfl)(hm:bD bf i=some mask:=by exact rfl)(he:cu e (cQ ⟨dst, .bE len size x y,g⟩)=er:=by exact rfl)(hw:bY er g=some true:=by exact rfl)(hx:ev h er x=some (.pointer (some ⟨b,o,none⟩)):=by exact rfl)(hy:ev h er y=some (.int k (j:Nat)):=by exact rfl)(hi:j<len:=by omega):WD T base ops bf R (i::is) rs e h:=aF ho hm he hw rfl rfl (fk hx hy hi) H
theorem qO{op:AOp}(H:WD T base ops bf R is (⟨i,⟨dst,op,g⟩,er, .tuple #[], .skip⟩::rs) (cD e dst (.tuple #[])) h)(ho:bD ops i=some ⟨dst,op,g⟩:=by exact rfl)(hm:bD bf i=some mask:=by exact rfl)(he:cu e (cQ ⟨dst,op,g⟩)=er:=by exact rfl)(hw:bY er g=some false:=by exact rfl):WD T base ops bf R (i::is) rs e h:=My ho hm he hw H
end
end Go.A
end
section
namespace Go.A
variable {T:Nat→Option af} {base:Nat} {rnd:Option Nat} {Q:XQ} {e:Env} {ds:Dfs} {h:Heap}
structure YQW (px:br) (l:Nat) (L LX:bK) (W:Nat→Prop) (n:Nat) (R S:Heap→Prop) (x:br) (e:Env) (ds:Dfs) (h3:Heap):Prop where
 busy:∃o,h3.get l=some o∧busy o=true
 log:∀z∈h3.log,W z
 rel:(x= .normal∧∀h5:Heap,n≤h5.next→(∀z,z<n→z≠l→h5.get z=h3.get z)→h5.get l=some L→R h5)∨(x=px∧∀h5:Heap,h5.next=h3.next→(∀z,z≠l→h5.get z=h3.get z)→h5.get l=some LX→S h5)
structure YAW (px:br) (T:Nat→Option af) (l:Nat) (e:Env) (ps:List Nat) (asg body:aU) (W:Nat→Prop) (n:Nat) (R S:Heap→Prop) (x:br) (e2:Env) (ds2:Dfs) (h2:Heap):Prop where
 x:x= .normal
 loop:h2.get l=some (.loop e ps asg body 0 .normal)
 body:WE T n (some l) body (YQW px l (.loop e ps asg body 0 .normal) (.loop e ps asg body 2 px) W n R S) e2 ds2 (h2.wr 0 l (.loop e ps asg body 1 .normal))
theorem FW.MO(hp:bI T){px:br}(hpx:px= .ret∨∃i,px= .exit i){l:Nat}{W:Nat→Prop}{e e1:Env}{ps:List Nat}{asg body:aU}{args:List Value}{R S:Heap→Prop}(hl:h.get l=some (.loop e ps asg body 0 .normal))(he:iO e ps args=some e1)(hlN:l<h.next)(hlo:W l)
 (H:WE T h.next (some l) asg (YAW px T l e ps asg body W h.next R S) e1 [] h):
 FW T (.yield l) args h fun r h'=>(∀z∈h'.log,W z)∧(r= .ret (.bool true)∧R h'∨r= .ret (.bool false)∧l∈h'.log∧S h'):=by
 obtain⟨x,e2,ds2,h2,⟨m,hm⟩,⟨rfl,hl2,H2⟩⟩:=H.ok
 obtain⟨x3,e3,ds3,h3,⟨m3,hm3⟩,⟨⟨o,ho,hb⟩,hlog,hrel⟩⟩:=H2.ok
 have hnr:notReady (h2.get l)=false:=by rw[hl2];rfl
 have hloop:∃a b c d p,o= .loop a b c d 1 p:=by
  unfold A.busy at hb
  split at hb
  ·exact⟨_,_,_,_,_,rfl⟩
  ·cases hb
 obtain⟨oa,ob,oc,od,op,rfl⟩:=hloop
 rcases hrel with⟨rfl,hrel⟩|⟨rfl,hrel⟩
 ·have A1:=(eC.all hp m).exec _ _ _ _ _ _ _ _ _ _ (hm m (Nat.le_refl _)) (Nat.le_refl _)
  have A2:=(eC.all hp m3).exec _ _ _ _ _ _ _ _ _ _ (hm3 m3 (Nat.le_refl _)) A1.next
  have A3:AS 0 h (h3.wr 0 l (.loop e ps asg body 0 .normal)):=((A1.zero.trans (AS.wr 0 h2 l _)).trans A2.zero).trans (AS.wr 0 h3 l _)
  obtain⟨g1,g2,g3⟩:=qB (v:= .bool true) A3
  refine⟨.ret (.bool true),gcA h (h3.wr 0 l (.loop e ps asg body 0 .normal)) (.bool true),⟨m+m3+1,fun n hn=> ?_⟩,?_, .inl ⟨rfl,?_⟩⟩
  ·obtain⟨k,rfl⟩:∃k,n=k+1:=⟨n-1,by omega⟩
   have q1:=hm k (by omega)
   have q2:=hm3 k (by omega)
   rw[←wr0]at q2
   simp only[fC,hl,he,q1,hnr,cond_false,q2,ho]
   rfl
  ·rw[g3];exact hlog
  ·refine hrel _ g2 (fun z hz hne=>(g1 z hz).trans (Heap.eG hne)) ((g1 l hlN).trans ?_)
   exact Heap.aJ ho
 ·refine⟨.ret (.bool false),h3.wr h.next l (.loop e ps asg body 2 x3),⟨m+m3+1,fun n hn=> ?_⟩,?_, .inr ⟨rfl,pG hlN,?_⟩⟩
  ·obtain⟨k,rfl⟩:∃k,n=k+1:=⟨n-1,by omega⟩
   have q1:=hm k (by omega)
   have q2:=hm3 k (by omega)
   rw[←wr0]at q2
   rcases hpx with rfl|⟨i,rfl⟩<;>simp only[fC,hl,he,q1,hnr,cond_false,q2,ho]
  ·intro z hz
   rcases dJ hz with rfl|hz
   ·exact hlo
   ·exact hlog z hz
  ·exact hrel _ rfl (fun z hne=>Heap.eG hne) (Heap.aJ ho)
structure Q3 {α:Type} (px:br) (T:Nat→Option af) (W:Nat→Prop) (N l:Nat) (V:α→List Value) (all:List α) (P:List α→Heap→Prop) (S:Heap→Prop):Prop where
 nS:∀done x H,x∈all→Rdy H→N≤H.next→P done H→FW T (.yield l) (V x) H fun r H'=>(∀z∈H'.log,W z)∧(r= .ret (.bool true)∧P (done++[x]) H'∨r= .ret (.bool false)∧l∈H'.log∧S H')
 eZ:∀done H H',P done H→N≤H'.next→(∀x,x<N→H'.get x=H.get x)→P done H'
 Ds:∀H m,S H→S {H with log:=m}
 vm:∀H,S H→∃a b c d,H.get l=some (.loop a b c d 2 px)
 low:∀z,W z→z<N
def GrW(T:Nat→Option af)(f:Nat)(args:List Value)(h:Heap)(W:Nat→Prop)(P S:Heap→Prop):Prop:=CW T f args h fun r h'=>Ws W h h'∧∃v,r= .ret v∧(P h'∨S h')
structure KX (rs:List (Nat×Option (Option Nat))) (W:Nat→Prop) (l:Nat) (P S:Heap→Prop) (x:br) (e:Env) (ds:Dfs) (h1:Heap):Prop where
 ok:(x= .normal∨x= .ret)∧ds=[]∧(∀z∈h1.log,W z)∧(∃vs,cm h1 e rs=some vs)∧(P h1∨l∈h1.log∧S h1)
theorem xZ{rs:List (Nat×Option (Option Nat))}{W:Nat→Prop}{l:Nat}{P S:Heap→Prop}{vs:List Value}(hl:∀z∈h.log,W z)(hr:cm h e rs=some vs)(hm:l∈h.log)(hq:S h):KX rs W l P S .ret e [] h:=⟨⟨.inr rfl,rfl,hl,⟨vs,hr⟩, .inr ⟨hm,hq⟩⟩⟩
theorem EJ{rs:List (Nat×Option (Option Nat))}{W:Nat→Prop}{l:Nat}{P S:Heap→Prop}{vs:List Value}(hl:∀z∈h.log,W z)(hr:cm h e rs=some vs)(hq:P h):KX rs W l P S .normal e [] h:=⟨⟨.inl rfl,rfl,hl,⟨vs,hr⟩, .inl hq⟩⟩
theorem GrW.of(hp:bI T){px:br}{f:Nat}{args:List Value}{c:aU}{rs:List (Nat×Option (Option Nat))}{W:Nat→Prop}{l:Nat}{P S:Heap→Prop}(hf:T f=some (.code c rs))(hlN:l<h.next)
 (hP:∀h1 h2:Heap,h.next≤h2.next→(∀x,x<h.next→h2.get x=h1.get x)→P h1→P h2)(hS:∀H,S H→∃a b c d,H.get l=some (.loop a b c d 2 px))(H:WE T h.next none c (KX rs W l P S) (ei 0 args) [] h):GrW T f args h W P S:=by
 obtain⟨x,e,ds,h1,⟨m,hm⟩,⟨hx,rfl,hl,⟨vs,hvs⟩,hq⟩⟩:=H.ok
 have hA:=(eC.all hp m).exec _ _ _ _ _ _ _ _ _ _ (hm m (Nat.le_refl _)) (Nat.le_refl _)
 obtain⟨g1,g2,g3,g4⟩:=pR (v:=fh vs) hA
 have key:Ws W h (gcA h h1 (fh vs))∧∃v,Res.ret (fh vs)= .ret v∧(P (gcA h h1 (fh vs))∨S (gcA h h1 (fh vs))):=by
  refine⟨Ws.oK (hA.gc' _) (by rw[g3];exact hl),_,rfl,?_⟩
  rcases hq with hq|⟨hml,hq⟩
  ·exact .inl (hP _ _ g2 g1 hq)
  ·obtain⟨a,b,c,d,hlp⟩:=hS _ hq
   rw[vQ hlp hlN hml]
   exact .inr hq
 refine CW.code hf ⟨x,e,[],h1,⟨m,hm⟩,?_⟩
 unfold vO
 rcases hx with rfl|rfl<;>(simp only[hvs];exact key)
theorem merge_lt{base z:Nat}:∀{m l:List Nat},z∈aC base l m→z∈l∨z∈m∧z<base
 |[],l,h=> .inl h
 |b::m,l,h=>by
  simp only[aC]at h
  rcases merge_lt (m:=m) h with h|⟨h,hb⟩
  ·revert h
   rw[cond_eq_ite,cond_eq_ite]
   split
   ·rename_i hlt
    split
    ·exact .inl
    ·intro h
     rcases List.mem_cons.1 h with rfl|h
     ·exact .inr ⟨List.mem_cons_self ..,by rw[blt_eq]at hlt;simpa using hlt⟩
     ·exact .inl h
   ·exact .inl
  ·exact .inr ⟨List.mem_cons_of_mem _ h,hb⟩
theorem DK{px:br}{h1:Heap}{f:Operand}{g:Nat}{W:Nat→Prop}{first cap:Array Value}{ps:List Nat}{asg body:aU}{P S:Heap→Prop}(hr:nL h1 rnd=true)(hf:ev h1 e f=some (.func (.func g) first cap))(hnc:gK (T g)=false)
 (hbase:base≤h1.next)(w1:WF h1)
 (HG:GrW T g (dO first.toList (dO [.func (.yield h1.next) #[] #[]] cap.toList)) {h1.push (.loop e ps asg body 0 .normal)with log:=[]} W P S)
 (hP:∀H,P H→∃a b c d,H.get h1.next=some (.loop a b c d 0 .normal))(hS:∀H,S H→∃a b c d,H.get h1.next=some (.loop a b c d 2 px))
 (K1:∀h2 h3:Heap,(∀z∈h3.log,z∈h1.log∨W z∧z<base)→WF h3→h1.next<h3.next→h3.next=h2.next→(∀z,z≠h1.next→h3.get z=h2.get z)→(∀z,z<h1.next→¬W z→h3.get z=h1.get z)→P h2→Q .normal e ds h3)
 (K2:∀h2 h3:Heap,(∀z∈h3.log,z∈h1.log∨W z∧z<base)→WF h3→h1.next<h3.next→h3.next=h2.next→(∀z,z≠h1.next→h3.get z=h2.get z)→(∀z,z<h1.next→¬W z→h3.get z=h1.get z)→S h2→Q px e ds h3):WE T base rnd (.rangeFunc f ps asg body) Q e ds h1:=by
 refine um hr hf hnc (CW.mono HG ?_)
 rintro r h2 ⟨hk,v,rfl,hq⟩
 have q1:∀z∈(({h2 with log:=aC base h1.log h2.log}:Heap).wr base h1.next .dead).log,z∈h1.log∨W z∧z<base:=by
  rw[Heap.aL (by omega)]
  intro z hz
  rcases merge_lt (show z∈aC base h1.log h2.log from hz)with hz|⟨hz,hb⟩
  ·exact .inl hz
  ·rcases hk.log z hz with q|q
   ·cases q
   ·exact .inr ⟨q,hb⟩
 have q2:WF (({h2 with log:=aC base h1.log h2.log}:Heap).wr base h1.next .dead):=((hk.wf ((w1.push _).log _)).log _).as (AS.wr _ _ _ _)
 have q3:h1.next<h2.next:=hk.next
 have q4:∀z,z≠h1.next→(({h2 with log:=aC base h1.log h2.log}:Heap).wr base h1.next .dead).get z=h2.get z:=fun z hne=>Heap.eG hne
 have q5:∀z,z<h1.next→¬W z→(({h2 with log:=aC base h1.log h2.log}:Heap).wr base h1.next .dead).get z=h1.get z:=fun z hz hn=>(q4 z (by omega)).trans ((hk.old z (Nat.lt_succ_of_lt hz) hn).trans (Heap.iX hz))
 rcases hq with hq|hq
 ·obtain⟨a,b,c,d,hl⟩:=hP _ hq
  exact⟨_,rfl,_,_,_,_,_,_,hl,rfl,K1 h2 _ q1 q2 q3 rfl q4 q5 hq⟩
 ·obtain⟨a,b,c,d,hl⟩:=hS _ hq
  exact⟨_,rfl,_,_,_,_,_,_,hl,rfl,K2 h2 _ q1 q2 q3 rfl q4 q5 hq⟩
structure QX (h:Heap) (rs:List (Nat×Option (Option Nat))) (S:Nat→Prop) (Q:Value→Heap→Prop) (x:br) (e:Env) (ds:Dfs) (h1:Heap):Prop where
 ok:(x= .normal∨x= .ret)∧ds=[]∧(∀z∈h1.log,S z)∧∃vs,cm h1 e rs=some vs∧Q (fh vs) h1∧((∃q,q<h.next∧q∈h1.log∧Br h1 q)∨∀h2:Heap,h.next≤h2.next→(∀x,x<h.next→h2.get x=h1.get x)→Q (fh vs) h2)
structure WsL (base:Nat) (S:Nat→Prop) (h h':Heap):Prop extends Ws S h h' where
 QA:∀z∈h'.log,z∈h.log∨S z∧z<base
 Q6:∀z∈h.log,z∈h'.log
theorem Ws.Nw{S:Nat→Prop}{h h2:Heap}(x:Ws S {h with log:=[]} h2):WsL base S h {h2 with log:=aC base h.log h2.log}:=
 ⟨x.call,fun z hz=>(merge_lt (show z∈aC base h.log h2.log from hz)).imp id fun⟨q,hb⟩=>⟨(x.log z q).elim (fun q=>by cases q) id,hb⟩,fun z hz=>o5 (show z∈h.log from hz)⟩
theorem FW.NL{f:Nat}{args:List Value}{S:Nat→Prop}{Q':Value→Heap→Prop}{K:List Rec→Env→Heap→Prop}{mask:Nat}{rs:List Rec}{dst:Option Nat}(H:Gs T f args {h with log:=[]} S Q')(hlog:∀v (h':Heap) l,Q' v h'→Q' v {h' with log:=l})
 (hK:∀v h' lg,WsL base S h h'→(∀z∈lg,S z)→Q' v h'→∃rs',bF h' base lg mask rs=some rs'∧K rs' (cD e dst v) h'):FW T (.func f) args {h with log:=[]} (KD K base mask rs dst e h.log):=by
 refine .func (CW.mono H ?_)
 rintro r h2 ⟨hx,v,rfl,hq⟩
 obtain⟨rs',q1,q2⟩:=hK v {h2 with log:=aC base h.log h2.log} h2.log hx.Nw (fun z hz=>(hx.log z hz).elim (fun q=>by cases q) id) (hlog v h2 _ hq)
 refine⟨?_⟩
 show kD K base mask rs dst e h.log (.ret v) h2
 unfold kD
 simp only[q1]
 exact q2
theorem Ky(l:Nat):je (.func (.yield l) #[] #[]) (.func (.yield l) #[] #[])=true:=by simp[je,jk]
structure HU {α:Type} (px:br) (T:Nat→Option af) (W:Nat→Prop) (N l:Nat) (V:α→List Value) (all:List α) (P:List α→Heap→Prop) (S:Heap→Prop):Prop where
 nS:∀done x H,done++[x]<+:all→Rdy H→N≤H.next→P done H→FW T (.yield l) (V x) H fun r H'=>(∀z∈H'.log,W z)∧(r= .ret (.bool true)∧P (done++[x]) H'∨r= .ret (.bool false)∧l∈H'.log∧S H')
 eZ:∀done H H',P done H→N≤H'.next→(∀x,x<N→H'.get x=H.get x)→P done H'
 Ds:∀H m,S H→S {H with log:=m}
 vm:∀H,S H→∃a b c d,H.get l=some (.loop a b c d 2 px)
 low:∀z,W z→z<N
theorem HU.Kj(hp:bI T){α:Type}{px:br}{W:Nat→Prop}{N l:Nat}{V:α→List Value}{all:List α}{P:List α→Heap→Prop}{S:Heap→Prop}(Y:HU px T W N l V all P S){K:List Rec→Env→Heap→Prop}{mask:Nat}{rs:List Rec}{dst:Option Nat}{done:List α}{x:α}(hx:done++[x]<+:all)(hw:WF h)(hN:N≤h.next)(hlb:l<base)(hP:P done h)
 (hK:∀h' lg,Ws W h h'→(∀z∈lg,W z)→P (done++[x]) h'→∃rs',bF h' base lg mask rs=some rs'∧K rs' (cD e dst (.bool true)) h')
 (hX:∀h' lg,Ws W h h'→(∀z∈lg,W z)→l∈h'.log→S h'→∃rs',bF h' base lg mask rs=some rs'∧K rs' (cD e dst (.bool false)) h'):FW T (.yield l) (V x) {h with log:=[]} (KD K base mask rs dst e h.log):=by
 refine FW.mono' (FW.Bi hp (Y.nS done x _ hx (.of hw) hN (Y.eZ _ _ _ hP hN fun _ _=>rfl)) rfl) ?_
 rintro r h2 ⟨hA,hl,hq⟩
 have hk:Ws W {h with log:=[]} h2:=Ws.oK hA hl
 rcases hq with⟨rfl,hq⟩|⟨rfl,hm,hq⟩
 ·obtain⟨rs',q1,q2⟩:=hK {h2 with log:=aC base h.log h2.log} h2.log hk.call hl (Y.eZ _ _ _ hq (Nat.le_trans hN hA.next) fun _ _=>rfl)
  refine⟨?_⟩
  show kD K base mask rs dst e h.log (.ret (.bool true)) h2
  unfold kD
  simp only[q1]
  exact q2
 ·obtain⟨rs',q1,q2⟩:=hX {h2 with log:=aC base h.log h2.log} h2.log hk.call hl (mem_merge hlb hm) (Y.Ds _ _ hq)
  refine⟨?_⟩
  show kD K base mask rs dst e h.log (.ret (.bool false)) h2
  unfold kD
  simp only[q1]
  exact q2
end Go.A
end
