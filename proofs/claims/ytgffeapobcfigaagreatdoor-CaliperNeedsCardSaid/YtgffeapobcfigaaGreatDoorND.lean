/- How a run is reckoned. -/
import Derived.Test.YtgffeapobcfigaaGreatDoorNC
import Derived.Test.YtgffeapobcfigaaGreatDoorNA
import Derived.Lib.Bytealg
import Derived.Below
import Derived.Test.YtgffeapobcfigaaGreatDoorNE
set_option linter.all false
section
namespace Go.A
variable {P:Program}
def Tr.all(Q:Nat→ah→Prop):Tr→Prop
 | .nil=>True
 | .node l k v r=>l.all Q∧Q k v∧r.all Q
theorem Tr.all_nil{Q:Nat→ah→Prop}:Tr.all Q .nil:=trivial
theorem Tr.aa{Q:Nat→ah→Prop}{l r:Tr}{k:Nat}{v:ah}(h1:l.all Q)(h2:Q k v)(h3:r.all Q):Tr.all Q (.node l k v r):=⟨h1,h2,h3⟩
theorem Tr.sP{Q:Nat→ah→Prop}:∀{t:Tr} {n:Nat} {v:ah},t.all Q→t.get n=some v→Q n v
 | .nil,_,_,_,h=>by cases h
 | .node l k v r,n,u,ha,h=>by
   simp only[Tr.get,cond_eq_ite,beq_eq,decide_eq_true_eq]at h
   split at h
   ·rename_i e;subst e;cases h;exact ha.2.1
   ·split at h
    ·exact Tr.sP ha.1 h
    ·exact Tr.sP ha.2.2 h
def xR(P:Program)(f:Nat)(p:List Value→Heap→Option (Value×Heap)):Prop:=∀args h v h',p args h=some (v,h')→h.log=[]→AS h.next h h'∧∀μ w args',R P μ h w→LR μ args args'→mZ P (gJ P μ h w (.ret v) h') ((callFunc f args'.toArray).run P w)
inductive Entry (P:Program) (k:Nat):ah→Prop
 |code {c rs fn ks}:P.funcs[k]? =some fn→aK P fn ks=some (.code c rs)→Entry P k (.code c rs)
 |jV {p}:xR P k p→Entry P k (.jV p)
theorem Entry.of{k:Nat}{fn:Func}{a:ah}{ks:List (List Nat)}(h1:P.funcs[k]? =some fn)(h2:aK P fn ks=some a):Entry P k a:=by
 have h3:=h2
 unfold aK at h3
 split at h3
 ·split at h3
  ·cases h3
  ·split at h3
   ·cases h3;exact .code h1 h2
   ·cases h3
 ·cases h3
theorem oB{t:Tr}(hm:P.follows .mixedOrders=true)(h:t.all (Entry P)):dW P t.get where
 mixed:=hm
 code:=fun f c rs hf=>by
  have:=Tr.sP h hf
  cases this with
  |code h1 h2=>exact⟨_,_,h1,h2⟩
 jV:=fun f p args h0 v h' hf hp hl=>by
  have:=Tr.sP h hf
  cases this with
  |jV h1=>exact h1 args h0 v h' hp hl
theorem R.grow{μ:Mu}{h:Heap}{w w':World}(hR:R P μ h w)(hs:w.heap.size≤w'.heap.size)(hk:∀r,r<w.heap.size→w'.heap[r]? =w.heap[r]?)(hsm:Same w w'):R P μ h w'∧St μ h w μ h w':=
 ⟨⟨hR.big,fun g o h1 h2=>let⟨k,a,b,c,x⟩:=hR.ki g o h1 h2;⟨k,a,b,c,x.get (hk _ (hR.dom _ _ a).2)⟩,fun b o hb=>OR.mono (fun _ _ h=>h) rfl (fun k hk'=>hk _ (hR.dom _ _ hk').2) (hR.obj b o hb),hR.lt,fun b k hb=>⟨(hR.dom b k hb).1,Nat.lt_of_lt_of_le (hR.dom b k hb).2 hs⟩,hR.jR⟩,
   ⟨fun _ _=>rfl,hs,fun r hr _=>hk r hr,fun _ _ h=>h,fun r L h=>⟨L,(hk r (Array.getElem?_eq_some_iff.1 h).1).trans h, .refl L⟩,hsm⟩⟩
theorem Cz{f:Nat}{fn:Func}(hf:P.funcs[f]? =some fn)(hn:fn.name≠ "runtime.NumGoroutine")(hb:fn.body.isSome=true)(args:Array Value)(w:World):(callFunc f args).run P w= .ok (.enter f args) w:=by
 cases hb':fn.body with
 |none=>rw[hb']at hb;cases hb
 |some b=>simp[callFunc,program,Sem.run,hf,hb',hn]
theorem jI{μ:Mu}{h:Heap}{w:World}{f:Nat}{fn:Func}(hf:P.funcs[f]? =some fn)(hn:fn.name≠ "runtime.NumGoroutine")(hb:fn.body.isSome=true){args:Array Value}{Q:Ending→World→Prop}(hc:Calls P f args w Q)
 {res:Res}{h':Heap}(hq:∀e w',Q e w'→gJ P μ h w res h' e w'):mZ P (gJ P μ h w res h') ((callFunc f args).run P w):=by
 rw[Cz hf hn hb]
 exact callsIn_wide.2 (hc.mono hq)
theorem LR.two{μ:Mu}{x y:Value}{l:List Value}(h:LR μ [x,y] l):∃x' y',l=[x',y']∧VR μ x x'∧VR μ y y':=by
 cases h with
 |cons h1 h2=>cases h2 with
  |cons h2 h3=>cases h3;exact⟨_,_,rfl,h1,h2⟩
end Go.A
end
section
namespace Go.A
variable {T:Nat→Option ah}
def Ev(T:Nat→Option ah)(base:Nat)(rnd:Option Nat)(c:bn)(e:Env)(ds:Dfs)(h:Heap)(r:bA×Env×Dfs×Heap):Prop:=∃m,∀n,m≤n→bZ T n base rnd c e ds h=some r
def EvO(T:Nat→Option ah)(base:Nat)(rnd:Option Nat)(ops:List aZ)(e:Env)(ds:Dfs)(h:Heap)(r:bA×Env×Dfs×Heap):Prop:=∃m,∀n,m≤n→gh T n base rnd ops e ds h=some r
def EvD(T:Nat→Option ah)(base:Nat)(ops:List aZ)(is bf:List Nat)(rs:List Rec)(e:Env)(h:Heap)(r:bA×Env×Heap):Prop:=∃m,∀n,m≤n→eH T n base ops is bf rs e h=some r
def EvF(T:Nat→Option ah)(fn:Fn)(args:List Value)(h:Heap)(r:Res×Heap):Prop:=∃m,∀n,m≤n→gU T n fn args h=some r
def EvC(T:Nat→Option ah)(f:Nat)(args:List Value)(h:Heap)(r:Res×Heap):Prop:=∃m,∀n,m≤n→iE T n f args h=some r
def XW(T:Nat→Option ah)(base:Nat)(rnd:Option Nat)(c:bn)(e:Env)(ds:Dfs)(h:Heap)(Q:bA→Env→Dfs→Heap→Prop):Prop:=∃x e' ds' h',Ev T base rnd c e ds h (x,e',ds',h')∧Q x e' ds' h'
def FW(T:Nat→Option ah)(fn:Fn)(args:List Value)(h:Heap)(Q:Res→Heap→Prop):Prop:=∃r h',EvF T fn args h (r,h')∧Q r h'
def CW(T:Nat→Option ah)(f:Nat)(args:List Value)(h:Heap)(Q:Res→Heap→Prop):Prop:=∃r h',EvC T f args h (r,h')∧Q r h'
theorem XW.mono{base:Nat}{rnd:Option Nat}{c:bn}{e:Env}{ds:Dfs}{h:Heap}{Q Q':bA→Env→Dfs→Heap→Prop}(H:XW T base rnd c e ds h Q)(hq:∀x e ds h,Q x e ds h→Q' x e ds h):XW T base rnd c e ds h Q':=
 let⟨x,e',ds',h',h1,h2⟩:=H;⟨x,e',ds',h',h1,hq _ _ _ _ h2⟩
theorem CW.mono{f:Nat}{args:List Value}{h:Heap}{Q Q':Res→Heap→Prop}(H:CW T f args h Q)(hq:∀r h,Q r h→Q' r h):CW T f args h Q':=
 let⟨r,h',h1,h2⟩:=H;⟨r,h',h1,hq _ _ h2⟩
abbrev XQ:=bA→Env→Dfs→Heap→Prop
def kR(keep:List Nat)(Q:XQ):XQ:=fun x e ds h=>match x with
 | .normal=>Q .normal (bG e keep) ds h
 |x=>Q x e ds h
def kB(id:Nat)(Q:XQ):XQ:=fun x e ds h=>match x with
 | .exit i=>(i=id→Q .normal e ds h)∧(i≠id→Q (.exit i) e ds h)
 |x=>Q x e ds h
def kS(K:Env→Dfs→Heap→Prop)(Q:XQ):XQ:=fun x e ds h=>match x with
 | .normal=>K e ds h
 |x=>Q x e ds h
def kO(K:Env→Dfs→Heap→Prop)(Q:XQ)(base:Nat)(dst:Option Nat)(e:Env)(ds:Dfs)(log:List Nat):Res→Heap→Prop:=fun r h2=>match r with
 | .ret v=>K (bO e dst v) ds {h2 with log:=aD base log h2.log}
 | .panic v=>Q (.panic v) e ds {h2 with log:=aD base log h2.log}
def kD(K:List Rec→Env→Heap→Prop)(base:Nat)(mask:Nat)(rs:List Rec)(dst:Option Nat)(e:Env)(log:List Nat):Res→Heap→Prop:=fun r h2=>match r with
 | .ret v=>match bB {h2 with log:=aD base log h2.log} base h2.log mask rs with
   |some rs'=>K rs' (bO e dst v) {h2 with log:=aD base log h2.log}
   |none=>False
 | .panic _=>False
def wpA(T:Nat→Option ah)(base:Nat)(rnd:Option Nat)(wpO:Env→Dfs→Heap→Prop)(Q:XQ)(dst:Option Nat)(e:Env)(ds:Dfs)(h:Heap):Option cF→Prop
 |some (.val v h')=>wpO (bO e dst v) ds h'
 |some (.call fn args h')=>FW T fn args {h' with log:=[]} (kO wpO Q base dst e ds h'.log)
 |some (.jg f args)=>rnd=none∧wpO (bO e dst (.tuple #[])) ((f,args)::ds) h
 |some (.panic v h')=>Q (.panic v) e ds h'
 |_=>False
def wpG(A:Prop)(B:Prop):Option Bool→Prop
 |some c=>(c=false→B)∧(c=true→A)
 |none=>False
def wpO(T:Nat→Option ah)(base:Nat)(rnd:Option Nat)(Q:XQ):List aZ→Env→Dfs→Heap→Prop
 |[],e,ds,h=>Q .normal e ds h
 |o::os,e,ds,h=>wpG (wpA T base rnd (wpO T base rnd Q os) Q o.dst e ds h (aop h base e o.op)) (wpO T base rnd Q os (bO e o.dst (.tuple #[])) ds h) (bJ e o.guard)
def NC(T:Nat→Option ah)(base:Nat)(wpD:List Rec→Env→Heap→Prop)(i:Nat)(o:aZ)(mask:Nat)(rs:List Rec)(er e:Env)(h:Heap):Prop:=
 match ja o.op with
 |true=>
  match aop h base er o.op with
  |some (.val v h')=>
   match dw o.op with
   |true=>mj h' base rs=true∧wpD (⟨i,o,er,v, .made h.next⟩::rs) (bO e o.dst v) h'
   |false=>h'.next=h.next∧wpD (⟨i,o,er,v, .quiet⟩::rs) (bO e o.dst v) h
  |_=>False
 |false=>
  match aop {h with log:=[]} h.next er o.op with
  |some (.val v h2)=>match bB {h2 with log:=aD base h.log h2.log} base h2.log mask rs with
   |some rs'=>wpD rs' (bO e o.dst v) {h2 with log:=aD base h.log h2.log}
   |none=>False
  |some (.call fn args _)=>FW T fn args {h with log:=[]} (kD wpD base mask rs o.dst e h.log)
  |_=>False
def wpD(T:Nat→Option ah)(base:Nat)(ops:List aZ)(bf:List Nat)(Q:Env→Heap→Prop):List Nat→List Rec→Env→Heap→Prop
 |[],_,e,h=>Q e h
 |i::is,rs,e,h=>
  match cm ops i,cm bf i with
  |some o,some mask=>wpG (NC T base (wpD T base ops bf Q is) i o mask rs (bG e (cC o)) e h) (wpD T base ops bf Q is (⟨i,o,bG e (cC o), .tuple #[], .skip⟩::rs) (bO e o.dst (.tuple #[])) h) (bJ (bG e (cC o)) o.guard)
  |_,_=>False
def wpC(A B:Prop):Option Value→Prop
 |some (.bool t)=>(t=true→A)∧(t=false→B)
 |_=>False
def wpE(T:Nat→Option ah)(base:Nat)(rnd:Option Nat):bn→XQ→Env→Dfs→Heap→Prop
 | .skip,Q,e,ds,h=>Q .normal e ds h
 | .region ops keep,Q,e,ds,h=>wpO T base rnd (kR keep Q) ops e ds h
 | .draw ops order bf keep,Q,e,ds,h=>wpD T base ops bf (fun e' h'=>Q .normal (bG e' keep) ds h') order [] e h
 | .seq a b,Q,e,ds,h=>wpE T base rnd a (kS (wpE T base rnd b Q) Q) e ds h
 | .cond c a b,Q,e,ds,h=>wpC (wpE T base rnd a Q e ds h) (wpE T base rnd b Q e ds h) (ev h e c)
 | .block id b,Q,e,ds,h=>wpE T base rnd b (kB id Q) e ds h
 | .loop b,Q,e,ds,h=>XW T base rnd (.loop b) e ds h Q
 | .rangeFunc f ps a b,Q,e,ds,h=>XW T base rnd (.rangeFunc f ps a b) e ds h Q
 | .scope b,Q,e,ds,h=>wpE T base rnd b Q e ds h
 | .rangeMap o i x k ou nx pr o2 k2 b,Q,e,ds,h=>XW T base rnd (.rangeMap o i x k ou nx pr o2 k2 b) e ds h Q
 | .exit id,Q,e,ds,h=>Q (.exit id) e ds h
 | .ret,Q,e,ds,h=>Q .ret e ds h
theorem rJ{base:Nat}{rnd:Option Nat}{Q:XQ}:∀{ops:List aZ} {e:Env} {ds:Dfs} {h:Heap},wpO T base rnd Q ops e ds h→∃x e' ds' h',EvO T base rnd ops e ds h (x,e',ds',h')∧Q x e' ds' h'
 |[],e,ds,h,H=>⟨.normal,e,ds,h,⟨1,fun n hn=>by obtain⟨k,rfl⟩:∃k,n=k+1:=⟨n-1,by omega⟩;simp only[gh]⟩,H⟩
 |o::os,e,ds,h,H=>by
  simp only[wpO]at H
  unfold wpG at H
  split at H
  ·rename_i c hc
   cases c with
   |false=>
    obtain⟨x,e',ds',h',⟨m,h1⟩,h2⟩:=rJ (H.1 rfl)
    exact⟨x,e',ds',h',⟨m+1,fun n hn=>by
     obtain⟨k,rfl⟩:∃k,n=k+1:=⟨n-1,by omega⟩
     simp only[gh,hc];exact h1 k (by omega)⟩,h2⟩
   |true=>
    have H:=H.2 rfl
    unfold wpA at H
    split at H
    ·rename_i v h3 ho
     obtain⟨x,e',ds',h',⟨m,h1⟩,h2⟩:=rJ H
     exact⟨x,e',ds',h',⟨m+1,fun n hn=>by
      obtain⟨k,rfl⟩:∃k,n=k+1:=⟨n-1,by omega⟩
      simp only[gh,hc,ho];exact h1 k (by omega)⟩,h2⟩
    ·rename_i fn args h3 ho
     obtain⟨r,h4,⟨m1,hf⟩,H⟩:=H
     cases r with
     |ret v=>
      obtain⟨x,e',ds',h',⟨m,h1⟩,h2⟩:=rJ H
      exact⟨x,e',ds',h',⟨m+m1+1,fun n hn=>by
       obtain⟨k,rfl⟩:∃k,n=k+1:=⟨n-1,by omega⟩
       simp only[gh,hc,ho,hf k (by omega)];exact h1 k (by omega)⟩,h2⟩
     |panic v=>
      exact⟨_,_,_,_,⟨m1+1,fun n hn=>by
       obtain⟨k,rfl⟩:∃k,n=k+1:=⟨n-1,by omega⟩
       simp only[gh,hc,ho,hf k (by omega)]⟩,H⟩
    ·rename_i f args ho
     obtain⟨hr,H⟩:=H
     subst hr
     obtain⟨x,e',ds',h',⟨m,h1⟩,h2⟩:=rJ H
     exact⟨x,e',ds',h',⟨m+1,fun n hn=>by
      obtain⟨k,rfl⟩:∃k,n=k+1:=⟨n-1,by omega⟩
      simp only[gh,hc,ho];exact h1 k (by omega)⟩,h2⟩
    ·rename_i v h3 ho
     exact⟨_,_,_,_,⟨1,fun n hn=>by
      obtain⟨k,rfl⟩:∃k,n=k+1:=⟨n-1,by omega⟩
      simp only[gh,hc,ho]⟩,H⟩
    ·exact H.elim
  ·exact H.elim
theorem AQ{base:Nat}{ops:List aZ}{bf:List Nat}{Q:Env→Heap→Prop}:∀{is:List Nat} {rs:List Rec} {e:Env} {h:Heap},wpD T base ops bf Q is rs e h→∃e' h',EvD T base ops is bf rs e h (.normal,e',h')∧Q e' h'
 |[],rs,e,h,H=>⟨e,h,⟨1,fun n hn=>by obtain⟨k,rfl⟩:∃k,n=k+1:=⟨n-1,by omega⟩;simp only[eH]⟩,H⟩
 |i::is,rs,e,h,H=>by
  simp only[wpD]at H
  split at H
  ·rename_i o mask ho hm
   unfold wpG at H
   split at H
   ·rename_i c hc
    have fin:∀{rs':List Rec} {e1:Env} {h1:Heap},wpD T base ops bf Q is rs' e1 h1→(∃m,∀n,m≤n→∀r,eH T n base ops is bf rs' e1 h1=some r→eH T (n+1) base ops (i::is) bf rs e h=some r)→∃e' h',EvD T base ops (i::is) bf rs e h (.normal,e',h')∧Q e' h':=fun hw ⟨m0,hs⟩=>by
     obtain⟨e',h',⟨m,h1⟩,h2⟩:=AQ hw
     exact⟨e',h',⟨m+m0+1,fun n hn=>by
      obtain⟨k,rfl⟩:∃k,n=k+1:=⟨n-1,by omega⟩
      exact hs k (by omega) _ (h1 k (by omega))⟩,h2⟩
    cases c with
    |false=>
     exact fin (H.1 rfl) ⟨0,fun n _ r hr=>by simp only[eH,ho,hm,hc];exact hr⟩
    |true=>
     have H:=H.2 rfl
     unfold NC at H
     split at H
     ·rename_i he
      split at H
      ·rename_i v h3 hop
       split at H
       ·rename_i hnw
        exact fin H.2 ⟨0,fun n _ r hr=>by simp only[eH,ho,hm,hc,he,hop,hnw,H.1,cond_true];exact hr⟩
       ·rename_i hnw
        exact fin H.2 ⟨0,fun n _ r hr=>by
         have hb:Nat.beq h3.next h.next=true:=by rw[beq_eq];simpa using H.1
         simp only[eH,ho,hm,hc,he,hop,hnw,hb,cond_true,cond_false];exact hr⟩
      ·exact H.elim
     ·rename_i he
      split at H
      ·rename_i v h3 hop
       split at H
       ·rename_i rs' hrs
        exact fin H ⟨0,fun n _ r hr=>by simp only[eH,ho,hm,hc,he,hop,hrs,cond_false];exact hr⟩
       ·exact H.elim
      ·rename_i fn args h3 hop
       obtain⟨r,h4,⟨m1,hf⟩,H⟩:=H
       unfold kD at H
       split at H
       ·rename_i v
        split at H
        ·rename_i rs' hrs
         exact fin H ⟨m1,fun n hn r hr=>by simp only[eH,ho,hm,hc,he,hop,hf n hn,hrs,cond_false];exact hr⟩
        ·exact H.elim
       ·exact H.elim
      ·exact H.elim
   ·exact H.elim
  ·exact H.elim
theorem pN{base:Nat}{rnd:Option Nat}:∀{c:bn} {Q:XQ} {e:Env} {ds:Dfs} {h:Heap},wpE T base rnd c Q e ds h→XW T base rnd c e ds h Q
 | .skip,Q,e,ds,h,H=>⟨_,_,_,_,⟨1,fun n hn=>by obtain⟨k,rfl⟩:∃k,n=k+1:=⟨n-1,by omega⟩;simp only[bZ]⟩,H⟩
 | .exit i,Q,e,ds,h,H=>⟨_,_,_,_,⟨1,fun n hn=>by obtain⟨k,rfl⟩:∃k,n=k+1:=⟨n-1,by omega⟩;simp only[bZ]⟩,H⟩
 | .ret,Q,e,ds,h,H=>⟨_,_,_,_,⟨1,fun n hn=>by obtain⟨k,rfl⟩:∃k,n=k+1:=⟨n-1,by omega⟩;simp only[bZ]⟩,H⟩
 | .loop b,Q,e,ds,h,H=>H
 | .rangeFunc f ps a b,Q,e,ds,h,H=>H
 | .rangeMap o i x k ou nx pr o2 k2 b,Q,e,ds,h,H=>H
 | .scope b,Q,e,ds,h,H=>by
   obtain⟨x,e',ds',h',⟨m,h1⟩,h2⟩:=pN (c:=b) H
   exact⟨_,_,_,_,⟨m+1,fun n hn=>by
    obtain⟨k,rfl⟩:∃k,n=k+1:=⟨n-1,by omega⟩
    simp only[bZ,h1 k (by omega)]⟩,h2⟩
 | .region ops keep,Q,e,ds,h,H=>by
   obtain⟨x,e',ds',h',⟨m,h1⟩,h2⟩:=rJ H
   cases x with
   |normal=>exact⟨_,_,_,_,⟨m+1,fun n hn=>by
    obtain⟨k,rfl⟩:∃k,n=k+1:=⟨n-1,by omega⟩
    simp only[bZ,h1 k (by omega)]⟩,h2⟩
   |_=>exact⟨_,_,_,_,⟨m+1,fun n hn=>by
     obtain⟨k,rfl⟩:∃k,n=k+1:=⟨n-1,by omega⟩
     simp only[bZ,h1 k (by omega)]⟩,h2⟩
 | .draw ops order bf keep,Q,e,ds,h,H=>by
   obtain⟨e',h',⟨m,h1⟩,h2⟩:=AQ H
   exact⟨_,_,_,_,⟨m+1,fun n hn=>by
    obtain⟨k,rfl⟩:∃k,n=k+1:=⟨n-1,by omega⟩
    simp only[bZ,h1 k (by omega)]⟩,h2⟩
 | .seq a b,Q,e,ds,h,H=>by
   obtain⟨x,e',ds',h',⟨m,h1⟩,h2⟩:=pN (c:=a) H
   cases x with
   |normal=>
    obtain⟨x2,e2,ds2,h3,⟨m2,h4⟩,h5⟩:=pN (c:=b) h2
    exact⟨_,_,_,_,⟨m+m2+1,fun n hn=>by
     obtain⟨k,rfl⟩:∃k,n=k+1:=⟨n-1,by omega⟩
     simp only[bZ,h1 k (by omega)];exact h4 k (by omega)⟩,h5⟩
   |_=>exact⟨_,_,_,_,⟨m+1,fun n hn=>by
     obtain⟨k,rfl⟩:∃k,n=k+1:=⟨n-1,by omega⟩
     simp only[bZ,h1 k (by omega)]⟩,h2⟩
 | .cond c a b,Q,e,ds,h,H=>by
   simp only[wpE]at H
   unfold wpC at H
   split at H
   ·rename_i t ht
    cases t with
    |true=>
     obtain⟨x,e',ds',h',⟨m,h1⟩,h2⟩:=pN (c:=a) (H.1 rfl)
     exact⟨_,_,_,_,⟨m+1,fun n hn=>by
      obtain⟨k,rfl⟩:∃k,n=k+1:=⟨n-1,by omega⟩
      simp only[bZ,ht];exact h1 k (by omega)⟩,h2⟩
    |false=>
     obtain⟨x,e',ds',h',⟨m,h1⟩,h2⟩:=pN (c:=b) (H.2 rfl)
     exact⟨_,_,_,_,⟨m+1,fun n hn=>by
      obtain⟨k,rfl⟩:∃k,n=k+1:=⟨n-1,by omega⟩
      simp only[bZ,ht];exact h1 k (by omega)⟩,h2⟩
   ·exact H.elim
 | .block id b,Q,e,ds,h,H=>by
   obtain⟨x,e',ds',h',⟨m,h1⟩,h2⟩:=pN (c:=b) H
   cases x with
   |exit i=>
    by_cases hi:i=id
    ·exact⟨_,_,_,_,⟨m+1,fun n hn=>by
      obtain⟨k,rfl⟩:∃k,n=k+1:=⟨n-1,by omega⟩
      have hb:Nat.beq i id=true:=by rw[beq_eq];simpa using hi
      simp only[bZ,h1 k (by omega),hb,cond_true]⟩,h2.1 hi⟩
    ·exact⟨_,_,_,_,⟨m+1,fun n hn=>by
      obtain⟨k,rfl⟩:∃k,n=k+1:=⟨n-1,by omega⟩
      have hb:Nat.beq i id=false:=by rw[beq_eq];simpa using hi
      simp only[bZ,h1 k (by omega),hb,cond_false]⟩,h2.2 hi⟩
   |_=>exact⟨_,_,_,_,⟨m+1,fun n hn=>by
     obtain⟨k,rfl⟩:∃k,n=k+1:=⟨n-1,by omega⟩
     simp only[bZ,h1 k (by omega)]⟩,h2⟩
theorem XW.loop{base:Nat}{rnd:Option Nat}{b:bn}{Q:bA→Env→Dfs→Heap→Prop}(I:Nat→Env→Dfs→Heap→Prop)
 (hr:∀k e ds h,I k e ds h→XW T base rnd b e ds h fun x e' ds' h'=>match x with| .normal=>∃k',k'<k∧I k' e' ds' h'|x=>Q x e' ds' h'):
 ∀{k:Nat} {e:Env} {ds:Dfs} {h:Heap},I k e ds h→XW T base rnd (.loop b) e ds h Q:=by
 intro k
 induction k using Nat.strongRecOn with
 |ind k ih=>
  intro e ds h hI
  obtain⟨x,e',ds',h',⟨m,h1⟩,h2⟩:=hr k e ds h hI
  cases x with
  |normal=>
   obtain⟨k',hk,hI'⟩:=h2
   obtain⟨x2,e2,ds2,h3,⟨m2,h4⟩,h5⟩:=ih k' hk hI'
   exact⟨_,_,_,_,⟨m+m2+1,fun n hn=>by
    obtain⟨k,rfl⟩:∃k,n=k+1:=⟨n-1,by omega⟩
    simp only[bZ,h1 k (by omega)];exact h4 k (by omega)⟩,h5⟩
  |_=>exact⟨_,_,_,_,⟨m+1,fun n hn=>by
    obtain⟨k,rfl⟩:∃k,n=k+1:=⟨n-1,by omega⟩
    simp only[bZ,h1 k (by omega)]⟩,h2⟩
theorem XW.Qm{base:Nat}{rnd:Option Nat}{a b:bn}{e:Env}{ds:Dfs}{h:Heap}{Q:bA→Env→Dfs→Heap→Prop}
 (H:XW T base rnd a e ds h fun x e' ds' h'=>match x with| .normal=>XW T base rnd b e' ds' h' Q|x=>Q x e' ds' h'):XW T base rnd (.seq a b) e ds h Q:=by
 obtain⟨x,e',ds',h',⟨m,h1⟩,h2⟩:=H
 cases x with
 |normal=>
  obtain⟨x2,e2,ds2,h3,⟨m2,h4⟩,h5⟩:=h2
  exact⟨_,_,_,_,⟨m+m2+1,fun n hn=>by
   obtain⟨k,rfl⟩:∃k,n=k+1:=⟨n-1,by omega⟩
   simp only[bZ,h1 k (by omega)];exact h4 k (by omega)⟩,h5⟩
 |_=>exact⟨_,_,_,_,⟨m+1,fun n hn=>by
   obtain⟨k,rfl⟩:∃k,n=k+1:=⟨n-1,by omega⟩
   simp only[bZ,h1 k (by omega)]⟩,h2⟩
theorem FW.func{f:Nat}{args:List Value}{h:Heap}{Q:Res→Heap→Prop}(H:CW T f args h Q):FW T (.func f) args h Q:=by
 obtain⟨r,h',⟨m,h1⟩,h2⟩:=H
 exact⟨r,h',⟨m+1,fun n hn=>by
  obtain⟨k,rfl⟩:∃k,n=k+1:=⟨n-1,by omega⟩
  simp only[gU];exact h1 k (by omega)⟩,h2⟩
def yG(rs:List (Nat×Option (Option Nat)))(h:Heap)(Q:Res→Heap→Prop):bA→Env→Dfs→Heap→Prop:=fun x e ds h1=>
 match x with
 | .exit _=>False
 | .panic v=>match ds with
   |[]=>Q (.panic v) h1
   |_=>False
 |_=>match ds with
  |[]=>match cH h1 e rs with
   |some vs=>Q (.ret (fP vs)) (gcA h h1 (fP vs))
   |none=>False
  |_=>False
theorem CW.code{f:Nat}{args:List Value}{h:Heap}{Q:Res→Heap→Prop}{c:bn}{rs:List (Nat×Option (Option Nat))}(hf:T f=some (.code c rs))
 (H:XW T h.next none c (ez 0 args) [] h (yG rs h Q)):CW T f args h Q:=by
 obtain⟨x,e,ds,h1,⟨m,he⟩,H⟩:=H
 unfold yG at H
 cases x with
 |exit _=>exact H.elim
 |panic v=>
  dsimp only at H
  split at H
  ·refine⟨_,_,⟨m+2,fun n hn=> ?_⟩,H⟩
   obtain⟨k,rfl⟩:∃k,n=k+2:=⟨n-2,by omega⟩
   have:=he (k+1) (by omega)
   simp only[iE,this,nk,hf]
  ·exact H.elim
 |normal=>
  dsimp only at H
  split at H
  ·split at H
   ·rename_i vs hvs
    refine⟨_,_,⟨m+2,fun n hn=> ?_⟩,H⟩
    obtain⟨k,rfl⟩:∃k,n=k+2:=⟨n-2,by omega⟩
    have:=he (k+1) (by omega)
    simp only[iE,this,nk,hf,hvs]
   ·exact H.elim
  ·exact H.elim
 |ret=>
  dsimp only at H
  split at H
  ·split at H
   ·rename_i vs hvs
    refine⟨_,_,⟨m+2,fun n hn=> ?_⟩,H⟩
    obtain⟨k,rfl⟩:∃k,n=k+2:=⟨n-2,by omega⟩
    have:=he (k+1) (by omega)
    simp only[iE,this,nk,hf,hvs]
   ·exact H.elim
  ·exact H.elim
end Go.A
end
section
namespace Go.A
variable {T:Nat→Option ah} {base:Nat} {rnd:Option Nat} {Q:XQ} {e:Env} {ds:Dfs} {h:Heap} {c:bn}
structure WE (T:Nat→Option ah) (base:Nat) (rnd:Option Nat) (c:bn) (Q:XQ) (e:Env) (ds:Dfs) (h:Heap):Prop where
 ok:XW T base rnd c e ds h Q
structure WO (T:Nat→Option ah) (base:Nat) (rnd:Option Nat) (Q:XQ) (ops:List aZ) (e:Env) (ds:Dfs) (h:Heap):Prop where
 ok:∃x e' ds' h',EvO T base rnd ops e ds h (x,e',ds',h')∧Q x e' ds' h'
structure WD (T:Nat→Option ah) (base:Nat) (ops:List aZ) (bf:List Nat) (Q:Env→Heap→Prop) (is:List Nat) (rs:List Rec) (e:Env) (h:Heap):Prop where
 ok:∃e' h',EvD T base ops is bf rs e h (.normal,e',h')∧Q e' h'
structure KR (keep:List Nat) (Q:XQ) (x:bA) (e:Env) (ds:Dfs) (h:Heap):Prop where
 ok:kR keep Q x e ds h
structure KS (K:Env→Dfs→Heap→Prop) (Q:XQ) (x:bA) (e:Env) (ds:Dfs) (h:Heap):Prop where
 ok:kS K Q x e ds h
structure KB (i:Nat) (Q:XQ) (x:bA) (e:Env) (ds:Dfs) (h:Heap):Prop where
 ok:kB i Q x e ds h
structure KO (K:Env→Dfs→Heap→Prop) (Q:XQ) (base:Nat) (dst:Option Nat) (e:Env) (ds:Dfs) (log:List Nat) (r:Res) (h:Heap):Prop where
 ok:kO K Q base dst e ds log r h
structure KD (K:List Rec→Env→Heap→Prop) (base:Nat) (mask:Nat) (rs:List Rec) (dst:Option Nat) (e:Env) (log:List Nat) (r:Res) (h:Heap):Prop where
 ok:kD K base mask rs dst e log r h
theorem WE.of(H:wpE T base rnd c Q e ds h):WE T base rnd c Q e ds h:=⟨pN H⟩
theorem aB(H:Q .normal e ds h):WE T base rnd .skip Q e ds h:= .of H
theorem cA{i:Nat}(H:Q (.exit i) e ds h):WE T base rnd (.exit i) Q e ds h:= .of H
theorem aJ(H:Q .ret e ds h):WE T base rnd .ret Q e ds h:= .of H
theorem af{a b:bn}(H:WE T base rnd a (KS (WE T base rnd b Q) Q) e ds h):WE T base rnd (.seq a b) Q e ds h:=by
 refine⟨XW.Qm (H.ok.mono fun x e ds h hq=> ?_)⟩
 cases x<;>first|exact hq.ok.ok|exact hq.ok
theorem aA{ops:List aZ}{keep:List Nat}(H:WO T base rnd (KR keep Q) ops e ds h):WE T base rnd (.region ops keep) Q e ds h:=by
 obtain⟨x,e',ds',h',⟨m,h1⟩,⟨h2⟩⟩:=H.ok
 cases x with
 |normal=>exact⟨_,_,_,_,⟨m+1,fun n hn=>by
  obtain⟨k,rfl⟩:∃k,n=k+1:=⟨n-1,by omega⟩
  simp only[bZ,h1 k (by omega)]⟩,h2⟩
 |_=>exact⟨_,_,_,_,⟨m+1,fun n hn=>by
   obtain⟨k,rfl⟩:∃k,n=k+1:=⟨n-1,by omega⟩
   simp only[bZ,h1 k (by omega)]⟩,h2⟩
theorem au{i:Nat}{b:bn}(H:WE T base rnd b (KB i Q) e ds h):WE T base rnd (.block i b) Q e ds h:=by
 obtain⟨x,e',ds',h',⟨m,h1⟩,⟨h2⟩⟩:=H.ok
 cases x with
 |exit j=>
  by_cases hi:j=i
  ·exact⟨_,_,_,_,⟨m+1,fun n hn=>by
    obtain⟨k,rfl⟩:∃k,n=k+1:=⟨n-1,by omega⟩
    have hb:Nat.beq j i=true:=by rw[beq_eq];simpa using hi
    simp only[bZ,h1 k (by omega),hb,cond_true]⟩,h2.1 hi⟩
  ·exact⟨_,_,_,_,⟨m+1,fun n hn=>by
    obtain⟨k,rfl⟩:∃k,n=k+1:=⟨n-1,by omega⟩
    have hb:Nat.beq j i=false:=by rw[beq_eq];simpa using hi
    simp only[bZ,h1 k (by omega),hb,cond_false]⟩,h2.2 hi⟩
 |_=>exact⟨_,_,_,_,⟨m+1,fun n hn=>by
   obtain⟨k,rfl⟩:∃k,n=k+1:=⟨n-1,by omega⟩
   simp only[bZ,h1 k (by omega)]⟩,h2⟩
theorem BJ{c:Operand}{a b:bn}{t:Bool}(hc:ev h e c=some (.bool t))(h1:t=true→WE T base rnd a Q e ds h)(h2:t=false→WE T base rnd b Q e ds h):WE T base rnd (.cond c a b) Q e ds h:=by
 cases t with
 |true=>
  obtain⟨x,e',ds',h',⟨m,q1⟩,q2⟩:=(h1 rfl).ok
  exact⟨_,_,_,_,⟨m+1,fun n hn=>by
   obtain⟨k,rfl⟩:∃k,n=k+1:=⟨n-1,by omega⟩
   simp only[bZ,hc];exact q1 k (by omega)⟩,q2⟩
 |false=>
  obtain⟨x,e',ds',h',⟨m,q1⟩,q2⟩:=(h2 rfl).ok
  exact⟨_,_,_,_,⟨m+1,fun n hn=>by
   obtain⟨k,rfl⟩:∃k,n=k+1:=⟨n-1,by omega⟩
   simp only[bZ,hc];exact q1 k (by omega)⟩,q2⟩
theorem IA{c:Operand}{a b:bn}(hc:ev h e c=some (.bool true))(h1:WE T base rnd a Q e ds h):WE T base rnd (.cond c a b) Q e ds h:=BJ hc (fun _=>h1) (fun h=>by cases h)
theorem Et{c:Operand}{a b:bn}(hc:ev h e c=some (.bool false))(h1:WE T base rnd b Q e ds h):WE T base rnd (.cond c a b) Q e ds h:=BJ hc (fun h=>by cases h) (fun _=>h1)
theorem bQ{ops:List aZ}{is bf keep:List Nat}(H:WD T base ops bf (fun e' h'=>KR keep Q .normal e' ds h') is [] e h):WE T base rnd (.draw ops is bf keep) Q e ds h:=by
 obtain⟨e',h',⟨m,h1⟩,⟨h2⟩⟩:=H.ok
 exact⟨_,_,_,_,⟨m+1,fun n hn=>by
  obtain⟨k,rfl⟩:∃k,n=k+1:=⟨n-1,by omega⟩
  simp only[bZ,h1 k (by omega)]⟩,h2⟩
theorem cG{b:bn}(I:Nat→Env→Dfs→Heap→Prop){k:Nat}(hI:I k e ds h)
 (hr:∀k e ds h,I k e ds h→WE T base rnd b (KS (fun e' ds' h'=>∃k',k'<k∧I k' e' ds' h') Q) e ds h):WE T base rnd (.loop b) Q e ds h:=
 ⟨XW.loop I (fun k e ds h hI=>((hr k e ds h hI).ok.mono fun x e ds h hq=>by cases x<;>exact hq.ok)) hI⟩
theorem WE.mono{c:bn}{Q':XQ}(H:WE T base rnd c Q' e ds h)(hq:∀x e ds h,Q' x e ds h→Q x e ds h):WE T base rnd c Q e ds h:=⟨H.ok.mono hq⟩
theorem M6{keep:List Nat}{e2:Env}(he:bG e keep=e2)(H:Q .normal e2 ds h):KR keep Q .normal e ds h:=by subst he;exact⟨H⟩
theorem aN{K:Env→Dfs→Heap→Prop}(H:K e ds h):KS K Q .normal e ds h:=⟨H⟩
theorem eC{K:Env→Dfs→Heap→Prop}(H:Q .ret e ds h):KS K Q .ret e ds h:=⟨H⟩
theorem dy{K:Env→Dfs→Heap→Prop}{i:Nat}(H:Q (.exit i) e ds h):KS K Q (.exit i) e ds h:=⟨H⟩
theorem eD{i:Nat}(H:Q .normal e ds h):KB i Q .normal e ds h:=⟨H⟩
theorem jT{i:Nat}(H:Q .ret e ds h):KB i Q .ret e ds h:=⟨H⟩
theorem fV{i:Nat}(H:Q .normal e ds h):KB i Q (.exit i) e ds h:=⟨⟨fun _=>H,fun h=>(h rfl).elim⟩⟩
theorem dK(H:Q .normal e ds h):WO T base rnd Q [] e ds h:=⟨rJ (T:=T) (base:=base) (rnd:=rnd) (ops:=[]) H⟩
theorem ak{dst:Option Nat}{op:AOp}{os:List aZ}{v:Value}{h':Heap}(ho:aop h base e op=some (.val v h'))(H:WO T base rnd Q os (bO e dst v) ds h'):WO T base rnd Q (⟨dst,op,none⟩::os) e ds h:=by
 obtain⟨x,e',ds',h',⟨m,h1⟩,h2⟩:=H.ok
 exact⟨x,e',ds',h',⟨m+1,fun n hn=>by
  obtain⟨k,rfl⟩:∃k,n=k+1:=⟨n-1,by omega⟩
  simp only[gh,bJ,ho];exact h1 k (by omega)⟩,h2⟩
theorem qU{dst:Option Nat}{op:AOp}{os:List aZ}{fn:Fn}{args:List Value}{h':Heap}(ho:aop h base e op=some (.call fn args h'))(H:FW T fn args {h' with log:=[]} (KO (WO T base rnd Q os) Q base dst e ds h'.log)):WO T base rnd Q (⟨dst,op,none⟩::os) e ds h:=by
 obtain⟨r,h4,⟨m1,hf⟩,⟨H⟩⟩:=H
 cases r with
 |ret v=>
  obtain⟨x,e',ds',h',⟨m,h1⟩,h2⟩:=WO.ok H
  exact⟨x,e',ds',h',⟨m+m1+1,fun n hn=>by
   obtain⟨k,rfl⟩:∃k,n=k+1:=⟨n-1,by omega⟩
   simp only[gh,bJ,ho,hf k (by omega)];exact h1 k (by omega)⟩,h2⟩
 |panic v=>
  exact⟨_,_,_,_,⟨m1+1,fun n hn=>by
   obtain⟨k,rfl⟩:∃k,n=k+1:=⟨n-1,by omega⟩
   simp only[gh,bJ,ho,hf k (by omega)]⟩,H⟩
theorem M5{dst:Option Nat}{op:AOp}{os:List aZ}{t:Nat}{b:Bool}(hg:geT e t=some (.bool b))(H:WO T base rnd Q (⟨dst,op,none⟩::os) e ds h):WO T base rnd Q (⟨dst,op,some (t,b)⟩::os) e ds h:=by
 obtain⟨x,e',ds',h',⟨m,h1⟩,h2⟩:=H.ok
 exact⟨x,e',ds',h',⟨m+1,fun n hn=>by
  obtain⟨k,rfl⟩:∃k,n=k+1:=⟨n-1,by omega⟩
  have:=h1 (k+1) (by omega)
  have hb:(b==b)=true:=by simp
  simp only[gh,bJ]at this
  simp only[gh,bJ,hg,hb];exact this⟩,h2⟩
theorem L8{dst:Option Nat}{op:AOp}{os:List aZ}{t:Nat}{b x:Bool}(hg:geT e t=some (.bool x))(hx:x= !b)(H:WO T base rnd Q os (bO e dst (.tuple #[])) ds h):WO T base rnd Q (⟨dst,op,some (t,b)⟩::os) e ds h:=by
 obtain⟨x',e',ds',h',⟨m,h1⟩,h2⟩:=H.ok
 exact⟨x',e',ds',h',⟨m+1,fun n hn=>by
  obtain⟨k,rfl⟩:∃k,n=k+1:=⟨n-1,by omega⟩
  have hb:(x==b)=false:=by subst hx;cases b<;>rfl
  simp only[gh,bJ,hg,hb];exact h1 k (by omega)⟩,h2⟩
theorem cK{ops:List aZ}{bf:List Nat}{rs:List Rec}{Q:Env→Heap→Prop}(H:Q e h):WD T base ops bf Q [] rs e h:=⟨AQ (T:=T) (base:=base) (ops:=ops) (bf:=bf) (is:=[]) (rs:=rs) H⟩
theorem pX{ops:List aZ}{bf:List Nat}{rs rs':List Rec}{Q:Env→Heap→Prop}{i:Nat}{is:List Nat}{e1:Env}{h1:Heap}(hs:∃m,∀n,m≤n→∀r,eH T n base ops is bf rs' e1 h1=some r→eH T (n+1) base ops (i::is) bf rs e h=some r)
 (H:WD T base ops bf Q is rs' e1 h1):WD T base ops bf Q (i::is) rs e h:=by
 obtain⟨e',h',⟨m,q1⟩,q2⟩:=H.ok
 obtain⟨m0,hs⟩:=hs
 exact⟨e',h',⟨m+m0+1,fun n hn=>by
  obtain⟨k,rfl⟩:∃k,n=k+1:=⟨n-1,by omega⟩
  exact hs k (by omega) _ (q1 k (by omega))⟩,q2⟩
theorem Ms{ops:List aZ}{bf:List Nat}{rs:List Rec}{Q:Env→Heap→Prop}{i mask:Nat}{is:List Nat}{dst:Option Nat}{op:AOp}{g:Option (Nat×Bool)}{er:Env}(ho:cm ops i=some ⟨dst,op,g⟩)(hm:cm bf i=some mask)(he:bG e (cC ⟨dst,op,g⟩)=er)(hw:bJ er g=some false)
 (H:WD T base ops bf Q is (⟨i,⟨dst,op,g⟩,er, .tuple #[], .skip⟩::rs) (bO e dst (.tuple #[])) h):WD T base ops bf Q (i::is) rs e h:=by
 subst he
 exact pX ⟨0,fun n _ r hr=>by simp only[eH,ho,hm,hw];exact hr⟩ H
theorem aI{ops:List aZ}{bf:List Nat}{rs:List Rec}{Q:Env→Heap→Prop}{i mask:Nat}{is:List Nat}{dst:Option Nat}{op:AOp}{g:Option (Nat×Bool)}{er:Env}{v:Value}(ho:cm ops i=some ⟨dst,op,g⟩)(hm:cm bf i=some mask)(he:bG e (cC ⟨dst,op,g⟩)=er)(hw:bJ er g=some true)
 (hq:ja op=true)(hn:dw op=false)(hop:aop h base er op=some (.val v h))(H:WD T base ops bf Q is (⟨i,⟨dst,op,g⟩,er,v, .quiet⟩::rs) (bO e dst v) h):WD T base ops bf Q (i::is) rs e h:=by
 subst he
 have hb:Nat.beq h.next h.next=true:=by rw[beq_eq];simp
 exact pX ⟨0,fun n _ r hr=>by simp only[eH,ho,hm,hw,hq,hop,hn,hb,cond_true,cond_false];exact hr⟩ H
theorem Ay{ops:List aZ}{bf:List Nat}{rs:List Rec}{Q:Env→Heap→Prop}{i mask:Nat}{is:List Nat}{dst:Option Nat}{op:AOp}{g:Option (Nat×Bool)}{er:Env}{v:Value}{h':Heap}(ho:cm ops i=some ⟨dst,op,g⟩)(hm:cm bf i=some mask)(he:bG e (cC ⟨dst,op,g⟩)=er)(hw:bJ er g=some true)
 (hq:ja op=true)(hn:dw op=true)(hop:aop h base er op=some (.val v h'))(hrs:mj h' base rs=true)(H:WD T base ops bf Q is (⟨i,⟨dst,op,g⟩,er,v, .made h.next⟩::rs) (bO e dst v) h'):WD T base ops bf Q (i::is) rs e h:=by
 subst he
 exact pX ⟨0,fun n _ r hr=>by simp only[eH,ho,hm,hw,hq,hop,hn,hrs,cond_true];exact hr⟩ H
theorem Lh{ops:List aZ}{bf:List Nat}{rs rs':List Rec}{Q:Env→Heap→Prop}{i mask:Nat}{is:List Nat}{dst:Option Nat}{op:AOp}{g:Option (Nat×Bool)}{er:Env}{v:Value}{h2:Heap}(ho:cm ops i=some ⟨dst,op,g⟩)(hm:cm bf i=some mask)(he:bG e (cC ⟨dst,op,g⟩)=er)(hw:bJ er g=some true)
 (hq:ja op=false)(hop:aop {h with log:=[]} h.next er op=some (.val v h2))(hrs:bB {h2 with log:=aD base h.log h2.log} base h2.log mask rs=some rs')
 (H:WD T base ops bf Q is rs' (bO e dst v) {h2 with log:=aD base h.log h2.log}):WD T base ops bf Q (i::is) rs e h:=by
 subst he
 exact pX ⟨0,fun n _ r hr=>by simp only[eH,ho,hm,hw,hq,hop,hrs,cond_false];exact hr⟩ H
theorem Jd{ops:List aZ}{bf:List Nat}{rs:List Rec}{Q:Env→Heap→Prop}{i mask:Nat}{is:List Nat}{dst:Option Nat}{op:AOp}{g:Option (Nat×Bool)}{er:Env}{fn:Fn}{args:List Value}{h3:Heap}(ho:cm ops i=some ⟨dst,op,g⟩)(hm:cm bf i=some mask)(he:bG e (cC ⟨dst,op,g⟩)=er)(hw:bJ er g=some true)
 (hq:ja op=false)(hop:aop {h with log:=[]} h.next er op=some (.call fn args h3))(H:FW T fn args {h with log:=[]} (KD (WD T base ops bf Q is) base mask rs dst e h.log)):WD T base ops bf Q (i::is) rs e h:=by
 subst he
 obtain⟨r,h4,⟨m1,hf⟩,⟨H⟩⟩:=H
 unfold kD at H
 split at H
 ·split at H
  ·rename_i rs' hrs
   exact pX ⟨m1,fun n hn r hr=>by simp only[eH,ho,hm,hw,hq,hop,hf n hn,hrs,cond_false];exact hr⟩ H
  ·exact H.elim
 ·exact H.elim
end Go.A
end
section
namespace Go.A
variable {T:Nat→Option ah}
theorem jf{base N:Nat}{rnd:Option Nat}{c:bn}{e:Env}{ds:Dfs}{h:Heap}{r:bA×Env×Dfs×Heap}(H:∀n,(ni T (n+N)).exec base rnd c e ds h=some r):Ev T base rnd c e ds h r:=
 ⟨N,fun n hn=>by
  have:=H (n-N)
  rw[Cf,E4,show n-N+N=n by omega]at this
  exact this⟩
theorem jo{base:Nat}{rnd:Option Nat}{c:bn}{e e1:Env}{ds ds1:Dfs}{h h1:Heap}{r:bA×Env×Dfs×Heap}(hc:c= .seq (cL c) (cR c))(H1:Ev T base rnd (cL c) e ds h (.normal,e1,ds1,h1))(H2:Ev T base rnd (cR c) e1 ds1 h1 r):Ev T base rnd c e ds h r:=by
 obtain⟨m1,q1⟩:=H1
 obtain⟨m2,q2⟩:=H2
 refine⟨m1+m2+1,fun n hn=> ?_⟩
 obtain⟨k,rfl⟩:∃k,n=k+1:=⟨n-1,by omega⟩
 rw[hc]
 simp only[bZ,q1 k (by omega)]
 exact q2 k (by omega)
theorem CW.Pb{f:Nat}{args:List Value}{h:Heap}{Q:Res→Heap→Prop}{c:bn}{rs:List (Nat×Option (Option Nat))}{x:bA}{e:Env}{ds:Dfs}{h1:Heap}(hf:T f=some (.code c rs))(H:Ev T h.next none c (ez 0 args) [] h (x,e,ds,h1))(hq:yG rs h Q x e ds h1):CW T f args h Q:=
 CW.code hf ⟨x,e,ds,h1,H,hq⟩
theorem R.none{P:Program}{w:World}{n:Nat}(hn:P.globals.size≤n):R P (fun _=>none) ⟨[],n,[]⟩ w:=
 {big:=hn
  ki:=fun g o _ h=>by cases h
  obj:=fun b o h=>by cases h
  lt:=fun b o h=>by cases h
  dom:=fun b k h=>by cases h
  jR:=fun b b' o o' k k' _ h=>by cases h}
end Go.A
end
section
namespace Go.A
variable {T:Nat→Option ah} {base:Nat} {rnd:Option Nat} {Q:XQ} {e:Env} {ds:Dfs} {h:Heap}
theorem Heap.mJ(h:Heap)(o:bN):(h.push o).get h.next=some o:=by rw[Heap.dx,if_pos rfl]
theorem Heap.je{h:Heap}{o:bN}{x:Nat}(hx:x<h.next):(h.push o).get x=h.get x:=by rw[Heap.dx,if_neg (by omega)]
theorem Heap.bw{h:Heap}{base b:Nat}{o o':bN}(hb:h.get b=some o'):(h.wr base b o).get b=some o:=by rw[Heap.kI,if_pos rfl,hb];rfl
theorem Heap.y9(h:Heap)(base b:Nat)(o:bN):(h.wr base b o).get b=(h.get b).map fun _=>o:=by rw[Heap.kI,if_pos rfl]
theorem Heap.iM{h:Heap}{base b:Nat}{o:bN}{x:Nat}(hx:x≠b):(h.wr base b o).get x=h.get x:=by rw[Heap.kI,if_neg hx]
theorem Heap.tj(h:Heap)(o:bN):(h.push o).log=h.log:=rfl
theorem Heap.aC{h:Heap}{base b:Nat}{o:bN}(hb:base≤b):(h.wr base b o).log=h.log:=by
 simp only[Heap.wr,blt_eq]
 rw[decide_eq_false (by omega)];rfl
theorem mY{x:Operand}{v:Value}(hx:ev h e x=some v):aop h base e (.mov x)=some (.val v h):=by simp only[aop,hx,cB]
theorem j9{c a b:Operand}{v:Value}(hc:ev h e c=some (.bool true))(hx:ev h e a=some v):aop h base e (.pick c a b)=some (.val v h):=by simp only[aop,hc,hx,cB]
theorem mP{c a b:Operand}{v:Value}(hc:ev h e c=some (.bool false))(hx:ev h e b=some v):aop h base e (.pick c a b)=some (.val v h):=by simp only[aop,hc,hx,cB]
theorem cQ{z:List Value}:aop h base e (.new z)=some (.val (.pointer (some ⟨h.next,0,none⟩)) (h.push (.cells z true 1))):=rfl
theorem Nc{x:Operand}{v:Value}{vs:List Value}(hx:ev h e x=some v)(hc:cellsOf v=vs):aop h base e (.box x)=some (.val (.pointer (some ⟨h.next,0,none⟩)) (h.push (.cells vs true 1))):=by simp only[aop,hx,cB,hc]
theorem cZ{z cs:List Value}{ps:List (Nat×Nat×Operand)}(hf:jL h e z ps=some cs):aop h base e (.build z ps)=some (.val (.agg cs.toArray) h):=by simp only[aop,hf]
theorem iH{z cs:List Value}{n m:Nat}{ps:List (Nat×Nat×Operand)}(hf:jL h e (eN n z) ps=some cs)(hm:bR z=m):aop h base e (.cT z n ps)=some (.val (.slice (some ⟨h.next,0,none⟩) n n) (h.push (.cells cs true m))):=by simp only[aop,hf,hm]
theorem ek{x:Operand}{b o sz:Nat}{vs:List Value}{own:Bool}{v:Value}(hx:ev h e x=some (.pointer (some ⟨b,o,none⟩)))(hb:h.get b=some (.cells vs own sz))(hv:cm vs o=some v):aop h base e (.load none x)=some (.val v h):=by
 simp only[aop,hx,cB,nP,hb,hv]
theorem dA{x:Operand}{n b o sz:Nat}{vs l:List Value}{own:Bool}(hx:ev h e x=some (.pointer (some ⟨b,o,none⟩)))(hb:h.get b=some (.cells vs own sz))(hv:bV n (bE o vs)=l)(hl:Nat.beq (bR l) n=true):
 aop h base e (.load (some n) x)=some (.val (.agg l.toArray) h):=by
 simp only[aop,hx,cB,nP,hb,hv,hl,cond_true]
theorem jb{x y:Operand}{n b o sz:Nat}{vs ws:List Value}{v:Value}(hx:ev h e x=some (.pointer (some ⟨b,o,none⟩)))(hy:ev h e y=some v)(hb:h.get b=some (.cells vs true sz))
 (hc:(Nat.beq (bR (cellsOf v)) n&&Nat.ble (o+n) (bR vs)&&eM (cellsOf v))=true)(hw:cU vs o (cellsOf v)=ws):aop h base e (.store n x y)=some (.val (.tuple #[]) (h.wr base b (.cells ws true sz))):=by
 simp only[aop,hx,hy,cB,pz,hb,hc,hw,cond_true]
theorem vA{op:BinOp}{x y:Operand}{a b v:Value}(hx:ev h e x=some a)(hy:ev h e y=some b)(hv:aq op a b=some v):aop h base e (.bin (.num op) x y)=some (.val v h):=by simp only[aop,hx,hy,cB,hv]
theorem Es{k:NK}{neq b:Bool}{x y:Operand}{v u:Value}(hx:ev h e x=some v)(hy:ev h e y=some u)(hn:nW k v u=some b):aop h base e (.bin (.nil k neq) x y)=some (.val (.bool (bif neq then !b else b)) h):=by simp only[aop,hx,hy,cB,hn]
theorem N0{neq b:Bool}{ls:List dP}{x y:Operand}{xs ys:Array Value}(hx:ev h e x=some (.agg xs))(hy:ev h e y=some (.agg ys))(hn:bI ls xs.toList ys.toList=some b):aop h base e (.bin (.agg neq ls) x y)=some (.val (.bool (bif neq then !b else b)) h):=by
 simp only[aop,hx,hy,cB,hn]
theorem Cb{x:Operand}{b:Bool}(hx:ev h e x=some (.bool b)):aop h base e (.un .not x)=some (.val (.bool !b) h):=by simp only[aop,hx,cB,qR]
theorem eO{off b o:Nat}{x:Operand}(hx:ev h e x=some (.pointer (some ⟨b,o,none⟩))):aop h base e (.dg off x)=some (.val (.pointer (some ⟨b,o+off,none⟩)) h):=by simp only[aop,hx]
theorem qf{size b o len cap i:Nat}{k:IntKind}{x y:Operand}(hx:ev h e x=some (.slice (some ⟨b,o,none⟩) len cap))(hy:ev h e y=some (.int k (i:Nat)))(hi:i<len):aop h base e (.aO size x y)=some (.val (.pointer (some ⟨b,o+i*size,none⟩)) h):=by
 have:(.int k (i:Nat):Value)= .int k (Int.ofNat i):=rfl
 rw[this]at hy
 simp only[aop,hx,hy,blt_eq,decide_eq_true hi,cond_true]
theorem CE{x:Operand}{i:Nat}{vs:Array Value}{v:Value}(hx:ev h e x=some (.tuple vs))(hv:cm vs.toList i=some v):aop h base e (.extract x i)=some (.val v h):=by simp only[aop,hx,cB,hv]
theorem Mn{x:Operand}{a:Option Addr}{n c:Nat}(hx:ev h e x=some (.slice a n c)):aop h base e (.len 1 x)=some (.val (.int .i64 n) h):=by simp only[aop,hx]
theorem ic{fn:Fn}{fs cs:List Operand}{as bs:List Value}(h1:evs h e fs=some as)(h2:evs h e cs=some bs):aop h base e (.dZ fn fs cs)=some (.val (.func fn as.toArray bs.toArray) h):=by simp only[aop,h1,h2]
theorem gM{x:Operand}{b o:Nat}(hx:ev h e x=some (.pointer (some ⟨b,o,none⟩))):aop h base e (.bX x)=some (.val (.pointer (some ⟨b,o,none⟩)) h):=by simp only[aop,hx,cB]
theorem wX{f:Operand}{args:List Operand}{fv:Value}{as:List Value}{g:Nat}{first cap:Array Value}{all:List Value}(hf:ev h e f=some fv)(ha:evs h e args=some as)(hv:fv= .func (.func g) first cap)(hl:dQ first.toList (dQ as cap.toList)=all):
 aop h base e (.call f args)=some (.call (.func g) all h):=by subst hv;simp only[aop,hf,ha,nr,hl]
theorem bT{n:Int}(h1: -9223372036854775808≤n)(h2:n<9223372036854775808):fD .i64 n=n:=by
 rw[qk,IntKind.wrap_i64];omega
theorem Kq{k:IntKind}{a b:Int}:aq .lss (.int k a) (.int k b)=some (.bool (decide (a<b))):=by simp[aq,arith,lJ]
theorem Kx{k:IntKind}{a b:Int}:aq .leq (.int k a) (.int k b)=some (.bool (decide (a≤b))):=by simp[aq,arith,lJ]
theorem KG{k:IntKind}{a b:Int}:aq .gtr (.int k a) (.int k b)=some (.bool (decide (b<a))):=by simp[aq,arith,lJ]
theorem Ij{k:IntKind}{a b:Int}:aq .geq (.int k a) (.int k b)=some (.bool (decide (b≤a))):=by simp[aq,arith,lJ]
theorem KI{k:IntKind}{a b:Int}:aq .eql (.int k a) (.int k b)=some (.bool (a==b)):=by simp[aq,arith,lJ]
theorem BV{k:IntKind}{a b:Int}:aq .neq (.int k a) (.int k b)=some (.bool (a !=b)):=by simp[aq,arith,lJ]
theorem lD{k:IntKind}{a b c:Int}(hc:fD k (a+b)=c):aq .add (.int k a) (.int k b)=some (.int k c):=by simp[aq,arith,hc]
theorem lB{k:IntKind}{a b c:Int}(hc:fD k (a-b)=c):aq .sub (.int k a) (.int k b)=some (.int k c):=by simp[aq,arith,hc]
theorem NL{n:Nat}(hn:n<9223372036854775807):aq .add (.int .i64 n) (.int .i64 1)=some (.int .i64 (n+1:Nat)):=lD (by rw[bT]<;>omega)
theorem LY{l m:List (Nat×bN)}(hk:l.map (·.1)=m.map (·.1))(hn:(m.map (·.1)).Nodup)(hg:∀b,b∈m.map (·.1)→eX l b=eX m b):l=m:=by
 induction m generalizing l with
 |nil=>simpa using hk
 |cons p m ih=>
  obtain⟨k,o⟩:=p
  cases l with
  |nil=>simp at hk
  |cons q l=>
   obtain⟨k',o'⟩:=q
   simp only[List.map_cons,List.cons.injEq]at hk
   obtain⟨h1,h2⟩:=hk
   subst h1
   simp only[List.map_cons,List.nodup_cons]at hn
   have h3:=hg k' (by simp)
   simp only[eX,cond_eq_ite,beq_eq,decide_true,if_true]at h3
   cases h3
   congr 1
   refine ih h2 hn.2 fun b hb=> ?_
   have h4:=hg b (by simp[hb])
   have hne:k'≠b:=fun e=>hn.1 (e▸hb)
   simpa only[eX,cond_eq_ite,beq_eq,decide_eq_true_eq,if_neg hne]using h4
structure WF (h:Heap):Prop where
 nodup:(h.bM.map (·.1)).Nodup
 lt:∀b,b∈h.bM.map (·.1)→b<h.next
theorem pO{a n b:Nat}:b∈cN a n↔a≤b∧b<a+n:=by
 induction n with
 |zero=>simp[cN]
 |succ n ih=>simp[cN,ih];omega
theorem xD(a n:Nat):(cN a n).Nodup:=by
 induction n with
 |zero=>simp[cN]
 |succ n ih=>simp only[cN,List.nodup_cons,pO];exact⟨by omega,ih⟩
theorem WF.as{base:Nat}{h h':Heap}(hw:WF h)(hA:AS base h h'):WF h' where
 nodup:=by
  rw[hA.keys,List.nodup_append]
  refine⟨xD _ _,hw.nodup,fun a ha b hb=> ?_⟩
  rw[pO]at ha
  have:=hw.lt b hb
  omega
 lt:=fun b hb=>by
  rw[hA.keys,List.mem_append]at hb
  have:=hA.next
  rcases hb with hb|hb
  ·rw[pO]at hb;omega
  ·have:=hw.lt b hb;omega
theorem WF.log{h:Heap}(hw:WF h)(l:List Nat):WF {h with log:=l}:=⟨hw.nodup,hw.lt⟩
theorem WF.push{h:Heap}(hw:WF h)(o:bN):WF (h.push o):=hw.as (AS.push 0 h o)
structure Ext (h h':Heap):Prop where
 next:h.next≤h'.next
 log:h'.log=h.log
 old:∀b,b<h.next→h'.get b=h.get b
 wf:WF h→WF h'
theorem Ext.refl(h:Heap):Ext h h:=⟨Nat.le_refl _,rfl,fun _ _=>rfl,id⟩
theorem Ext.trans{a b c:Heap}(h:Ext a b)(g:Ext b c):Ext a c:=⟨Nat.le_trans h.next g.next,g.log.trans h.log,fun x hx=>(g.old x (Nat.lt_of_lt_of_le hx h.next)).trans (h.old x hx),fun w=>g.wf (h.wf w)⟩
theorem Ext.push{a b:Heap}(h:Ext a b)(o:bN):Ext a (b.push o):=⟨Nat.le_succ_of_le h.next,h.log,fun x hx=>(Heap.je (Nat.lt_of_lt_of_le hx h.next)).trans (h.old x hx),fun w=>(h.wf w).push o⟩
theorem Dd{l:List (Nat×bN)}{b:Nat}(hb:b ∉ l.map (·.1)):eX l b=none:=by
 induction l with
 |nil=>rfl
 |cons p l ih=>
  obtain⟨k,o⟩:=p
  simp only[List.map_cons,List.mem_cons,not_or]at hb
  simp only[eX,cond_eq_ite,beq_eq,decide_eq_true_eq]
  rw[if_neg (Ne.symm hb.1)];exact ih hb.2
theorem Ca{h h1:Heap}{v:Value}(hw:WF h)(hA:AS h.next h h1)(hl:h1.log=h.log)(h0:h.log=[])(hv:cw v=true):gcA h h1 v=h:=by
 have hA':=hA.keys
 have e:bE (h1.next-h.next) h1.bM=h.bM:=by
  rw[cg]
  have hlen:(cN h.next (h1.next-h.next)).length=h1.next-h.next:=by
   generalize h1.next-h.next=n
   induction n with
   |zero=>rfl
   |succ n ih=>simp[cN,ih]
  have hk:(h1.bM.drop (h1.next-h.next)).map (·.1)=h.bM.map (·.1):=by
   rw[List.map_drop,hA',List.drop_append_of_le_length (by omega),List.drop_of_length_le (by omega),List.nil_append]
  refine LY hk hw.nodup fun b hb=> ?_
  have hbl:=hw.lt b hb
  have hs:=hA.same b hbl hbl (by rw[hl,h0];rfl)
  have hsplit:h1.bM=h1.bM.take (h1.next-h.next)++h1.bM.drop (h1.next-h.next):=(List.take_append_drop _ _).symm
  have hkt:(h1.bM.take (h1.next-h.next)).map (·.1)=cN h.next (h1.next-h.next):=by
   rw[List.map_take,hA',List.take_append_of_le_length (by omega),List.take_of_length_le (by omega)]
  have:=kn _ h.next _ (h1.bM.drop (h1.next-h.next)) hkt b hbl
  rw[←hsplit]at this
  exact this.symm.trans hs
 simp only[gcA,hv,hl,h0,fN,Bool.and_true,cond_true,nD,e]
 cases h;simp at h0⊢;exact h0
structure Rdy (h:Heap):Prop where
 wf:WF h
 log:h.log=[]
def Pu(T:Nat→Option ah)(f:Nat)(args:List Value)(h:Heap)(v:Value):Prop:=CW T f args h fun r h'=>r= .ret v∧h'=h
structure Nw (rs:List (Nat×Option (Option Nat))) (v0:Value) (x:bA) (e:Env) (ds:Dfs) (h1:Heap):Prop where
 ok:(x= .normal∨x= .ret)∧ds=[]∧h1.log=[]∧∃vs,cH h1 e rs=some vs∧fP vs=v0
theorem aF{rs:List (Nat×Option (Option Nat))}{v0:Value}{vs:List Value}(hl:h.log=[])(hr:cH h e rs=some vs)(hv:fP vs=v0):Nw rs v0 .ret e [] h:=⟨⟨.inr rfl,rfl,hl,vs,hr,hv⟩⟩
theorem Pu.of(hp:bg T){f:Nat}{args:List Value}{c:bn}{rs:List (Nat×Option (Option Nat))}{v0:Value}(hf:T f=some (.code c rs))(hr:Rdy h)(hv:cw v0=true)(H:WE T h.next none c (Nw rs v0) (ez 0 args) [] h):Pu T f args h v0:=by
 obtain⟨x,e,ds,h1,⟨m,hm⟩,⟨hx,rfl,hl,vs,hvs,rfl⟩⟩:=H.ok
 have hA:=(fI.all hp m).exec _ _ _ _ _ _ _ _ _ _ (hm m (Nat.le_refl _)) (Nat.le_refl _)
 refine CW.code hf ⟨x,e,[],h1,⟨m,hm⟩,?_⟩
 unfold yG
 have hg:=Ca hr.wf hA (hl.trans hr.log.symm) hr.log hv
 rcases hx with rfl|rfl
 ·simp only[hvs,hg];exact⟨trivial,trivial⟩
 ·simp only[hvs,hg];exact⟨trivial,trivial⟩
theorem FW.pu{f:Nat}{args:List Value}{v:Value}{K:Env→Dfs→Heap→Prop}{dst:Option Nat}(H:Pu T f args {h with log:=[]} v)(hK:K (bO e dst v) ds h):FW T (.func f) args {h with log:=[]} (KO K Q base dst e ds h.log):=by
 refine .func (CW.mono H ?_)
 rintro r h' ⟨rfl,rfl⟩
 exact⟨hK⟩
theorem Rdy.of{h:Heap}(hw:WF h):Rdy {h with log:=[]}:=⟨hw.log [],rfl⟩
theorem FW.puD{f:Nat}{args:List Value}{v:Value}{K:List Rec→Env→Heap→Prop}{mask:Nat}{rs rs':List Rec}{dst:Option Nat}(H:Pu T f args {h with log:=[]} v)(hrs:bB h base [] mask rs=some rs')(hK:K rs' (bO e dst v) h):
 FW T (.func f) args {h with log:=[]} (KD K base mask rs dst e h.log):=by
 refine .func (CW.mono H ?_)
 rintro r h' ⟨rfl,rfl⟩
 refine⟨?_⟩
 show(match bB {h with log:=aD base h.log []} base [] mask rs with
  |some rs'=>K rs' (bO e dst v) {h with log:=aD base h.log []}
  |none=>False)
 have:({h with log:=aD base h.log []}:Heap)=h:=rfl
 rw[this,hrs]
 exact hK
structure qx (h:Heap) (b o n sz:Nat) (cs:List Value):Prop where
 lt:b<h.next
 obj:∃vs own s,h.get b=some (.cells vs own s)∧bV (n*sz) (bE o vs)=cs
 len:cs.length=n*sz
inductive ef (h:Heap) (sz:Nat):Value→Nat→List Value→Prop
 |nil {c}:ef h sz (.slice none 0 c) 0 []
 |mem {b o n cap cs}:qx h b o n sz cs→n≤cap→ef h sz (.slice (some ⟨b,o,none⟩) n cap) n cs
theorem qx.ext{h h':Heap}{b o n sz:Nat}{cs:List Value}(s:qx h b o n sz cs)(x:Ext h h'):qx h' b o n sz cs:=by
 obtain⟨vs,own,t,h1,h2⟩:=s.obj
 exact⟨Nat.lt_of_lt_of_le s.lt x.next,⟨vs,own,t,(x.old _ s.lt).trans h1,h2⟩,s.len⟩
theorem ef.ext{h h':Heap}{sz n:Nat}{v:Value}{cs:List Value}(s:ef h sz v n cs)(x:Ext h h'):ef h' sz v n cs:=by
 cases s with
 |nil=>exact .nil
 |mem s hc=>exact .mem (s.ext x) hc
theorem ef.form{h:Heap}{sz n:Nat}{v:Value}{cs:List Value}(s:ef h sz v n cs):∃a c,v= .slice a n c:=by
 cases s<;>exact⟨_,_,rfl⟩
theorem ef.log{h:Heap}{sz n:Nat}{v:Value}{cs:List Value}(s:ef h sz v n cs)(l:List Nat):ef {h with log:=l} sz v n cs:=by
 cases s with
 |nil=>exact .nil
 |mem s hc=>exact .mem ⟨s.lt,s.obj,s.len⟩ hc
theorem ef.inv{h:Heap}{sz n:Nat}{v:Value}{cs:List Value}(s:ef h sz v n cs):(∃c,v= .slice none 0 c∧n=0∧cs=[])∨∃b o cap,v= .slice (some ⟨b,o,none⟩) n cap∧qx h b o n sz cs∧n≤cap:=by
 cases s with
 |nil=>exact .inl ⟨_,rfl,rfl,rfl⟩
 |mem s hc=>exact .inr ⟨_,_,_,rfl,s,hc⟩
theorem AD{k:IntKind}{a b:Int}(h:b≤a):aq .geq (.int k a) (.int k b)=some (.bool true):=by rw[Ij,decide_eq_true h]
theorem Be{k:IntKind}{a b:Int}(h:a<b):aq .geq (.int k a) (.int k b)=some (.bool false):=by rw[Ij,decide_eq_false (by omega)]
theorem kJ{k:IntKind}{a b:Int}(h:a≤b):aq .leq (.int k a) (.int k b)=some (.bool true):=by rw[Kx,decide_eq_true h]
theorem lH{k:IntKind}{a b:Int}(h:b<a):aq .leq (.int k a) (.int k b)=some (.bool false):=by rw[Kx,decide_eq_false (by omega)]
theorem fm{k:IntKind}{a b:Int}(h:a<b):aq .lss (.int k a) (.int k b)=some (.bool true):=by rw[Kq,decide_eq_true h]
theorem fF{k:IntKind}{a b:Int}(h:b≤a):aq .lss (.int k a) (.int k b)=some (.bool false):=by rw[Kq,decide_eq_false (by omega)]
theorem jj{k:IntKind}{a b:Int}(h:b<a):aq .gtr (.int k a) (.int k b)=some (.bool true):=by rw[KG,decide_eq_true h]
theorem jA{k:IntKind}{a b:Int}(h:a≤b):aq .gtr (.int k a) (.int k b)=some (.bool false):=by rw[KG,decide_eq_false (by omega)]
theorem F5{k:IntKind}{a b:Int}(h:a=b):aq .eql (.int k a) (.int k b)=some (.bool true):=by rw[KI];simp[h]
theorem xz{k:IntKind}{a b:Int}(h:a≠b):aq .eql (.int k a) (.int k b)=some (.bool false):=by rw[KI];simp[h]
theorem xg{k:IntKind}{a b:Int}(h:a≠b):aq .neq (.int k a) (.int k b)=some (.bool true):=by rw[BV];simp[h]
theorem AM{k:IntKind}{a b:Int}(h:a=b):aq .neq (.int k a) (.int k b)=some (.bool false):=by rw[BV];simp[h]
def Al(T:Nat→Option ah)(f:Nat)(args:List Value)(h:Heap)(Q:Value→Heap→Prop):Prop:=CW T f args h fun r h'=>Ext h h'∧∃v,r= .ret v∧Q v h'
structure OL (rs:List (Nat×Option (Option Nat))) (Q:Value→Heap→Prop) (x:bA) (e:Env) (ds:Dfs) (h1:Heap):Prop where
 ok:(x= .normal∨x= .ret)∧ds=[]∧h1.log=[]∧∃vs,cH h1 e rs=some vs∧Q (fP vs) h1
theorem dN{rs:List (Nat×Option (Option Nat))}{Q:Value→Heap→Prop}{vs:List Value}(hl:h.log=[])(hr:cH h e rs=some vs)(hq:Q (fP vs) h):OL rs Q .ret e [] h:=⟨⟨.inr rfl,rfl,hl,vs,hr,hq⟩⟩
theorem Ext.rX{h h1:Heap}(hr:Rdy h)(hA:AS h.next h h1)(hl:h1.log=[]):Ext h h1:=
 ⟨hA.next,hl.trans hr.log.symm,fun b hb=>hA.same b hb hb (by rw[hl];rfl),fun w=>w.as hA⟩
theorem Al.of(hp:bg T){f:Nat}{args:List Value}{c:bn}{rs:List (Nat×Option (Option Nat))}{Q:Value→Heap→Prop}(hf:T f=some (.code c rs))(hr:Rdy h)(hQ:∀v h1,cw v=true→Q v h1→Q v h)(H:WE T h.next none c (OL rs Q) (ez 0 args) [] h):Al T f args h Q:=by
 obtain⟨x,e,ds,h1,⟨m,hm⟩,⟨hx,rfl,hl,vs,hvs,hq⟩⟩:=H.ok
 have hA:=(fI.all hp m).exec _ _ _ _ _ _ _ _ _ _ (hm m (Nat.le_refl _)) (Nat.le_refl _)
 refine CW.code hf ⟨x,e,[],h1,⟨m,hm⟩,?_⟩
 have key:Ext h (gcA h h1 (fP vs))∧Q (fP vs) (gcA h h1 (fP vs)):=by
  cases hv:cw (fP vs)with
  |true=>
   rw[Ca hr.wf hA (hl.trans hr.log.symm) hr.log hv]
   exact⟨.refl _,hQ _ _ hv hq⟩
  |false=>
   have:gcA h h1 (fP vs)=h1:=by simp[gcA,hv]
   rw[this]
   exact⟨.rX hr hA hl,hq⟩
 unfold yG
 rcases hx with rfl|rfl
 ·simp only[hvs];exact⟨key.1,_,rfl,key.2⟩
 ·simp only[hvs];exact⟨key.1,_,rfl,key.2⟩
theorem Ext.Hu{h h':Heap}(x:Ext {h with log:=[]} h'):Ext h {h' with log:=aD base h.log h'.log}:=by
 have:h'.log=[]:=x.log
 refine⟨x.next,by rw[this];rfl,x.old,fun w=>(x.wf (w.log [])).log _⟩
theorem FW.al{f:Nat}{args:List Value}{Q':Value→Heap→Prop}{K:Env→Dfs→Heap→Prop}{dst:Option Nat}(H:Al T f args {h with log:=[]} Q')(hlog:∀v (h':Heap) l,Q' v h'→Q' v {h' with log:=l})
 (hK:∀v h',Ext h h'→Q' v h'→K (bO e dst v) ds h'):FW T (.func f) args {h with log:=[]} (KO K Q base dst e ds h.log):=by
 refine .func (CW.mono H ?_)
 rintro r h' ⟨hx,v,rfl,hq⟩
 exact⟨hK v _ hx.Hu (hlog v h' _ hq)⟩
theorem FW.alD{f:Nat}{args:List Value}{Q':Value→Heap→Prop}{K:List Rec→Env→Heap→Prop}{mask:Nat}{rs:List Rec}{dst:Option Nat}(H:Al T f args {h with log:=[]} Q')(hlog:∀v (h':Heap) l,Q' v h'→Q' v {h' with log:=l})
 (hK:∀v h',Ext h h'→Q' v h'→∃rs',bB h' base [] mask rs=some rs'∧K rs' (bO e dst v) h'):FW T (.func f) args {h with log:=[]} (KD K base mask rs dst e h.log):=by
 refine .func (CW.mono H ?_)
 rintro r h' ⟨hx,v,rfl,hq⟩
 refine⟨?_⟩
 obtain⟨rs',h1,h2⟩:=hK v _ (hx.Hu (base:=base)) (hlog v h' _ hq)
 show(match bB {h' with log:=aD base h.log h'.log} base h'.log mask rs with
  |some rs'=>K rs' (bO e dst v) {h' with log:=aD base h.log h'.log}
  |none=>False)
 have hl:h'.log=[]:=hx.log
 rw[hl]at h1 h2⊢
 rw[h1];exact h2
theorem bY{t n b o s:Nat}{own:Bool}{ws l:List Value}{rs:List (Nat×Option (Option Nat))}{vs:List Value}(ht:geT e t=some (.pointer (some ⟨b,o,none⟩)))(hb:h.get b=some (.cells ws own s))(hl:bV n (bE o ws)=l)(hn:Nat.beq (bR l) n=true)(hr:cH h e rs=some vs):
 cH h e ((t,some (some n))::rs)=some (.agg l.toArray::vs):=by simp only[cH,ht,nP,hb,hl,hn,cond_true,hr]
theorem GX{t b o s:Nat}{own:Bool}{ws:List Value}{v:Value}{rs:List (Nat×Option (Option Nat))}{vs:List Value}(ht:geT e t=some (.pointer (some ⟨b,o,none⟩)))(hb:h.get b=some (.cells ws own s))(hl:cm ws o=some v)(hr:cH h e rs=some vs):
 cH h e ((t,some none)::rs)=some (v::vs):=by simp only[cH,ht,nP,hb,hl,hr]
theorem cM{log:List Nat}{mask:Nat}:bB h base log mask []=some []:=rfl
theorem IZ{log:List Nat}{mask:Nat}{r:Rec}{rs rs':List Rec}(hb:Nat.testBit mask r.i=true)(H:bB h base log mask rs=some rs'):bB h base log mask (r::rs)=some rs':=by
 simp only[bB,hb,cond_true,H]
theorem JV{log:List Nat}{mask:Nat}{r:Rec}{rs rs':List Rec}(hb:Nat.testBit mask r.i=false)(hq:pL h base r=true)(hm:DO log r=true)(H:bB h base log mask rs=some rs'):bB h base log mask (r::rs)=some (r::rs'):=by
 simp only[bB,hb,hq,hm,Bool.and_true,cond_true,cond_false,H]
theorem IQ{r:Rec}{b:Nat}(hk:r.k= .made b):pL h base r=true:=by simp only[pL,hk]
theorem aU{r:Rec}(hk:r.k= .quiet)(hv:aop h base r.e r.o.op=some (.val r.v h))(hs:jK r.v r.v=true):pL h base r=true:=by
 have hb:Nat.beq h.next h.next=true:=by rw[beq_eq];simp
 simp only[pL,hk,hv,hs,hb,Bool.and_self]
theorem Av:mj h base []=true:=rfl
theorem eT{r:Rec}{rs:List Rec}(h1:pL h base r=true)(h2:mj h base rs=true):mj h base (r::rs)=true:=by simp only[mj,h1,cond_true,h2]
theorem eF(a:Option Addr):jK (.pointer a) (.pointer a)=true:=by simp[jK,lu]
theorem iN(k:IntKind)(n:Int):jK (.int k n) (.int k n)=true:=by simp[jK,lu]
theorem pS(a:Option Addr)(n c:Nat):jK (.slice a n c) (.slice a n c)=true:=by simp[jK,lu]
theorem mH{c:Array Value}(h:j5 c.toList c.toList=true):jK (.agg c) (.agg c)=true:=h
theorem Bl:j5 [] []=true:=rfl
theorem dH{v:Value}{l:List Value}(h1:lu v v=true)(h2:j5 l l=true):j5 (v::l) (v::l)=true:=by simp only[j5,h1,cond_true,h2]
theorem ew(k:IntKind)(n:Int):lu (.int k n) (.int k n)=true:=by simp[lu]
theorem iR{b o n c size:Nat}{vs cs:List Value}{own:Bool}{s:Nat}(hb:h.get b=some (.cells vs own s))(hc:bV (n*size) (bE o vs)=cs)(hl:cs.length=n*size):dF h size (.slice (some ⟨b,o,none⟩) n c)=some (cs,n):=by
 simp only[dF,hb,hc,ct,hl,beq_eq,decide_true,cond_true]
theorem M0{size n:Nat}{v:Value}{cs:List Value}(s:ef h size v n cs):dF h size v=some (cs,n):=by
 cases s with
 |nil=>rfl
 |mem s _=>
  obtain⟨vs,own,t,h1,h2⟩:=s.obj
  exact iR h1 h2 s.len
theorem vu{size bytes n c:Nat}{x y:Operand}{v:Value}{cs:List Value}(hx:ev h e x=some (.slice none 0 0))(hy:ev h e y=some v)(hs:dF h size v=some (cs,n))(hn:n≠0)(hb:(2*(0+n)+768)*bytes≤281474976710656)(hc:c=UNK):
 aop h base e (.append size bytes x y)=some (.val (.slice (some ⟨h.next,0,none⟩) n c) (h.push (.cells cs true size))):=by
 have h0:Nat.beq n 0=false:=by rw[beq_eq];simpa using hn
 have h1:Nat.ble ((2*(0+n)+768)*bytes) 281474976710656=true:=by rw[ble_eq];simpa using hb
 subst hc
 simp only[aop,hx,hy,hs,iL,h0,h1,cond_true,cond_false,Nat.beq,Bool.and_self,fq]
theorem pP{size bytes len n q:Nat}{x y:Operand}{v:Value}{vs cs ws:List Value}(hx:ev h e x=some (.slice (some ⟨q,0,none⟩) len UNK))(hy:ev h e y=some v)(hs:dF h size v=some (cs,n))(hn:n≠0)(hq:h.get q=some (.cells vs true size))(hl:vs.length=len*size)
 (hsz:0<size)(h1:eM cs=true)(hb:(2*(len+n)+768)*bytes≤281474976710656)(hw:dQ vs cs=ws):
 aop h base e (.append size bytes x y)=some (.val (.slice (some ⟨h.next,0,none⟩) (len+n) UNK) ((h.wr base q .dead).push (.cells ws true size))):=by
 have h0:Nat.beq n 0=false:=by rw[beq_eq];simpa using hn
 have h2:Nat.ble ((2*(len+n)+768)*bytes) 281474976710656=true:=by rw[ble_eq];simpa using hb
 have h3:Nat.beq UNK UNK=true:=by rw[beq_eq];simp
 have h4:Nat.beq size size=true:=by rw[beq_eq];simp
 have h5:Nat.ble (0+(len+n)*size) (bR vs)=false:=by
  rw[ble_eq,ct,hl,Nat.add_mul]
  have:0<n*size:=Nat.mul_pos (Nat.pos_of_ne_zero hn) hsz
  simp;omega
 have h6:Nat.beq (len*size) (bR vs)=true:=by rw[beq_eq,ct,hl];simp
 simp only[aop,hx,hy,hs,iL,h0,h2,hq,h3,h4,h5,h6,h1,Bool.and_true,Bool.false_and,cond_true,cond_false,hw,fq,Nat.beq]
theorem pK{size bytes len n q o c s:Nat}{own:Bool}{x y:Operand}{v:Value}{vs cs ws:List Value}(hx:ev h e x=some (.slice (some ⟨q,o,none⟩) len c))(hy:ev h e y=some v)(hs:dF h size v=some (cs,n))(hn:n≠0)(hc:c<len+n)(hu:c<UNK)
 (hq:h.get q=some (.cells vs own s))(hl:o+len*size≤vs.length)(hb:(2*(len+n)+768)*bytes≤281474976710656)(hw:dQ (bV (len*size) (bE o vs)) cs=ws):
 aop h base e (.append size bytes x y)=some (.val (.slice (some ⟨h.next,0,none⟩) (len+n) UNK) (h.push (.cells ws true size))):=by
 have h0:Nat.beq n 0=false:=by rw[beq_eq];simpa using hn
 have h2:Nat.ble ((2*(len+n)+768)*bytes) 281474976710656=true:=by rw[ble_eq];simpa using hb
 have h3:Nat.beq c UNK=false:=by rw[beq_eq];simp;omega
 have h4:Nat.ble (len+n) c=false:=by rw[ble_eq];simp;omega
 have h5:Nat.ble (o+len*size) (bR vs)=true:=by rw[ble_eq,ct];simpa using hl
 simp only[aop,hx,hy,hs,iL,h0,h2,hq,h3,h4,h5,cond_true,cond_false,hw,fq]
theorem pg{size bytes len c:Nat}{a:Option Addr}{x y:Operand}{v:Value}(hx:ev h e x=some (.slice a len c))(hy:ev h e y=some v)(hs:dF h size v=some ([],0))(hc:len≤c):aop h base e (.append size bytes x y)=some (.val (.slice a len c) h):=by
 have h2:Nat.ble len c=true:=by rw[ble_eq];simpa using hc
 simp only[aop,hx,hy,hs,iL,h2,cond_true,Nat.beq,fq]
theorem sS{ops:List aZ}{bf:List Nat}{rs rs':List Rec}{Q:Env→Heap→Prop}{i mask:Nat}{is:List Nat}{dst:Option Nat}{op:AOp}{g:Option (Nat×Bool)}{er:Env}{v:Value}{h2 h3:Heap}{lg:List Nat}(ho:cm ops i=some ⟨dst,op,g⟩)(hm:cm bf i=some mask)
 (he:bG e (cC ⟨dst,op,g⟩)=er)(hw:bJ er g=some true)(hq:ja op=false)(hop:aop {h with log:=[]} h.next er op=some (.val v h2))(h3e:({h2 with log:=aD base h.log h2.log}:Heap)=h3)(hlg:h2.log=lg)
 (hrs:bB h3 base lg mask rs=some rs')(H:WD T base ops bf Q is rs' (bO e dst v) h3):WD T base ops bf Q (i::is) rs e h:=by
 subst h3e;subst hlg
 exact Lh ho hm he hw hq hop hrs H
theorem vp{b:Nat}(hb:b<h.next)(o:bN):(({h with log:=[]}:Heap).wr h.next b o).log=[b]:=by
 simp[Heap.wr,blt_eq,hb,fu]
theorem HL{b:Nat}(hb:b<h.next)(hbb:base≤b)(o:bN):({({h with log:=[]}:Heap).wr h.next b o with log:=aD base h.log (({h with log:=[]}:Heap).wr h.next b o).log}:Heap)=h.wr base b o:=by
 rw[vp hb]
 have h1:Nat.blt b base=false:=by rw[blt_eq];simp;omega
 simp only[Heap.wr,aD,h1,cond_false]
theorem iD{ops:List aZ}{bf:List Nat}{rs rs':List Rec}{Q:Env→Heap→Prop}{i mask:Nat}{is:List Nat}{dst:Option Nat}{x y:Operand}{n b o sz:Nat}{vs ws:List Value}{v:Value}{g:Option (Nat×Bool)}{er:Env}(ho:cm ops i=some ⟨dst, .store n x y,g⟩)(hm:cm bf i=some mask)
 (he:bG e (cC ⟨dst, .store n x y,g⟩)=er)(hw:bJ er g=some true)(hx:ev {h with log:=[]} er x=some (.pointer (some ⟨b,o,none⟩)))(hy:ev {h with log:=[]} er y=some v)(hb:h.get b=some (.cells vs true sz))
 (hc:(Nat.beq (bR (cellsOf v)) n&&Nat.ble (o+n) (bR vs)&&eM (cellsOf v))=true)(hws:cU vs o (cellsOf v)=ws)(hlt:b<h.next)(hbb:base≤b)(hrs:bB (h.wr base b (.cells ws true sz)) base [b] mask rs=some rs')
 (H:WD T base ops bf Q is rs' (bO e dst (.tuple #[])) (h.wr base b (.cells ws true sz))):WD T base ops bf Q (i::is) rs e h:=
 sS ho hm he hw rfl (jb (h:={h with log:=[]}) hx hy hb hc hws) (HL hlt hbb _) (vp hlt _) hrs H
theorem Heap.zW{h:Heap}{o:bN}{x:Nat}(h1:x≤h.next)(h2:h.next≤x):(h.push o).get x=some o:=by rw[Heap.dx,if_pos (Nat.le_antisymm h1 h2)]
theorem Heap.CV{h:Heap}{base b:Nat}{o:bN}{x:Nat}(h1:x≤b)(h2:b≤x):(h.wr base b o).get x=(h.get x).map fun _=>o:=by rw[Heap.kI,if_pos (Nat.le_antisymm h1 h2),Nat.le_antisymm h1 h2]
theorem aW{log:List Nat}{mask i:Nat}{o:aZ}{e:Env}{v:Value}{k:Rk}{rs rs':List Rec}(hb:Nat.testBit mask i=true)(H:bB h base log mask rs=some rs'):bB h base log mask (⟨i,o,e,v,k⟩::rs)=some rs':=IZ hb H
theorem bL{log:List Nat}{mask i:Nat}{o:aZ}{e:Env}{v:Value}{k:Rk}{rs rs':List Rec}(hb:Nat.testBit mask i=false)(hq:pL h base ⟨i,o,e,v,k⟩=true)(hm:DO log ⟨i,o,e,v,k⟩=true)(H:bB h base log mask rs=some rs'):
 bB h base log mask (⟨i,o,e,v,k⟩::rs)=some (⟨i,o,e,v,k⟩::rs'):=JV hb hq hm H
theorem nV{x:Operand}{k:IntKind}{n d:Nat}(hx:ev h e x=some (.int k (n:Nat))):bnd h e d (some x)=some n:=by
 have:(.int k (n:Nat):Value)= .int k (Int.ofNat n):=rfl
 rw[this]at hx
 simp only[bnd,hx,oe]
theorem nS{d:Nat}:bnd h e d none=some d:=rfl
theorem oP(n:Nat):Nat.beq n n=true:=by rw[beq_eq];simp
theorem gF{a b:Nat}(h:a≤b):Nat.ble a b=true:=by rw[ble_eq];simpa using h
theorem gj{a b:Nat}(h:a<b):Nat.blt a b=true:=by rw[blt_eq];simpa using h
theorem nv{a b:Nat}(h:¬a<b):Nat.blt a b=false:=by rw[blt_eq];simpa using h
theorem qy{a b:Nat}(h:a≠b):Nat.beq a b=false:=by rw[beq_eq];simpa using h
theorem o7{size b o n i:Nat}{k:IntKind}{x y:Operand}{vs:List Value}{own:Bool}(hx:ev h e x=some (.slice (some ⟨b,o,none⟩) n UNK))(hy:ev h e y=some (.int k (i:Nat)))(hb:h.get b=some (.cells vs own size))(hi:i≤n)(h0:0<n):
 aop h base e (.slice (.sl size) x none (some y) none)=some (.val (.slice (some ⟨b,o,none⟩) i UNK) h):=by
 simp only[aop,hx,fQ,nV hy,nS,hb,oP,gF (Nat.zero_le _),gF hi,gj h0,Bool.true_or,Bool.and_true,cond_true,fq,Nat.zero_mul,Nat.add_zero,Nat.sub_zero]
theorem mF{size b o n i:Nat}{k:IntKind}{x y:Operand}{vs:List Value}{own:Bool}(hx:ev h e x=some (.slice (some ⟨b,o,none⟩) n UNK))(hy:ev h e y=some (.int k (i:Nat)))(hb:h.get b=some (.cells vs own size))(hi:i<n):
 aop h base e (.slice (.sl size) x (some y) none none)=some (.val (.slice (some ⟨b,o+i*size,none⟩) (n-i) UNK) h):=by
 simp only[aop,hx,fQ,nV hy,nS,hb,oP,gF (Nat.le_of_lt hi),gF (Nat.le_refl n),gj hi,Bool.true_or,Bool.and_true,cond_true,fq]
theorem Ak{size b o n:Nat}{k:IntKind}{x y:Operand}{vs:List Value}{own:Bool}(hx:ev h e x=some (.slice (some ⟨b,o,none⟩) n UNK))(hy:ev h e y=some (.int k (n:Nat)))(hb:h.get b=some (.cells vs own size))(h0:n≠0):
 aop h base e (.slice (.sl size) x (some y) none none)=some (.val (.slice (some ⟨h.next,0,none⟩) 0 UNK) (h.push (.cells [] false size))):=by
 simp only[aop,hx,fQ,nV hy,nS,hb,oP,gF (Nat.le_refl n),nv (Nat.lt_irrefl n),qy h0,Bool.or_self,Bool.true_or,Bool.and_true,cond_true,cond_false,fq]
theorem B0{z vs ws:List Value}{x:Operand}{b o n c sz:Nat}(hx:ev h e x=some (.slice (some ⟨b,o,none⟩) n c))(hn:n≠0)(hb:h.get b=some (.cells vs true sz))(hl:o+(eN n z).length≤vs.length)(h1:eM (eN n z)=true)(hw:cU vs o (eN n z)=ws):
 aop h base e (.clear z x)=some (.val (.tuple #[]) (h.wr base b (.cells ws true sz))):=by
 have h5:Nat.ble (o+bR (eN n z)) (bR vs)=true:=by rw[ct,ct];exact gF hl
 simp only[aop,hx,qy hn,hb,h5,h1,Bool.and_true,cond_true,cond_false,hw]
theorem Mi{b:Nat}(hb:b<h.next)(o:bN):({({h with log:=[]}:Heap).wr h.next b o with log:=aD base h.log (({h with log:=[]}:Heap).wr h.next b o).log}:Heap)=h.wr base b o:=by
 rw[vp hb]
 rfl
theorem jt{α:Type}{l m:List α}{o:Nat}(ho:o+m.length≤l.length):cU l o m=l.take o++m++l.drop (o+m.length):=by
 apply List.ext_getElem?
 intro i
 rw[lZ m l o i ho]
 by_cases h1:o≤i∧i<o+m.length
 ·rw[if_pos h1,List.getElem?_append_left (by simp;omega),List.getElem?_append_right (by simp;omega)]
  congr 1;simp;omega
 ·rw[if_neg h1]
  by_cases h2:i<o
  ·rw[List.getElem?_append_left (by simp;omega),List.getElem?_append_left (by simp;omega),List.getElem?_take_of_lt h2]
  ·rw[List.getElem?_append_right (by simp;omega),List.getElem?_drop]
   congr 1;simp;omega
structure Upd (h h':Heap) (b:Nat) (o:bN):Prop where
 next:h.next≤h'.next
 log:h'.log=[b]
 old:∀x,x<h.next→x≠b→h'.get x=h.get x
 obj:h'.get b=some o
 wf:WF h→WF h'
end Go.A
end
section
namespace Go.A
theorem z1(h:Heap)(o:bN):(h.push o).next=h.next+1:=rfl
theorem z2(h:Heap)(base b:Nat)(o:bN):(h.wr base b o).next=h.next:=rfl
theorem z3(h:Heap)(o:bN):(h.push o).get h.next=some o:=Heap.mJ h o
theorem z4{h:Heap}{o:bN}{x:Nat}(hx:x<h.next):(h.push o).get x=h.get x:=Heap.je hx
theorem z5{h:Heap}{base b:Nat}{o:bN}{x:Nat}(hx:x≠b):(h.wr base b o).get x=h.get x:=Heap.iM hx
theorem z6(h:Heap)(base b:Nat)(o:bN):(h.wr base b o).get b=(h.get b).map fun _=>o:=Heap.y9 h base b o
theorem z7{α β:Type}(f:α→β)(a:α):Option.map f (some a)=some (f a):=rfl
theorem z8{h:Heap}{o:bN}{x:Nat}(h1:x≤h.next)(h2:h.next≤x):(h.push o).get x=some o:=Heap.zW h1 h2
theorem z9{h:Heap}{base b:Nat}{o:bN}{x:Nat}(h1:x≤b)(h2:b≤x):(h.wr base b o).get x=(h.get x).map fun _=>o:=Heap.CV h1 h2
end Go.A
end
section
namespace Go.A
variable {T:Nat→Option ah} {base:Nat} {rnd:Option Nat} {Q:XQ} {e:Env} {ds:Dfs} {h:Heap}
def fG(lo:Nat)(l:List Nat):Prop:=∀x∈l,lo≤x
theorem fG.nil(lo:Nat):fG lo []:=fun x hx=>by cases hx
theorem fG.merge{lo base:Nat}:∀{m l:List Nat},fG lo l→fG lo m→fG lo (aD base l m)
 |[],l,h1,_=>h1
 |b::m,l,h1,h2=>by
  simp only[aD]
  refine fG.merge ?_ fun x hx=>h2 x (List.mem_cons_of_mem _ hx)
  have hb:=h2 b (List.mem_cons_self ..)
  simp only[cond_eq_ite]
  split
  ·split
   ·exact h1
   ·intro x hx
    rcases List.mem_cons.1 hx with rfl|hx
    ·exact hb
    ·exact h1 x hx
  ·exact h1
structure Lk (lo:Nat) (h h':Heap):Prop where
 next:h.next≤h'.next
 log:fG lo h.log→fG lo h'.log
 old:∀x,x<lo→h'.get x=h.get x
 wf:WF h→WF h'
theorem Lk.refl(lo:Nat)(h:Heap):Lk lo h h:=⟨Nat.le_refl _,id,fun _ _=>rfl,id⟩
theorem Lk.trans{lo:Nat}{a b c:Heap}(x:Lk lo a b)(y:Lk lo b c):Lk lo a c:=⟨Nat.le_trans x.next y.next,fun h=>y.log (x.log h),fun z hz=>(y.old z hz).trans (x.old z hz),fun w=>y.wf (x.wf w)⟩
theorem Lk.push{lo:Nat}{a b:Heap}(x:Lk lo a b)(hlo:lo≤b.next)(o:bN):Lk lo a (b.push o):=x.trans ⟨Nat.le_succ _,id,fun z hz=>Heap.je (by omega),fun w=>w.push o⟩
theorem Ext.lk{lo:Nat}{a b:Heap}(x:Ext a b)(hlo:lo≤a.next):Lk lo a b:=⟨x.next,fun h=>by rw[x.log];exact h,fun z hz=>x.old z (by omega),x.wf⟩
theorem pM{l:List Nat}{x:Nat}(h:x ∉ l):fu l x=false:=by
 cases e:fu l x with
 |false=>rfl
 |true=>exact(h (jc.1 e)).elim
theorem Lk.rX{lo:Nat}{h h':Heap}(hA:AS h.next h h')(hlo:lo≤h.next)(hl:fG lo h'.log):Lk lo h h':=
 ⟨hA.next,fun _=>hl,fun x hx=>hA.same x (by omega) (by omega) (pM fun hm=>by have:=hl x hm;omega),fun w=>w.as hA⟩
theorem Lk.call{lo:Nat}{h h2:Heap}(x:Lk lo {h with log:=[]} h2):Lk lo h {h2 with log:=aD base h.log h2.log}:=
 ⟨x.next,fun hl=>hl.merge (x.log (fG.nil _)),x.old,fun w=>(x.wf (w.log [])).log _⟩
def Gr(T:Nat→Option ah)(f:Nat)(args:List Value)(h:Heap)(lo:Nat)(Q:Value→Heap→Prop):Prop:=CW T f args h fun r h'=>Lk lo h h'∧∃v,r= .ret v∧Q v h'
structure Lo (rs:List (Nat×Option (Option Nat))) (lo:Nat) (Q:Value→Heap→Prop) (x:bA) (e:Env) (ds:Dfs) (h1:Heap):Prop where
 ok:(x= .normal∨x= .ret)∧ds=[]∧fG lo h1.log∧∃vs,cH h1 e rs=some vs∧Q (fP vs) h1
theorem y7{rs:List (Nat×Option (Option Nat))}{lo:Nat}{Q:Value→Heap→Prop}{vs:List Value}(hl:fG lo h.log)(hr:cH h e rs=some vs)(hq:Q (fP vs) h):Lo rs lo Q .ret e [] h:=⟨⟨.inr rfl,rfl,hl,vs,hr,hq⟩⟩
theorem EM{rs:List (Nat×Option (Option Nat))}{lo:Nat}{Q:Value→Heap→Prop}{vs:List Value}(hl:fG lo h.log)(hr:cH h e rs=some vs)(hq:Q (fP vs) h):Lo rs lo Q .normal e [] h:=⟨⟨.inl rfl,rfl,hl,vs,hr,hq⟩⟩
theorem qh{h h1:Heap}{v:Value}(hA:AS h.next h h1):(∀x,x<h.next→(gcA h h1 v).get x=h1.get x)∧h.next≤(gcA h h1 v).next∧(gcA h h1 v).log=h1.log∧(cw v=false→gcA h h1 v=h1):=by
 unfold gcA
 cases hc:(cw v&&fN h1 h.next h1.log)with
 |false=>exact⟨fun _ _=>rfl,hA.next,rfl,fun _=>rfl⟩
 |true=>
  refine⟨fun x hx=> ?_,Nat.le_refl _,rfl,fun hn=>by rw[hn]at hc;cases hc⟩
  have hA':=hA.keys
  have hlen:(cN h.next (h1.next-h.next)).length=h1.next-h.next:=by
   generalize h1.next-h.next=n
   induction n with
   |zero=>rfl
   |succ n ih=>simp[cN,ih]
  have hkt:(h1.bM.take (h1.next-h.next)).map (·.1)=cN h.next (h1.next-h.next):=by
   rw[List.map_take,hA',List.take_append_of_le_length (by omega),List.take_of_length_le (by omega)]
  have:=kn _ h.next _ (h1.bM.drop (h1.next-h.next)) hkt x hx
  rw[List.take_append_drop]at this
  show eX (bE (h1.next-h.next) h1.bM) x=eX h1.bM x
  rw[cg]
  exact this.symm
theorem wr0(l:Nat)(o:bN):({h with bM:=gW h.bM l o}:Heap)=h.wr 0 l o:=rfl
def busy:bN→Bool
 | .loop _ _ _ _ 1 _=>true
 |_=>false
theorem zQ{f:Operand}{ps:List Nat}{asg body:bn}{g:Nat}{first cap:Array Value}(hr:nZ h rnd=true)(hf:ev h e f=some (.func (.func g) first cap))(hnc:gp (T g)=false)
 (H:CW T g (dQ first.toList (dQ [.func (.yield h.next) #[] #[]] cap.toList)) {h.push (.loop e ps asg body 0 .normal)with log:=[]} fun r h2=>∃v,r= .ret v∧∃e' ps' a' b' st gV,h2.get h.next=some (.loop e' ps' a' b' st gV)∧Nat.beq st 1=false∧
   Q gV e ds (({h2 with log:=aD base h.log h2.log}:Heap).wr base h.next .dead)):WE T base rnd (.rangeFunc f ps asg body) Q e ds h:=by
 obtain⟨r,h2,⟨m,hm⟩,v,rfl,e',ps',a',b',st,gV,hl,hst,hq⟩:=H
 refine⟨⟨gV,e,ds,_,⟨m+1,fun n hn=> ?_⟩,hq⟩⟩
 obtain⟨k,rfl⟩:∃k,n=k+1:=⟨n-1,by omega⟩
 simp only[bZ,hr,hf,hnc,cond_true,cond_false,hm k (by omega),hl,hst]
theorem FW.EF(hp:bg T){fn:Fn}{args:List Value}{Q:Res→Heap→Prop}(H:FW T fn args h Q)(hl:h.log=[]):FW T fn args h fun r h'=>AS h.next h h'∧Q r h':=by
 obtain⟨r,h',⟨m,hm⟩,hq⟩:=H
 exact⟨r,h',⟨m,hm⟩,(fI.all hp m).iy _ _ _ _ _ (hm m (Nat.le_refl _)) hl,hq⟩
theorem FW.mono'{fn:Fn}{args:List Value}{Q Q':Res→Heap→Prop}(H:FW T fn args h Q)(hq:∀r h',Q r h'→Q' r h'):FW T fn args h Q':=
 let⟨r,h',h1,h2⟩:=H;⟨r,h',h1,hq _ _ h2⟩
theorem AS.zero{base:Nat}{h h':Heap}(a:AS base h h'):AS 0 h h':=⟨a.next,a.keys,fun b hb=>by omega,fun b hb=>by omega⟩
theorem D6{h h1:Heap}{v:Value}(hA:AS 0 h h1):(∀x,x<h.next→(gcA h h1 v).get x=h1.get x)∧h.next≤(gcA h h1 v).next∧(gcA h h1 v).log=h1.log:=by
 unfold gcA
 cases hc:(cw v&&fN h1 h.next h1.log)with
 |false=>exact⟨fun _ _=>rfl,hA.next,rfl⟩
 |true=>
  refine⟨fun x hx=> ?_,Nat.le_refl _,rfl⟩
  have hA':=hA.keys
  have hlen:(cN h.next (h1.next-h.next)).length=h1.next-h.next:=by
   generalize h1.next-h.next=n
   induction n with
   |zero=>rfl
   |succ n ih=>simp[cN,ih]
  have hkt:(h1.bM.take (h1.next-h.next)).map (·.1)=cN h.next (h1.next-h.next):=by
   rw[List.map_take,hA',List.take_append_of_le_length (by omega),List.take_of_length_le (by omega)]
  have:=kn _ h.next _ (h1.bM.drop (h1.next-h.next)) hkt x hx
  rw[List.take_append_drop]at this
  show eX (bE (h1.next-h.next) h1.bM) x=eX h1.bM x
  rw[cg]
  exact this.symm
structure PW (l wb:Nat) (H0:Heap) (L:bN) (O:List (Nat×Nat)→bN) (done:List (Nat×Nat)) (H:Heap):Prop where
 old:∀x,x<l→x≠wb→H.get x=H0.get x
 obj:H.get wb=some (O done)
 loop:H.get l=some L
 nx:l<H.next
inductive Own (lo:Nat) (h:Heap) (sz:Nat):Value→Nat→List Value→Prop
 |nil:Own lo h sz (.slice none 0 0) 0 []
 |full {q n cs}:lo≤q→q<h.next→h.get q=some (.cells cs true sz)→cs.length=n*sz→n≠0→Own lo h sz (.slice (some ⟨q,0,none⟩) n UNK) n cs
theorem Own.slice{lo sz n:Nat}{v:Value}{cs:List Value}(s:Own lo h sz v n cs)(hn:n<4000000):ef h sz v n cs:=by
 cases s with
 |nil=>exact .nil
 |full h1 h2 h3 h4 h5=>
  refine .mem ⟨h2,⟨_,_,_,h3,?_⟩,h4⟩ (by unfold UNK;omega)
  rw[dh,cg,List.drop_zero,List.take_of_length_le (by omega)]
theorem Own.keep{lo sz n:Nat}{h':Heap}{v:Value}{cs:List Value}(s:Own lo h sz v n cs)(hn:h.next≤h'.next)(ha:∀z,lo≤z→z<h.next→h'.get z=h.get z):Own lo h' sz v n cs:=by
 cases s with
 |nil=>exact .nil
 |full h1 h2 h3 h4 h5=>exact .full h1 (by omega) ((ha _ h1 h2).trans h3) h4 h5
theorem Own.ext{lo sz n:Nat}{h':Heap}{v:Value}{cs:List Value}(s:Own lo h sz v n cs)(x:Ext h h'):Own lo h' sz v n cs:=s.keep x.next fun z _ hz=>x.old z hz
theorem Own.log{lo sz n:Nat}{v:Value}{cs:List Value}(s:Own lo h sz v n cs)(m:List Nat):Own lo {h with log:=m} sz v n cs:=s.keep (h':={h with log:=m}) (Nat.le_refl _) fun _ _ _=>rfl
theorem Own.low{lo lo' sz n:Nat}{v:Value}{cs:List Value}(s:Own lo h sz v n cs)(hl:lo'≤lo):Own lo' h sz v n cs:=by
 cases s with
 |nil=>exact .nil
 |full h1 h2 h3 h4 h5=>exact .full (by omega) h2 h3 h4 h5
structure Lx (lo:Nat) (h h':Heap):Prop where
 next:h.next≤h'.next
 log:h'.log=h.log
 old:∀z,z<lo→h'.get z=h.get z
 wf:WF h→WF h'
theorem Lx.refl(lo:Nat)(h:Heap):Lx lo h h:=⟨Nat.le_refl _,rfl,fun _ _=>rfl,id⟩
theorem Lx.trans{lo:Nat}{a b c:Heap}(x:Lx lo a b)(y:Lx lo b c):Lx lo a c:=⟨Nat.le_trans x.next y.next,y.log.trans x.log,fun z hz=>(y.old z hz).trans (x.old z hz),fun w=>y.wf (x.wf w)⟩
theorem Lx.push{lo:Nat}{a b:Heap}(x:Lx lo a b)(hlo:lo≤b.next)(o:bN):Lx lo a (b.push o):=x.trans ⟨Nat.le_succ _,rfl,fun z hz=>Heap.je (by omega),fun w=>w.push o⟩
theorem Lx.wr{lo:Nat}{a b:Heap}(x:Lx lo a b){base y:Nat}{o:bN}(hy:lo≤y)(hb:base≤y):Lx lo a (b.wr base y o):=x.trans ⟨Nat.le_refl _,Heap.aC hb,fun z hz=>Heap.iM (by omega),fun w=>w.as (AS.wr _ _ _ _)⟩
theorem Ext.lx{lo:Nat}{a b:Heap}(x:Ext a b)(hlo:lo≤a.next):Lx lo a b:=⟨x.next,x.log,fun z hz=>x.old z (by omega),x.wf⟩
theorem Lx.ext{a b:Heap}(x:Lx a.next a b):Ext a b:=⟨x.next,x.log,x.old,x.wf⟩
theorem xk{lo sz bytes n:Nat}{dst:Option Nat}{os:List aZ}{x y:Operand}{v u:Value}{cs c1:List Value}(s:Own lo h sz v n cs)(hn:n<1000000)(hsz:0<sz)(hb:bytes≤100000)(hlo:lo≤h.next)(hbase:base≤lo)
 (hx:ev h e x=some v)(hy:ev h e y=some u)(hs:dF h sz u=some (c1,1))(hl1:c1.length=sz)(h1:eM c1=true)
 (hK:∀v' h',Own lo h' sz v' (n+1) (cs++c1)→Lx lo h h'→WO T base rnd Q os (bO e dst v') ds h'):WO T base rnd Q (⟨dst, .append sz bytes x y,none⟩::os) e ds h:=by
 have hbd:(2*(n+1)+768)*bytes≤281474976710656:=by
  have:(2*(n+1)+768)*bytes≤2000768*100000:=Nat.mul_le_mul (by omega) hb
  omega
 cases s with
 |nil=>
  refine ak (vu (n:=1) hx hy hs (by omega) (by simpa using hbd) rfl) ?_
  refine hK _ _ ?_ ((Lx.refl lo h).push hlo _)
  have:=Own.full (lo:=lo) (h:=h.push (.cells c1 true sz)) (sz:=sz) (q:=h.next) (n:=1) (cs:=c1) hlo (Nat.lt_succ_self _) (Heap.mJ _ _) (by omega) (by omega)
  exact this
 | @full q _ _ q1 q2 q3 q4 q5=>
   refine ak (pP (n:=1) (vs:=cs) (ws:=cs++c1) hx hy hs (by omega) q3 q4 hsz h1 hbd (dL _ _)) ?_
   refine hK _ _ ?_ (((Lx.refl lo h).wr q1 (by omega)).push hlo _)
   refine .full hlo (Nat.lt_succ_self _) ?_ (by rw[List.length_append,q4,hl1,Nat.add_mul,Nat.one_mul]) (by omega)
   exact Heap.mJ _ _
theorem oF{base:Nat}{rnd:Option Nat}{Q:XQ}{e:Env}{ds:Dfs}{h:Heap}{dst:Option Nat}{op:AOp}{os:List aZ}{t:Nat}{b:Bool}{vs:Array Value}(hg:geT e t=some (.tuple vs))(H:WO T base rnd Q os (bO e dst (.tuple #[])) ds h):WO T base rnd Q (⟨dst,op,some (t,b)⟩::os) e ds h:=by
 obtain⟨x',e',ds',h',⟨m,h1⟩,h2⟩:=H.ok
 exact⟨x',e',ds',h',⟨m+1,fun n hn=>by
  obtain⟨k,rfl⟩:∃k,n=k+1:=⟨n-1,by omega⟩
  simp only[gh,bJ,hg];exact h1 k (by omega)⟩,h2⟩
structure Ws (S:Nat→Prop) (h h':Heap):Prop where
 next:h.next≤h'.next
 log:∀z∈h'.log,z∈h.log∨S z
 old:∀z,z<h.next→¬S z→h'.get z=h.get z
 wf:WF h→WF h'
theorem Ws.rX{S:Nat→Prop}{h h':Heap}(hA:AS h.next h h')(hl:∀z∈h'.log,S z):Ws S h h':=
 ⟨hA.next,fun z hz=> .inr (hl z hz),fun z hz hn=>hA.same z hz hz (pM fun hm=>hn (hl z hm)),fun w=>w.as hA⟩
theorem vk{base z:Nat}:∀{m l:List Nat},z∈aD base l m→z∈l∨z∈m
 |[],l,h=> .inl h
 |b::m,l,h=>by
  simp only[aD]at h
  rcases vk (m:=m) h with h|h
  ·revert h
   rw[cond_eq_ite,cond_eq_ite]
   split
   ·split
    ·exact .inl
    ·intro h
     rcases List.mem_cons.1 h with rfl|h
     ·exact .inr (List.mem_cons_self ..)
     ·exact .inl h
   ·exact .inl
  ·exact .inr (List.mem_cons_of_mem _ h)
theorem Ws.call{S:Nat→Prop}{h h2:Heap}(x:Ws S {h with log:=[]} h2):Ws S h {h2 with log:=aD base h.log h2.log}:=
 ⟨x.next,fun z hz=>(vk hz).imp id fun q=>(x.log z q).elim (fun q=>by cases q) id,x.old,fun w=>(x.wf (w.log [])).log _⟩
def Gs(T:Nat→Option ah)(f:Nat)(args:List Value)(h:Heap)(S:Nat→Prop)(Q:Value→Heap→Prop):Prop:=CW T f args h fun r h'=>Ws S h h'∧∃v,r= .ret v∧Q v h'
structure N6 (rs:List (Nat×Option (Option Nat))) (S:Nat→Prop) (Q:Value→Heap→Prop) (x:bA) (e:Env) (ds:Dfs) (h1:Heap):Prop where
 ok:(x= .normal∨x= .ret)∧ds=[]∧(∀z∈h1.log,S z)∧∃vs,cH h1 e rs=some vs∧Q (fP vs) h1
theorem lX{rs:List (Nat×Option (Option Nat))}{S:Nat→Prop}{Q:Value→Heap→Prop}{vs:List Value}(hl:∀z∈h.log,S z)(hr:cH h e rs=some vs)(hq:Q (fP vs) h):N6 rs S Q .ret e [] h:=⟨⟨.inr rfl,rfl,hl,vs,hr,hq⟩⟩
theorem Gs.of(hp:bg T){f:Nat}{args:List Value}{c:bn}{rs:List (Nat×Option (Option Nat))}{S:Nat→Prop}{Q:Value→Heap→Prop}(hf:T f=some (.code c rs))
 (hQ:∀v h1 h2,cw v=true→h.next≤h2.next→(∀x,x<h.next→h2.get x=h1.get x)→Q v h1→Q v h2)(H:WE T h.next none c (N6 rs S Q) (ez 0 args) [] h):Gs T f args h S Q:=by
 obtain⟨x,e,ds,h1,⟨m,hm⟩,⟨hx,rfl,hl,vs,hvs,hq⟩⟩:=H.ok
 have hA:=(fI.all hp m).exec _ _ _ _ _ _ _ _ _ _ (hm m (Nat.le_refl _)) (Nat.le_refl _)
 obtain⟨g1,g2,g3,g4⟩:=qh (v:=fP vs) hA
 have key:Ws S h (gcA h h1 (fP vs))∧∃v,Res.ret (fP vs)= .ret v∧Q v (gcA h h1 (fP vs)):=by
  refine⟨Ws.rX (hA.gc' _) (by rw[g3];exact hl),_,rfl,?_⟩
  cases hv:cw (fP vs)with
  |true=>exact hQ _ _ _ hv g2 g1 hq
  |false=>rw[g4 hv];exact hq
 refine CW.code hf ⟨x,e,[],h1,⟨m,hm⟩,?_⟩
 unfold yG
 rcases hx with rfl|rfl<;>(simp only[hvs];exact key)
theorem FW.gs{f:Nat}{args:List Value}{S:Nat→Prop}{Q':Value→Heap→Prop}{K:Env→Dfs→Heap→Prop}{dst:Option Nat}(H:Gs T f args {h with log:=[]} S Q')(hlog:∀v (h':Heap) l,Q' v h'→Q' v {h' with log:=l})(hK:∀v h',Ws S h h'→Q' v h'→K (bO e dst v) ds h'):
 FW T (.func f) args {h with log:=[]} (KO K Q base dst e ds h.log):=by
 refine .func (CW.mono H ?_)
 rintro r h2 ⟨hx,v,rfl,hq⟩
 exact⟨hK v _ hx.call (hlog v h2 _ hq)⟩
theorem xO{base b:Nat}{o:bN}{S:Nat→Prop}(hl:∀z∈h.log,S z)(hb:S b):∀z∈(h.wr base b o).log,S z:=by
 intro z hz
 simp only[Heap.wr,cond_eq_ite]at hz
 split at hz
 ·split at hz
  ·exact hl z hz
  ·rcases List.mem_cons.1 hz with rfl|hz
   ·exact hb
   ·exact hl z hz
 ·exact hl z hz
theorem wH{k k':IntKind}{n m:Int}{x:Operand}(hx:ev h e x=some (.int k' n))(hm:fD k n=m):aop h base e (.conv (.int k) x)=some (.val (.int k m) h):=by
 subst hm;simp only[aop,hx,cB,oV,fq]
theorem GS{len size i:Nat}{k:IntKind}{x y:Operand}{cs:Array Value}{v:Value}(hx:ev h e x=some (.agg cs))(hy:ev h e y=some (.int k (i:Nat)))(hi:i<len)(hv:cm cs.toList (i*size)=some v):aop h base e (.rM len size none x y)=some (.val v h):=by
 have:(.int k (i:Nat):Value)= .int k (Int.ofNat i):=rfl
 rw[this]at hy
 simp only[aop,hx,hy,gj hi,cond_true,hv,cB]
def mi(a b:Int):Int:=if b<a then b else a
theorem mG{x y:Operand}{a b:Int}(hx:ev h e x=some (.int .i64 a))(hy:ev h e y=some (.int .i64 b)):aop h base e (.dO false [x,y])=some (.val (.int .i64 (mi a b)) h):=by
 simp only[aop,evs,hx,hy,mmA,if_true,cB,mi];rfl
theorem lU{n:Nat}(h2:n<18446744073709551616):fD .u64 (n:Int)=n:=by
 have e1:((n:Nat):Int)=Int.ofNat n:=rfl
 rw[e1]
 simp only[fD,gj h2,cond_true]
theorem NH{a b:Nat}(ha:a<18446744073709551616)(hb:b<18446744073709551616):aq .or (.int .u64 a) (.int .u64 b)=some (.int .u64 ((Nat.lor a b:Nat):Int)):=by
 have e1:((a:Nat):Int)=Int.ofNat a:=rfl
 have e2:((b:Nat):Int)=Int.ofNat b:=rfl
 rw[e1,e2]
 simp only[aq,arith,mN,gj ha,gj hb,Bool.and_self,cond_true,if_true]
 rfl
theorem qP{a b:Nat}(ha:a<18446744073709551616)(hb:b<18446744073709551616):aq .and (.int .u64 a) (.int .u64 b)=some (.int .u64 ((Nat.land a b:Nat):Int)):=by
 have e1:((a:Nat):Int)=Int.ofNat a:=rfl
 have e2:((b:Nat):Int)=Int.ofNat b:=rfl
 rw[e1,e2]
 simp only[aq,arith,mN,gj ha,gj hb,Bool.and_self,cond_true,if_true]
 rfl
theorem se{a n:Nat}{k:IntKind}(hn:n≤64):aq .shr (.int .u64 a) (.int k n)=some (.int .u64 ((Nat.shiftRight a n:Nat):Int)):=by
 have e1:((a:Nat):Int)=Int.ofNat a:=rfl
 have e2:((n:Nat):Int)=Int.ofNat n:=rfl
 rw[e1,e2]
 simp only[aq,mC,Nat.min_eq_left hn]
 rfl
theorem rN{a b:Nat}(h:a+b<18446744073709551616):aq .add (.int .u64 a) (.int .u64 b)=some (.int .u64 ((a+b:Nat):Int)):=lD (by rw[←Int.natCast_add];exact lU h)
theorem M3{a:Nat}:aq .rem (.int .i64 a) (.int .i64 8)=some (.int .i64 ((a % 8:Nat):Int)):=by
 have e:(a:Int).tmod 8=((a % 8:Nat):Int):=by rw[Int.tmod_eq_emod_of_nonneg (by omega)];omega
 simp[aq,arith,e]
theorem LG{a:Nat}(h1:a<9223372036854775808):aq .quo (.int .i64 a) (.int .i64 8)=some (.int .i64 ((a / 8:Nat):Int)):=by
 have e:fD .i64 ((a:Int).tdiv 8)=((a / 8:Nat):Int):=by
  rw[Int.tdiv_eq_ediv_of_nonneg (by omega),bT (by omega) (by omega)];omega
 have e2:aq .quo (.int .i64 a) (.int .i64 8)=some (.int .i64 (fD .i64 ((a:Int).tdiv 8))):=rfl
 rw[e2,e]
theorem tN{z:Nat}:∀{m l:List Nat},z∈l→z∈aD base l m
 |[],l,h=>h
 |b::m,l,h=>by
  simp only[aD]
  refine tN (m:=m) ?_
  rw[cond_eq_ite,cond_eq_ite]
  split
  ·split
   ·exact h
   ·exact List.mem_cons_of_mem _ h
  ·exact h
theorem mem_merge{z:Nat}(hz:z<base):∀{m l:List Nat},z∈m→z∈aD base l m
 |b::m,l,h=>by
  simp only[aD]
  rcases List.mem_cons.1 h with rfl|h
  ·refine tN ?_
   rw[gj hz,cond_true,cond_eq_ite]
   split
   ·rename_i hh;exact jc.1 hh
   ·exact List.mem_cons_self ..
  ·exact mem_merge hz h
theorem tM{l:Nat}{a:Env}{b:List Nat}{c d:bn}{st:Nat}{p:bA}(hl:h.get l=some (.loop a b c d st p))(hb:l<base):∀{lg:List Nat},l∈lg→fN h base lg=false
 |x::lg,hm=>by
  have ih:l∈lg→fN h base lg=false:=tM hl hb
  by_cases hx:x=l
  ·subst hx
   simp only[fN,gj hb,cond_true,hl]
  ·have hm':l∈lg:=by rcases List.mem_cons.1 hm with h1|h1;exact absurd h1.symm hx;exact h1
   simp only[fN,cond_eq_ite,ih hm']
   split
   ·split<;>simp
   ·rfl
theorem IT{h1:Heap}{v:Value}{l:Nat}{a:Env}{b:List Nat}{c d:bn}{st:Nat}{p:bA}(hl:h1.get l=some (.loop a b c d st p))(hb:l<h.next)(hm:l∈h1.log):gcA h h1 v=h1:=by
 unfold gcA
 rw[tM hl hb hm,Bool.and_false,cond_false]
theorem vc{b:Nat}{o:bN}(hb:b<base):(h.wr base b o).log=if fu h.log b=true then h.log else b::h.log:=by
 unfold Heap.wr
 rw[gj hb]
 simp only[cond_eq_ite,if_true]
theorem fB{b z:Nat}{o:bN}(hz:z∈(h.wr base b o).log):z=b∨z∈h.log:=by
 by_cases hb:b<base
 ·rw[vc hb]at hz
  by_cases hh:fu h.log b=true
  ·rw[if_pos hh]at hz;exact .inr hz
  ·rw[if_neg hh]at hz;exact List.mem_cons.1 hz
 ·rw[Heap.aC (by omega)]at hz;exact .inr hz
theorem tY{b:Nat}{o:bN}(hb:b<base):b∈(h.wr base b o).log:=by
 rw[vc hb]
 by_cases hh:fu h.log b=true
 ·rw[if_pos hh];exact jc.1 hh
 ·rw[if_neg hh];exact List.mem_cons_self ..
structure YQX (l:Nat) (L LX:bN) (lo N n:Nat) (R S:Heap→Prop) (x:bA) (e:Env) (ds:Dfs) (h3:Heap):Prop where
 busy:∃o,h3.get l=some o∧busy o=true
 log:∀z∈h3.log,lo≤z∧z<N
 rel:(x= .normal∧∀h5:Heap,n≤h5.next→(∀z,z<n→z≠l→h5.get z=h3.get z)→h5.get l=some L→R h5)∨(x= .ret∧∀h5:Heap,h5.next=h3.next→(∀z,z≠l→h5.get z=h3.get z)→h5.get l=some LX→S h5)
structure YAX (T:Nat→Option ah) (l:Nat) (e:Env) (ps:List Nat) (asg body:bn) (lo N n:Nat) (R S:Heap→Prop) (x:bA) (e2:Env) (ds2:Dfs) (h2:Heap):Prop where
 x:x= .normal
 loop:h2.get l=some (.loop e ps asg body 0 .normal)
 body:WE T n (some l) body (YQX l (.loop e ps asg body 0 .normal) (.loop e ps asg body 2 .ret) lo N n R S) e2 ds2 (h2.wr 0 l (.loop e ps asg body 1 .normal))
theorem FW.Ea(hp:bg T){l lo N:Nat}{e e1:Env}{ps:List Nat}{asg body:bn}{args:List Value}{R S:Heap→Prop}(hl:h.get l=some (.loop e ps asg body 0 .normal))(he:iP e ps args=some e1)(hlN:l<h.next)(hlo:lo≤l∧l<N)
 (H:WE T h.next (some l) asg (YAX T l e ps asg body lo N h.next R S) e1 [] h):
 FW T (.yield l) args h fun r h'=>(∀z∈h'.log,lo≤z∧z<N)∧(r= .ret (.bool true)∧R h'∨r= .ret (.bool false)∧l∈h'.log∧S h'):=by
 obtain⟨x,e2,ds2,h2,⟨m,hm⟩,⟨rfl,hl2,H2⟩⟩:=H.ok
 obtain⟨x3,e3,ds3,h3,⟨m3,hm3⟩,⟨⟨o,ho,hb⟩,hlog,hrel⟩⟩:=H2.ok
 have hnr:notReady (h2.get l)=false:=by rw[hl2];rfl
 have hloop:∃a b c d p,o= .loop a b c d 1 p:=by
  unfold A.busy at hb
  split at hb
  ·exact⟨_,_,_,_,_,rfl⟩
  ·cases hb
 obtain⟨oa,ob,oc,od,op,rfl⟩:=hloop
 rcases hrel with⟨rfl,hrel⟩|⟨rfl,hrel⟩
 ·have A1:=(fI.all hp m).exec _ _ _ _ _ _ _ _ _ _ (hm m (Nat.le_refl _)) (Nat.le_refl _)
  have A2:=(fI.all hp m3).exec _ _ _ _ _ _ _ _ _ _ (hm3 m3 (Nat.le_refl _)) A1.next
  have A3:AS 0 h (h3.wr 0 l (.loop e ps asg body 0 .normal)):=((A1.zero.trans (AS.wr 0 h2 l _)).trans A2.zero).trans (AS.wr 0 h3 l _)
  obtain⟨g1,g2,g3⟩:=D6 (v:= .bool true) A3
  refine⟨.ret (.bool true),gcA h (h3.wr 0 l (.loop e ps asg body 0 .normal)) (.bool true),⟨m+m3+1,fun n hn=> ?_⟩,?_, .inl ⟨rfl,?_⟩⟩
  ·obtain⟨k,rfl⟩:∃k,n=k+1:=⟨n-1,by omega⟩
   have q1:=hm k (by omega)
   have q2:=hm3 k (by omega)
   rw[←wr0]at q2
   simp only[gU,hl,he,q1,hnr,cond_false,q2,ho]
   rfl
  ·rw[g3];exact hlog
  ·refine hrel _ g2 (fun z hz hne=>(g1 z hz).trans (Heap.iM hne)) ((g1 l hlN).trans ?_)
   exact Heap.bw ho
 ·refine⟨.ret (.bool false),h3.wr h.next l (.loop e ps asg body 2 .ret),⟨m+m3+1,fun n hn=> ?_⟩,?_, .inr ⟨rfl,tY hlN,?_⟩⟩
  ·obtain⟨k,rfl⟩:∃k,n=k+1:=⟨n-1,by omega⟩
   have q1:=hm k (by omega)
   have q2:=hm3 k (by omega)
   rw[←wr0]at q2
   simp only[gU,hl,he,q1,hnr,cond_false,q2,ho]
  ·intro z hz
   rcases fB hz with rfl|hz
   ·exact hlo
   ·exact hlog z hz
  ·exact hrel _ rfl (fun z hne=>Heap.iM hne) (Heap.bw ho)
structure Eu {α:Type} (T:Nat→Option ah) (lo N l:Nat) (V:α→Value) (all:List α) (P:List α→Heap→Prop) (S:Heap→Prop):Prop where
 uz:∀done x H,x∈all→Rdy H→N≤H.next→P done H→FW T (.yield l) [V x] H fun r H'=>(∀z∈H'.log,lo≤z∧z<N)∧(r= .ret (.bool true)∧P (done++[x]) H'∨r= .ret (.bool false)∧l∈H'.log∧S H')
 gT:∀done H H',P done H→N≤H'.next→(∀x,x<N→H'.get x=H.get x)→P done H'
 NY:∀H m,S H→S {H with log:=m}
 KN:∀H,S H→∃a b c d,H.get l=some (.loop a b c d 2 .ret)
theorem Eu.call(hp:bg T){α:Type}{lo N l:Nat}{V:α→Value}{all:List α}{P:List α→Heap→Prop}{S:Heap→Prop}(Y:Eu T lo N l V all P S){K:Env→Dfs→Heap→Prop}{dst:Option Nat}{done:List α}{x:α}(hx:x∈all)(hw:WF h)(hlo:lo≤h.next)(hN:N≤h.next)(hlb:l<base)(hP:P done h)
 (hK:∀h',Lk lo h h'→(∀z,N≤z→z<h.next→h'.get z=h.get z)→P (done++[x]) h'→K (bO e dst (.bool true)) ds h')
 (hX:∀h',Lk lo h h'→l∈h'.log→S h'→K (bO e dst (.bool false)) ds h'):FW T (.yield l) [V x] {h with log:=[]} (KO K Q base dst e ds h.log):=by
 refine FW.mono' (FW.EF hp (Y.uz done x _ hx (.of hw) hN (Y.gT _ _ _ hP hN fun _ _=>rfl)) rfl) ?_
 rintro r h2 ⟨hA,hl,hq⟩
 have hk:Lk lo {h with log:=[]} h2:=Lk.rX hA hlo fun z hz=>(hl z hz).1
 rcases hq with⟨rfl,hq⟩|⟨rfl,hm,hq⟩
 ·refine⟨hK _ hk.call (fun z h1 h3=> ?_) (Y.gT _ _ _ hq (Nat.le_trans hN hA.next) fun _ _=>rfl)⟩
  exact hA.same z h3 h3 (pM fun hm=>by have:=(hl z hm).2;omega)
 ·exact⟨hX _ hk.call (mem_merge hlb hm) (Y.NY _ _ hq)⟩
def GrX(T:Nat→Option ah)(f:Nat)(args:List Value)(h:Heap)(lo:Nat)(P S:Heap→Prop):Prop:=CW T f args h fun r h'=>Lk lo h h'∧∃v,r= .ret v∧(P h'∨S h')
structure Hx (rs:List (Nat×Option (Option Nat))) (lo l:Nat) (P S:Heap→Prop) (x:bA) (e:Env) (ds:Dfs) (h1:Heap):Prop where
 ok:(x= .normal∨x= .ret)∧ds=[]∧fG lo h1.log∧(∃vs,cH h1 e rs=some vs)∧(P h1∨l∈h1.log∧S h1)
theorem Gd{rs:List (Nat×Option (Option Nat))}{lo l:Nat}{P S:Heap→Prop}{vs:List Value}(hl:fG lo h.log)(hr:cH h e rs=some vs)(hm:l∈h.log)(hq:S h):Hx rs lo l P S .ret e [] h:=⟨⟨.inr rfl,rfl,hl,⟨vs,hr⟩, .inr ⟨hm,hq⟩⟩⟩
theorem FT{rs:List (Nat×Option (Option Nat))}{lo l:Nat}{P S:Heap→Prop}{vs:List Value}(hl:fG lo h.log)(hr:cH h e rs=some vs)(hq:P h):Hx rs lo l P S .normal e [] h:=⟨⟨.inl rfl,rfl,hl,⟨vs,hr⟩, .inl hq⟩⟩
theorem GrX.of(hp:bg T){f:Nat}{args:List Value}{c:bn}{rs:List (Nat×Option (Option Nat))}{lo l:Nat}{P S:Heap→Prop}(hf:T f=some (.code c rs))(hlo:lo≤h.next)(hlN:l<h.next)
 (hP:∀h1 h2:Heap,h.next≤h2.next→(∀x,x<h.next→h2.get x=h1.get x)→P h1→P h2)(hS:∀H,S H→∃a b c d,H.get l=some (.loop a b c d 2 .ret))(H:WE T h.next none c (Hx rs lo l P S) (ez 0 args) [] h):GrX T f args h lo P S:=by
 obtain⟨x,e,ds,h1,⟨m,hm⟩,⟨hx,rfl,hl,⟨vs,hvs⟩,hq⟩⟩:=H.ok
 have hA:=(fI.all hp m).exec _ _ _ _ _ _ _ _ _ _ (hm m (Nat.le_refl _)) (Nat.le_refl _)
 obtain⟨g1,g2,g3,g4⟩:=qh (v:=fP vs) hA
 have key:Lk lo h (gcA h h1 (fP vs))∧∃v,Res.ret (fP vs)= .ret v∧(P (gcA h h1 (fP vs))∨S (gcA h h1 (fP vs))):=by
  refine⟨Lk.rX (hA.gc' _) hlo (by rw[g3];exact hl),_,rfl,?_⟩
  rcases hq with hq|⟨hml,hq⟩
  ·exact .inl (hP _ _ g2 g1 hq)
  ·obtain⟨a,b,c,d,hlp⟩:=hS _ hq
   rw[IT hlp hlN hml]
   exact .inr hq
 refine CW.code hf ⟨x,e,[],h1,⟨m,hm⟩,?_⟩
 unfold yG
 rcases hx with rfl|rfl<;>(simp only[hvs];exact key)
theorem ue{base:Nat}:∀{m l:List Nat},fG base m→aD base l m=l
 |[],_,_=>rfl
 |b::m,l,h=>by
  have hb:=h b (List.mem_cons_self ..)
  simp only[aD,nv (show¬b<base by omega),cond_false]
  exact ue fun x hx=>h x (List.mem_cons_of_mem _ hx)
theorem vX{h1:Heap}{f:Operand}{g lo:Nat}{first cap:Array Value}{ps:List Nat}{asg body:bn}{P S:Heap→Prop}(hr:nZ h1 rnd=true)(hf:ev h1 e f=some (.func (.func g) first cap))(hnc:gp (T g)=false)
 (hlo:base≤lo)(hlo2:lo≤h1.next)(hlog:h1.log=[])(w1:WF h1)
 (HG:GrX T g (dQ first.toList (dQ [.func (.yield h1.next) #[] #[]] cap.toList)) {h1.push (.loop e ps asg body 0 .normal)with log:=[]} lo P S)
 (hP:∀H,P H→∃a b c d,H.get h1.next=some (.loop a b c d 0 .normal))(hS:∀H,S H→∃a b c d,H.get h1.next=some (.loop a b c d 2 .ret))
 (K1:∀h2 h3:Heap,h3.log=[]→WF h3→h1.next<h3.next→h3.next=h2.next→(∀z,z≠h1.next→h3.get z=h2.get z)→P h2→Q .normal e ds h3)
 (K2:∀h2 h3:Heap,h3.log=[]→WF h3→h1.next<h3.next→h3.next=h2.next→(∀z,z≠h1.next→h3.get z=h2.get z)→S h2→Q .ret e ds h3):WE T base rnd (.rangeFunc f ps asg body) Q e ds h1:=by
 refine zQ hr hf hnc (CW.mono HG ?_)
 rintro r h2 ⟨hk,v,rfl,hq⟩
 have hl2:fG base h2.log:=fun z hz=>Nat.le_trans hlo (hk.log (fG.nil _) z hz)
 have q1:(({h2 with log:=aD base h1.log h2.log}:Heap).wr base h1.next .dead).log=[]:=by
  rw[Heap.aC (by omega)]
  show aD base h1.log h2.log=[]
  rw[ue hl2,hlog]
 have q2:WF (({h2 with log:=aD base h1.log h2.log}:Heap).wr base h1.next .dead):=((hk.wf ((w1.push _).log _)).log _).as (AS.wr _ _ _ _)
 have q3:h1.next<h2.next:=hk.next
 have q4:∀z,z≠h1.next→(({h2 with log:=aD base h1.log h2.log}:Heap).wr base h1.next .dead).get z=h2.get z:=fun z hne=>Heap.iM hne
 rcases hq with hq|hq
 ·obtain⟨a,b,c,d,hl⟩:=hP _ hq
  exact⟨_,rfl,_,_,_,_,_,_,hl,rfl,K1 h2 _ q1 q2 q3 rfl q4 hq⟩
 ·obtain⟨a,b,c,d,hl⟩:=hS _ hq
  exact⟨_,rfl,_,_,_,_,_,_,hl,rfl,K2 h2 _ q1 q2 q3 rfl q4 hq⟩
structure QW {α:Type} (px:bA) (T:Nat→Option ah) (lo N l:Nat) (V:α→List Value) (all:List α) (P:List α→Heap→Prop) (S:Heap→Prop):Prop where
 uz:∀done x H,x∈all→Rdy H→N≤H.next→P done H→FW T (.yield l) (V x) H fun r H'=>(∀z∈H'.log,lo≤z∧z<N)∧(r= .ret (.bool true)∧P (done++[x]) H'∨r= .ret (.bool false)∧l∈H'.log∧S H')
 gT:∀done H H',P done H→N≤H'.next→(∀x,x<N→H'.get x=H.get x)→P done H'
 NY:∀H m,S H→S {H with log:=m}
 KN:∀H,S H→∃a b c d,H.get l=some (.loop a b c d 2 px)
def lC(h:Heap)(q:Nat):Prop:=∃vs own t,h.get q=some (.cells vs own t)∧cS vs=false
theorem sB{q n:Nat}(hq:q<n)(hd:lC h q):∀{l:List Nat},q∈l→fN h n l=false
 |b::l,hm=>by
  obtain⟨vs,own,t,g,hs⟩:=hd
  rcases List.mem_cons.1 hm with rfl|hm
  ·simp only[fN,gj hq,cond_true,g,hs,cond_false]
  ·have ih:=sB hq ⟨vs,own,t,g,hs⟩ hm
   simp only[fN]
   split<;>simp[ih,cond_eq_ite]
theorem Cs{h1:Heap}{v:Value}{q:Nat}(hq:q<h.next)(hm:q∈h1.log)(hd:lC h1 q):gcA h h1 v=h1:=by
 unfold gcA
 rw[sB hq hd hm,Bool.and_false]
 rfl
structure YQK (l q:Nat) (L:bN) (lo n:Nat) (R:Heap→Prop) (x:bA) (e:Env) (ds:Dfs) (h3:Heap):Prop where
 x:x= .normal
 busy:∃o,h3.get l=some o∧busy o=true
 log:∀z∈h3.log,lo≤z
 kept:q∈h3.log
 QS:lC h3 q
 rel:R (h3.wr 0 l L)
structure YAK (T:Nat→Option ah) (l q:Nat) (e:Env) (ps:List Nat) (asg body:bn) (lo n:Nat) (R:Heap→Prop) (x:bA) (e2:Env) (ds2:Dfs) (h2:Heap):Prop where
 x:x= .normal
 loop:h2.get l=some (.loop e ps asg body 0 .normal)
 body:WE T n (some l) body (YQK l q (.loop e ps asg body 0 .normal) lo n R) e2 ds2 (h2.wr 0 l (.loop e ps asg body 1 .normal))
theorem FW.KT(hp:bg T){l q lo:Nat}{e e1:Env}{ps:List Nat}{asg body:bn}{args:List Value}{R:Heap→Prop}(hl:h.get l=some (.loop e ps asg body 0 .normal))(he:iP e ps args=some e1)(hlN:l<h.next)(hq:q<h.next)(hql:q≠l)
 (H:WE T h.next (some l) asg (YAK T l q e ps asg body lo h.next R) e1 [] h):FW T (.yield l) args h fun r h'=>r= .ret (.bool true)∧(∀z∈h'.log,lo≤z)∧q∈h'.log∧R h':=by
 obtain⟨x,e2,ds2,h2,⟨m,hm⟩,⟨rfl,hl2,H2⟩⟩:=H.ok
 obtain⟨x3,e3,ds3,h3,⟨m3,hm3⟩,⟨rfl,⟨o,ho,hb⟩,hlog,hk,⟨vs,own,t,gq,hs⟩,hrel⟩⟩:=H2.ok
 have hnr:notReady (h2.get l)=false:=by rw[hl2];rfl
 have hloop:∃a b c d p,o= .loop a b c d 1 p:=by
  unfold A.busy at hb
  split at hb
  ·exact⟨_,_,_,_,_,rfl⟩
  ·cases hb
 obtain⟨oa,ob,oc,od,op,rfl⟩:=hloop
 have hgc:gcA h (h3.wr 0 l (.loop e ps asg body 0 .normal)) (.bool true)=h3.wr 0 l (.loop e ps asg body 0 .normal):=Cs (q:=q) hq (by rw[Heap.aC (by omega)];exact hk) ⟨vs,own,t,(Heap.iM hql).trans gq,hs⟩
 refine⟨.ret (.bool true),gcA h (h3.wr 0 l (.loop e ps asg body 0 .normal)) (.bool true),⟨m+m3+1,fun n hn=> ?_⟩,rfl,?_,?_,?_⟩
 ·obtain⟨k,rfl⟩:∃k,n=k+1:=⟨n-1,by omega⟩
  have q1:=hm k (by omega)
  have q2:=hm3 k (by omega)
  rw[←wr0]at q2
  simp only[gU,hl,he,q1,hnr,cond_false,q2,ho]
  rfl
 ·rw[hgc,Heap.aC (by omega)];exact hlog
 ·rw[hgc,Heap.aC (by omega)];exact hk
 ·rw[hgc];exact hrel
structure QU {α:Type} (T:Nat→Option ah) (lo N l q:Nat) (V:α→Value) (all:List α) (P:List α→Heap→Prop):Prop where
 hq:q<N
 uz:∀done x rest H,all=done++x::rest→Rdy H→N≤H.next→P done H→FW T (.yield l) [V x] H fun r H'=>r= .ret (.bool true)∧(∀z∈H'.log,lo≤z)∧q∈H'.log∧lC H' q∧P (done++[x]) H'
 gT:∀done H H',P done H→H.next≤H'.next→(∀x,x<H.next→H'.get x=H.get x)→P done H'
theorem Gr.ofK(hp:bg T){f:Nat}{args:List Value}{c:bn}{rs:List (Nat×Option (Option Nat))}{lo:Nat}{Q Q':Value→Heap→Prop}(hf:T f=some (.code c rs))(hlo:lo≤h.next)
 (hQ:∀v h1,AS h.next h h1→Q v h1→Q' v (gcA h h1 v))(H:WE T h.next none c (Lo rs lo Q) (ez 0 args) [] h):Gr T f args h lo Q':=by
 obtain⟨x,e,ds,h1,⟨m,hm⟩,⟨hx,rfl,hl,vs,hvs,hq⟩⟩:=H.ok
 have hA:=(fI.all hp m).exec _ _ _ _ _ _ _ _ _ _ (hm m (Nat.le_refl _)) (Nat.le_refl _)
 obtain⟨g1,g2,g3,g4⟩:=qh (v:=fP vs) hA
 have key:Lk lo h (gcA h h1 (fP vs))∧∃v,Res.ret (fP vs)= .ret v∧Q' v (gcA h h1 (fP vs)):=
  ⟨Lk.rX (hA.gc' _) hlo (by rw[g3];exact hl),_,rfl,hQ _ _ hA hq⟩
 refine CW.code hf ⟨x,e,[],h1,⟨m,hm⟩,?_⟩
 unfold yG
 rcases hx with rfl|rfl<;>(simp only[hvs];exact key)
theorem DV{h1:Heap}{f:Operand}{g lo:Nat}{first cap:Array Value}{ps:List Nat}{asg body:bn}{P:Heap→Prop}(hr:nZ h1 rnd=true)(hf:ev h1 e f=some (.func (.func g) first cap))(hnc:gp (T g)=false)
 (hlo:base≤lo)(hlo2:lo≤h1.next)(hlog:h1.log=[])(w1:WF h1)
 (HG:Gr T g (dQ first.toList (dQ [.func (.yield h1.next) #[] #[]] cap.toList)) {h1.push (.loop e ps asg body 0 .normal)with log:=[]} lo fun v h'=>v= .tuple #[]∧P h')
 (hP:∀H,P H→∃a b c d,H.get h1.next=some (.loop a b c d 0 .normal))
 (K:∀h2 h3:Heap,h3.log=[]→WF h3→h1.next<h3.next→h3.next=h2.next→(∀z,z≠h1.next→h3.get z=h2.get z)→(∀z,z<lo→h3.get z=h1.get z)→P h2→Q .normal e ds h3):WE T base rnd (.rangeFunc f ps asg body) Q e ds h1:=by
 refine zQ hr hf hnc (CW.mono HG ?_)
 rintro r h2 ⟨hk,v,rfl,rfl,hq⟩
 have hl2:fG base h2.log:=fun z hz=>Nat.le_trans hlo (hk.log (fG.nil _) z hz)
 have q1:(({h2 with log:=aD base h1.log h2.log}:Heap).wr base h1.next .dead).log=[]:=by
  rw[Heap.aC (by omega)]
  show aD base h1.log h2.log=[]
  rw[ue hl2,hlog]
 have q2:WF (({h2 with log:=aD base h1.log h2.log}:Heap).wr base h1.next .dead):=((hk.wf ((w1.push _).log _)).log _).as (AS.wr _ _ _ _)
 have q3:h1.next<h2.next:=hk.next
 have q4:∀z,z≠h1.next→(({h2 with log:=aD base h1.log h2.log}:Heap).wr base h1.next .dead).get z=h2.get z:=fun z hne=>Heap.iM hne
 obtain⟨a,b,c,d,hl⟩:=hP _ hq
 refine⟨_,rfl,_,_,_,_,_,_,hl,rfl,K h2 _ q1 q2 q3 rfl q4 (fun z hz=>(q4 z (by omega)).trans ((hk.old z hz).trans ?_)) hq⟩
 exact Heap.je (by omega)
structure CN {α:Type} (T:Nat→Option ah) (lo N l q:Nat) (V:α→List Value) (all:List α) (P:List α→Heap→Prop) (W:Heap→Nat→Prop):Prop where
 hq:q<N
 uz:∀done x H,x∈all→done.length<100000→Rdy H→N≤H.next→P done H→FW T (.yield l) (V x) H fun r H'=>r= .ret (.bool true)∧(∀z∈H'.log,lo≤z)∧q∈H'.log∧lC H' q∧P (done++[x]) H'∧(∀z,z<H.next→¬W H z→H'.get z=H.get z)∧(∀z,W H' z→W H z∨H.next≤z)
 gT:∀done H H',P done H→H.next≤H'.next→(∀x,x<H.next→H'.get x=H.get x)→P done H'
 wst:∀done H H',P done H→H.next≤H'.next→(∀x,x<H.next→H'.get x=H.get x)→∀z,W H' z→W H z
 wlt:∀done H z,P done H→W H z→z<H.next
theorem CN.call(hp:bg T){α:Type}{lo N l q:Nat}{V:α→List Value}{all:List α}{P:List α→Heap→Prop}{W:Heap→Nat→Prop}(Y:CN T lo N l q V all P W){K:Env→Dfs→Heap→Prop}{dst:Option Nat}{done:List α}{x:α}(hx:x∈all)(hlen:done.length<100000)(hw:WF h)(hlo:lo≤h.next)(hN:N≤h.next)(hqb:q<base)(hP:P done h)
 (hK:∀h',Lk lo h h'→q∈h'.log∧lC h' q→P (done++[x]) h'→(∀z,z<h.next→¬W h z→h'.get z=h.get z)→(∀z,W h' z→W h z∨h.next≤z)→K (bO e dst (.bool true)) ds h'):FW T (.yield l) (V x) {h with log:=[]} (KO K Q base dst e ds h.log):=by
 have hP0:P done {h with log:=[]}:=Y.gT _ _ _ hP (Nat.le_refl _) fun _ _=>rfl
 refine FW.mono' (FW.EF hp (Y.uz done x _ hx hlen (.of hw) hN hP0) rfl) ?_
 rintro r h2 ⟨hA,rfl,hl,hm,hd,hq,hk1,hk2⟩
 have hk:Lk lo {h with log:=[]} h2:=Lk.rX hA hlo fun z hz=>hl z hz
 refine⟨hK _ hk.call ⟨mem_merge hqb hm,hd⟩ (Y.gT _ _ _ hq (Nat.le_refl _) fun _ _=>rfl) (fun z hz hn=>hk1 z hz fun q=>hn (Y.wst _ h {h with log:=[]} hP (Nat.le_refl _) (fun _ _=>rfl) z q)) fun z hz=> ?_⟩
 have h3:=Y.wst _ h2 {h2 with log:=aD base h.log h2.log} hq (Nat.le_refl _) (fun _ _=>rfl) z hz
 exact(hk2 z h3).imp (fun q=>Y.wst _ h {h with log:=[]} hP (Nat.le_refl _) (fun _ _=>rfl) z q) id
theorem GF{α:Type}{lo N l q:Nat}{V:α→List Value}{all done:List α}{P:List α→Heap→Prop}{W:Heap→Nat→Prop}(Y:CN T lo N l q V all P W){v:Value}{h1:Heap}(hq:q<h.next)(hA:AS h.next h h1)(p:v= .tuple #[]∧P done h1∧(((∀x,x<h.next→h1.get x=h.get x)∧P done h)∨q∈h1.log∧lC h1 q)):v= .tuple #[]∧P done (gcA h h1 v):=by
 obtain⟨hv,hP,hm⟩:=p
 refine⟨hv,?_⟩
 rcases hm with⟨he,h0⟩|⟨hm,hd⟩
 ·obtain⟨g1,g2,_⟩:=qh (v:=v) hA
  exact Y.gT _ _ _ h0 g2 fun x hx=>(g1 x hx).trans (he x hx)
 ·rw[Cs hq hm hd]
  exact hP
structure QV (rs:List (Nat×Option (Option Nat))) (S:Nat→Prop) (Q Qp:Value→Heap→Prop) (x:bA) (e:Env) (ds:Dfs) (h1:Heap):Prop where
 ok:ds=[]∧(∀z∈h1.log,S z)∧(((x= .normal∨x= .ret)∧∃vs,cH h1 e rs=some vs∧Q (fP vs) h1)∨∃v,x= .panic v∧Qp v h1)
structure SE (T:Nat→Option ah) (base:Nat) (c:bn) (K:bA→Env→Option Value→Heap→Prop) (e:Env) (p:Option Value) (h:Heap):Prop where
 ok:∃x e' p' h',(∃m,∀n,m≤n→iA T n base c e p h=some (x,e',p',h'))∧K x e' p' h'
variable {p:Option Value} {K:bA→Env→Option Value→Heap→Prop} {KO':Env→Option Value→Heap→Prop}
end Go.A
end
section
namespace Go.A
variable {T:Nat→Option ah} {base:Nat} {rnd:Option Nat} {Q Q':XQ} {e e2:Env} {ds:Dfs} {h:Heap} {os:List aZ} {dst:Option Nat} {v u:Value} {x y:Operand} {keep k2:List Nat} {K:Env→Dfs→Heap→Prop}
theorem y1(H:Q .normal e2 ds h)(he:bG e keep=e2:=by simp only[bG,bO,geT,ez,cond_true,cond_false,Nat.beq];exact rfl):KR keep Q .normal e ds h:=M6 he H
theorem y3(H:K e2 ds h)(he:bG e keep=e2:=by simp only[bG,bO,geT,ez,cond_true,cond_false,Nat.beq];exact rfl):WO T base rnd (KR keep (KS K Q)) [] e ds h:=dK (M6 he (aN H))
theorem y4{b:bn}(H:WO T base rnd (KR keep (KS (WE T base rnd b Q) Q)) os e ds h):WE T base rnd (.seq (.region os keep) b) Q e ds h:=af (aA H)
theorem yM(H:WO T base rnd Q os (bO e dst v) ds h)(hx:ev h e x=some v:=by exact rfl):WO T base rnd Q (⟨dst, .mov x,none⟩::os) e ds h:=ak (mY hx) H
theorem yE{i:Nat}{vs:Array Value}(H:WO T base rnd Q os (bO e dst v) ds h)(hx:ev h e x=some (.tuple vs):=by exact rfl)(hv:cm vs.toList i=some v:=by exact rfl):WO T base rnd Q (⟨dst, .extract x i,none⟩::os) e ds h:=ak (CE hx hv) H
theorem yL{b o sz:Nat}{vs:List Value}{own:Bool}(H:WO T base rnd Q os (bO e dst v) ds h)(hx:ev h e x=some (.pointer (some ⟨b,o,none⟩)):=by exact rfl)
 (hb:h.get b=some (.cells vs own sz):=by first|assumption|(simp(disch:=first|omega|(simp only[z1,z2];omega))only[z3,z4,z5,z6,z7,z1,z2, *];done)|(simp(disch:=first|omega|(simp only[z1,z2];omega))only[z3,z4,z5,z6,z7,z1,z2, *];exact rfl)|(simp(disch:=first|omega|(simp only[z1,z2];omega)|(simp only[z1,z2];done)|fail)only[z8,z4,z5,z9,z7,z1,z2, *];done)|(simp(disch:=first|omega|(simp only[z1,z2];omega)|(simp only[z1,z2];done)|fail)only[z8,z4,z5,z9,z7,z1,z2, *];exact rfl))
 (hv:cm vs o=some v:=by exact rfl):WO T base rnd Q (⟨dst, .load none x,none⟩::os) e ds h:=ak (ek hx hb hv) H
theorem yN{n b o sz:Nat}{vs l:List Value}{own:Bool}(H:WO T base rnd Q os (bO e dst (.agg l.toArray)) ds h)(hx:ev h e x=some (.pointer (some ⟨b,o,none⟩)):=by exact rfl)
 (hb:h.get b=some (.cells vs own sz):=by first|assumption|(simp(disch:=first|omega|(simp only[z1,z2];omega))only[z3,z4,z5,z6,z7,z1,z2, *];done)|(simp(disch:=first|omega|(simp only[z1,z2];omega))only[z3,z4,z5,z6,z7,z1,z2, *];exact rfl)|(simp(disch:=first|omega|(simp only[z1,z2];omega)|(simp only[z1,z2];done)|fail)only[z8,z4,z5,z9,z7,z1,z2, *];done)|(simp(disch:=first|omega|(simp only[z1,z2];omega)|(simp only[z1,z2];done)|fail)only[z8,z4,z5,z9,z7,z1,z2, *];exact rfl))
 (hv:bV n (bE o vs)=l:=by exact rfl)(hl:Nat.beq (bR l) n=true:=by exact rfl):WO T base rnd Q (⟨dst, .load (some n) x,none⟩::os) e ds h:=ak (dA hx hb hv hl) H
theorem yS{n b o sz:Nat}{vs ws:List Value}(H:WO T base rnd Q os (bO e dst (.tuple #[])) ds (h.wr base b (.cells ws true sz)))(hx:ev h e x=some (.pointer (some ⟨b,o,none⟩)):=by exact rfl)(hy:ev h e y=some v:=by exact rfl)
 (hb:h.get b=some (.cells vs true sz):=by first|assumption|(simp(disch:=first|omega|(simp only[z1,z2];omega))only[z3,z4,z5,z6,z7,z1,z2, *];done)|(simp(disch:=first|omega|(simp only[z1,z2];omega))only[z3,z4,z5,z6,z7,z1,z2, *];exact rfl)|(simp(disch:=first|omega|(simp only[z1,z2];omega)|(simp only[z1,z2];done)|fail)only[z8,z4,z5,z9,z7,z1,z2, *];done)|(simp(disch:=first|omega|(simp only[z1,z2];omega)|(simp only[z1,z2];done)|fail)only[z8,z4,z5,z9,z7,z1,z2, *];exact rfl))
 (hc:(Nat.beq (bR (cellsOf v)) n&&Nat.ble (o+n) (bR vs)&&eM (cellsOf v))=true:=by exact rfl)(hw:cU vs o (cellsOf v)=ws:=by exact rfl):WO T base rnd Q (⟨dst, .store n x y,none⟩::os) e ds h:=ak (jb hx hy hb hc hw) H
theorem yF{off b o:Nat}(H:WO T base rnd Q os (bO e dst (.pointer (some ⟨b,o+off,none⟩))) ds h)(hx:ev h e x=some (.pointer (some ⟨b,o,none⟩)):=by exact rfl):WO T base rnd Q (⟨dst, .dg off x,none⟩::os) e ds h:=ak (eO hx) H
theorem yB{vs:List Value}(H:WO T base rnd Q os (bO e dst (.pointer (some ⟨h.next,0,none⟩))) ds (h.push (.cells vs true 1)))(hx:ev h e x=some v:=by exact rfl)(hc:cellsOf v=vs:=by exact rfl):WO T base rnd Q (⟨dst, .box x,none⟩::os) e ds h:=ak (Nc hx hc) H
theorem yT{c:Operand}(H:WO T base rnd Q os (bO e dst v) ds h)(hc:ev h e c=some (.bool true):=by exact rfl)(hx:ev h e x=some v:=by exact rfl):WO T base rnd Q (⟨dst, .pick c x y,none⟩::os) e ds h:=ak (j9 hc hx) H
theorem yU{c:Operand}(H:WO T base rnd Q os (bO e dst v) ds h)(hc:ev h e c=some (.bool false):=by exact rfl)(hx:ev h e y=some v:=by exact rfl):WO T base rnd Q (⟨dst, .pick c x y,none⟩::os) e ds h:=ak (mP hc hx) H
theorem yO{op:AOp}{t:Nat}{b:Bool}(H:WO T base rnd Q (⟨dst,op,none⟩::os) e ds h)(hg:geT e t=some (.bool b):=by exact rfl):WO T base rnd Q (⟨dst,op,some (t,b)⟩::os) e ds h:=M5 hg H
theorem yP{op:AOp}{t:Nat}{b c:Bool}(H:WO T base rnd Q os (bO e dst (.tuple #[])) ds h)(hg:geT e t=some (.bool c):=by exact rfl)(hx:c= !b:=by exact rfl):WO T base rnd Q (⟨dst,op,some (t,b)⟩::os) e ds h:=L8 hg hx H
theorem yC{f:Operand}{args:List Operand}{fv:Value}{as:List Value}{g:Nat}{first cap:Array Value}{all:List Value}(H:FW T (.func g) all {h with log:=[]} (KO (WO T base rnd Q os) Q base dst e ds h.log))(hf:ev h e f=some fv:=by exact rfl)(ha:evs h e args=some as:=by exact rfl)(hv:fv= .func (.func g) first cap:=by exact rfl)(hl:dQ first.toList (dQ as cap.toList)=all:=by exact rfl):
 WO T base rnd Q (⟨dst, .call f args,none⟩::os) e ds h:=qU (wX hf ha hv hl) H
theorem yX{c:Operand}{a b:bn}(H:WE T base rnd b Q e ds h)(hc:ev h e c=some (.bool false):=by exact rfl):WE T base rnd (.cond c a b) Q e ds h:=Et hc H
theorem yY{c:Operand}{a b:bn}(H:WE T base rnd a Q e ds h)(hc:ev h e c=some (.bool true):=by exact rfl):WE T base rnd (.cond c a b) Q e ds h:=IA hc H
theorem yA{b:Bool}(H:WO T base rnd Q os (bO e dst (.bool !b)) ds h)(hx:ev h e x=some (.bool b):=by exact rfl):WO T base rnd Q (⟨dst, .un .not x,none⟩::os) e ds h:=ak (Cb hx) H
theorem yD{a:Option Addr}{n c:Nat}(H:WO T base rnd Q os (bO e dst (.int .i64 n)) ds h)(hx:ev h e x=some (.slice a n c):=by exact rfl):WO T base rnd Q (⟨dst, .len 1 x,none⟩::os) e ds h:=ak (Mn hx) H
section
variable {k:IntKind} {a b:Int}
theorem yt{op:BinOp}{u:Value}(H:WO T base rnd Q os (bO e dst (.bool true)) ds h)(hx:ev h e x=some v:=by exact rfl)(hy:ev h e y=some u:=by exact rfl)(hv:aq op v u=some (.bool true):=by first|exact AD (by omega)|exact kJ (by omega)|exact fm (by omega)|exact jj (by omega)|exact F5 (by omega)|exact xg (by omega)):
 WO T base rnd Q (⟨dst, .bin (.num op) x y,none⟩::os) e ds h:=ak (vA hx hy hv) H
theorem yf{op:BinOp}{u:Value}(H:WO T base rnd Q os (bO e dst (.bool false)) ds h)(hx:ev h e x=some v:=by exact rfl)(hy:ev h e y=some u:=by exact rfl)(hv:aq op v u=some (.bool false):=by first|exact Be (by omega)|exact lH (by omega)|exact fF (by omega)|exact jA (by omega)|exact xz (by omega)|exact AM (by omega)):
 WO T base rnd Q (⟨dst, .bin (.num op) x y,none⟩::os) e ds h:=ak (vA hx hy hv) H
theorem fE{n:Nat}(H:WO T base rnd Q os (bO e dst (.int .i64 (n+1:Nat))) ds h)(hx:ev h e x=some (.int .i64 n):=by exact rfl)(hy:ev h e y=some (.int .i64 1):=by exact rfl)(hn:n<9223372036854775807:=by omega):WO T base rnd Q (⟨dst, .bin (.num .add) x y,none⟩::os) e ds h:=ak (vA hx hy (NL hn)) H
end
section
variable {ops:List aZ} {bf:List Nat} {rs:List Rec} {R:Env→Heap→Prop} {i mask:Nat} {is:List Nat} {g:Option (Nat×Bool)} {er:Env}
theorem qM(H:WD T base ops bf R is (⟨i,⟨dst, .mov x,g⟩,er,v, .quiet⟩::rs) (bO e dst v) h)(ho:cm ops i=some ⟨dst, .mov x,g⟩:=by exact rfl)(hm:cm bf i=some mask:=by exact rfl)(he:bG e (cC ⟨dst, .mov x,g⟩)=er:=by exact rfl)(hw:bJ er g=some true:=by exact rfl)(hx:ev h er x=some v:=by exact rfl):WD T base ops bf R (i::is) rs e h:=aI ho hm he hw rfl rfl (mY hx) H
theorem qF{off b o:Nat}(H:WD T base ops bf R is (⟨i,⟨dst, .dg off x,g⟩,er, .pointer (some ⟨b,o+off,none⟩), .quiet⟩::rs) (bO e dst (.pointer (some ⟨b,o+off,none⟩))) h)(ho:cm ops i=some ⟨dst, .dg off x,g⟩:=by exact rfl)(hm:cm bf i=some mask:=by exact rfl)(he:bG e (cC ⟨dst, .dg off x,g⟩)=er:=by exact rfl)(hw:bJ er g=some true:=by exact rfl)(hx:ev h er x=some (.pointer (some ⟨b,o,none⟩)):=by exact rfl):
 WD T base ops bf R (i::is) rs e h:=aI ho hm he hw rfl rfl (eO hx) H
theorem qL{b o sz:Nat}{vs:List Value}{own:Bool}(H:WD T base ops bf R is (⟨i,⟨dst, .load none x,g⟩,er,v, .quiet⟩::rs) (bO e dst v) h)(ho:cm ops i=some ⟨dst, .load none x,g⟩:=by exact rfl)(hm:cm bf i=some mask:=by exact rfl)(he:bG e (cC ⟨dst, .load none x,g⟩)=er:=by exact rfl)(hw:bJ er g=some true:=by exact rfl)(hx:ev h er x=some (.pointer (some ⟨b,o,none⟩)):=by exact rfl)
 (hb:h.get b=some (.cells vs own sz):=by first|assumption|(simp(disch:=first|omega|(simp only[z1,z2];omega))only[z3,z4,z5,z6,z7,z1,z2, *];done)|(simp(disch:=first|omega|(simp only[z1,z2];omega))only[z3,z4,z5,z6,z7,z1,z2, *];exact rfl)|(simp(disch:=first|omega|(simp only[z1,z2];omega)|(simp only[z1,z2];done)|fail)only[z8,z4,z5,z9,z7,z1,z2, *];done)|(simp(disch:=first|omega|(simp only[z1,z2];omega)|(simp only[z1,z2];done)|fail)only[z8,z4,z5,z9,z7,z1,z2, *];exact rfl))
 (hv:cm vs o=some v:=by exact rfl):WD T base ops bf R (i::is) rs e h:=aI ho hm he hw rfl rfl (ek hx hb hv) H
theorem qN{n b o sz:Nat}{vs l:List Value}{own:Bool}(H:WD T base ops bf R is (⟨i,⟨dst, .load (some n) x,g⟩,er, .agg l.toArray, .quiet⟩::rs) (bO e dst (.agg l.toArray)) h)(ho:cm ops i=some ⟨dst, .load (some n) x,g⟩:=by exact rfl)(hm:cm bf i=some mask:=by exact rfl)(he:bG e (cC ⟨dst, .load (some n) x,g⟩)=er:=by exact rfl)(hw:bJ er g=some true:=by exact rfl)(hx:ev h er x=some (.pointer (some ⟨b,o,none⟩)):=by exact rfl)
 (hb:h.get b=some (.cells vs own sz):=by first|assumption|(simp(disch:=first|omega|(simp only[z1,z2];omega))only[z3,z4,z5,z6,z7,z1,z2, *];done)|(simp(disch:=first|omega|(simp only[z1,z2];omega))only[z3,z4,z5,z6,z7,z1,z2, *];exact rfl)|(simp(disch:=first|omega|(simp only[z1,z2];omega)|(simp only[z1,z2];done)|fail)only[z8,z4,z5,z9,z7,z1,z2, *];done)|(simp(disch:=first|omega|(simp only[z1,z2];omega)|(simp only[z1,z2];done)|fail)only[z8,z4,z5,z9,z7,z1,z2, *];exact rfl))
 (hv:bV n (bE o vs)=l:=by exact rfl)(hl:Nat.beq (bR l) n=true:=by exact rfl):WD T base ops bf R (i::is) rs e h:=aI ho hm he hw rfl rfl (dA hx hb hv hl) H
theorem qC{f:Operand}{args:List Operand}{fv:Value}{as:List Value}{k:Nat}{first cap:Array Value}{all:List Value}(H:FW T (.func k) all {h with log:=[]} (KD (WD T base ops bf R is) base mask rs dst e h.log))(ho:cm ops i=some ⟨dst, .call f args,g⟩:=by exact rfl)(hm:cm bf i=some mask:=by exact rfl)(he:bG e (cC ⟨dst, .call f args,g⟩)=er:=by exact rfl)(hw:bJ er g=some true:=by exact rfl)
 (hf:ev {h with log:=[]} er f=some fv:=by exact rfl)(ha:evs {h with log:=[]} er args=some as:=by exact rfl)(hv:fv= .func (.func k) first cap:=by exact rfl)(hl:dQ first.toList (dQ as cap.toList)=all:=by exact rfl):WD T base ops bf R (i::is) rs e h:=Jd ho hm he hw rfl (wX hf ha hv hl) H
end
end Go.A
end
section
set_option maxRecDepth 100000
namespace Go.A
variable {T:Nat→Option ah} {base:Nat} {rnd:Option Nat} {Q:XQ} {e:Env} {ds:Dfs} {h:Heap}
def mx(a b:Int):Int:=if b>a then b else a
theorem kM{base:Nat}{h:Heap}{e:Env}{len size b o i:Nat}{k:IntKind}{x y:Operand}(hx:ev h e x=some (.pointer (some ⟨b,o,none⟩)))(hy:ev h e y=some (.int k (i:Nat)))(hi:i<len):aop h base e (.cD len size x y)=some (.val (.pointer (some ⟨b,o+i*size,none⟩)) h):=by
 have e0:(.int k (i:Nat):Value)= .int k (Int.ofNat i):=rfl
 rw[e0]at hy
 simp only[aop,hx,hy,gj hi,cond_true]
theorem qv{base:Nat}{h:Heap}{e:Env}{x y:Operand}{a b:Int}(hx:ev h e x=some (.int .i64 a))(hy:ev h e y=some (.int .i64 b)):aop h base e (.dO true [x,y])=some (.val (.int .i64 (mx a b)) h):=by
 simp only[aop,evs,hx,hy,mmA,if_true,cB,mx]
theorem cO{x y:Operand}{b n sz:Nat}{vs cs:List Value}(hx:ev h e x=some (.pointer (some ⟨b,0,none⟩)))(hy:ev h e y=some (.agg cs.toArray))(hb:h.get b=some (.cells vs true sz))(hn:cs.length=n)(hv:vs.length=n)(h1:eM cs=true):
 aop h base e (.store n x y)=some (.val (.tuple #[]) (h.wr base b (.cells cs true sz))):=by
 have hc:cellsOf (.agg cs.toArray)=cs:=by show cs.toArray.toList=cs;simp
 refine jb hx hy hb ?_ ?_
 ·rw[hc,ct,ct,hn,hv,h1,oP,Nat.zero_add,gF (Nat.le_refl n)];rfl
 ·rw[hc,jt (by omega)]
  simp only[List.take_zero,List.nil_append,Nat.zero_add]
  rw[List.drop_of_length_le (by omega),List.append_nil]
theorem FD{x y:Operand}{b o sz:Nat}{vs:List Value}{v:Value}(hx:ev h e x=some (.pointer (some ⟨b,o,none⟩)))(hy:ev h e y=some v)(hb:h.get b=some (.cells vs true sz))(hc:cellsOf v=[v])(h1:eM [v]=true)(ho:o<vs.length):
 aop h base e (.store 1 x y)=some (.val (.tuple #[]) (h.wr base b (.cells (vs.set o v) true sz))):=by
 refine jb hx hy hb ?_ ?_
 ·rw[hc,h1,ct,ct,gF (by omega)];rfl
 ·rw[hc]
  show qc vs o v=vs.set o v
  clear hx hy hb
  induction vs generalizing o with
  |nil=>simp at ho
  |cons w vs ih=>
   cases o with
   |zero=>rfl
   |succ o=>simp only[qc,List.set_cons_succ];rw[ih (by simpa using ho)]
theorem Ee{op:UnOp}{x:Operand}{a v:Value}(hx:ev h e x=some a)(hv:qR op a=some v):aop h base e (.un op x)=some (.val v h):=by simp only[aop,hx,cB,hv]
theorem Cr{a b:Int}(h1: -9223372036854775808≤a*b)(h2:a*b<9223372036854775808):aq .mul (.int .i64 a) (.int .i64 b)=some (.int .i64 (a*b)):=by
 simp[aq,arith,bT h1 h2]
theorem rW{base:Nat}:∀{m l:List Nat},fG base m→aD base l m=l
 |[],_,_=>rfl
 |b::m,l,h=>by
  have hb:=h b (List.mem_cons_self ..)
  simp only[aD,nv (show¬b<base by omega),cond_false]
  exact rW fun x hx=>h x (List.mem_cons_of_mem _ hx)
theorem FW.gs0{base:Nat}{Q:XQ}{e:Env}{ds:Dfs}{h:Heap}{f:Nat}{args:List Value}{S:Nat→Prop}{Q':Value→Heap→Prop}{K:Env→Dfs→Heap→Prop}{dst:Option Nat}(H:Gs T f args {h with log:=[]} S Q')(hlog:∀v (h':Heap) l,Q' v h'→Q' v {h' with log:=l})(hS:∀z,S z→base≤z)(hK:∀v h',h.next≤h'.next→h'.log=h.log→(∀z,z<h.next→¬S z→h'.get z=h.get z)→(WF h→WF h')→Q' v h'→K (bO e dst v) ds h'):
 FW T (.func f) args {h with log:=[]} (KO K Q base dst e ds h.log):=by
 refine .func (CW.mono H ?_)
 rintro r h2 ⟨hx,v,rfl,hq⟩
 exact⟨hK v _ hx.next (rW fun z hz=>hS z ((hx.log z hz).elim (fun q=>by cases q) id)) hx.old (fun w=>(hx.wf (w.log [])).log _) (hlog v h2 _ hq)⟩
theorem mD{base:Nat}{h:Heap}{e:Env}{size b o n i j:Nat}{x:Operand}{lo hi:Option Operand}(hx:ev h e x=some (.pointer (some ⟨b,o,none⟩)))(hl:bnd h e 0 lo=some i)(hh:bnd h e n hi=some j)(h1:i≤j)(h2:j≤n)(h3:i<n)(h4:n<1000000):
 aop h base e (.slice (.arr n size) x lo hi none)=some (.val (.slice (some ⟨b,o+i*size,none⟩) (j-i) (n-i)) h):=by
 simp only[aop,hx,fQ,hl,hh,qy (show n≠UNK by unfold UNK;omega),gF h1,gF h2,qy (show n≠i by omega),Bool.and_self,cond_true,cond_false,fq]
theorem rH{base:Nat}{h:Heap}{e:Env}{ops:List aZ}{bf:List Nat}{rs rs':List Rec}{Q:Env→Heap→Prop}{i mask:Nat}{is:List Nat}{dst:Option Nat}{g:Option (Nat×Bool)}{er:Env}{x y:Operand}{b o sz:Nat}{vs:List Value}{v:Value}
 (ho:cm ops i=some ⟨dst, .store 1 x y,g⟩)(hm:cm bf i=some mask)(he:bG e (cC ⟨dst, .store 1 x y,g⟩)=er)(hwt:bJ er g=some true)(hx:ev {h with log:=[]} er x=some (.pointer (some ⟨b,o,none⟩)))(hy:ev {h with log:=[]} er y=some v)(hb:h.get b=some (.cells vs true sz))
 (hc:cellsOf v=[v])(h1:eM [v]=true)(ho':o<vs.length)(hlt:b<h.next)(hbb:base≤b)(hrs:bB (h.wr base b (.cells (vs.set o v) true sz)) base [b] mask rs=some rs')
 (H:WD T base ops bf Q is rs' (bO e dst (.tuple #[])) (h.wr base b (.cells (vs.set o v) true sz))):WD T base ops bf Q (i::is) rs e h:=
 sS ho hm he hwt rfl (FD (h:={h with log:=[]}) hx hy hb hc h1 ho') (HL hlt hbb _) (vp hlt _) hrs H
theorem zR{base:Nat}{h:Heap}{e:Env}{ops:List aZ}{bf:List Nat}{rs rs':List Rec}{Q:Env→Heap→Prop}{i mask:Nat}{is:List Nat}{dst:Option Nat}{g:Option (Nat×Bool)}{er:Env}{x y:Operand}{b n sz:Nat}{vs cs:List Value}
 (ho:cm ops i=some ⟨dst, .store n x y,g⟩)(hm:cm bf i=some mask)(he:bG e (cC ⟨dst, .store n x y,g⟩)=er)(hwt:bJ er g=some true)(hx:ev {h with log:=[]} er x=some (.pointer (some ⟨b,0,none⟩)))(hy:ev {h with log:=[]} er y=some (.agg cs.toArray))(hb:h.get b=some (.cells vs true sz))
 (hn:cs.length=n)(hv:vs.length=n)(h1:eM cs=true)(hlt:b<h.next)(hbb:base≤b)(hrs:bB (h.wr base b (.cells cs true sz)) base [b] mask rs=some rs')
 (H:WD T base ops bf Q is rs' (bO e dst (.tuple #[])) (h.wr base b (.cells cs true sz))):WD T base ops bf Q (i::is) rs e h:=
 sS ho hm he hwt rfl (cO (h:={h with log:=[]}) hx hy hb hn hv h1) (HL hlt hbb _) (vp hlt _) hrs H
theorem ij{base:Nat}{e:Env}{h:Heap}{ops:List aZ}{bf:List Nat}{rs rs':List Rec}{Q:Env→Heap→Prop}{i mask:Nat}{is:List Nat}{dst:Option Nat}{x y:Operand}{n b o sz:Nat}{vs ws:List Value}{v:Value}{g:Option (Nat×Bool)}{er:Env}(ho:cm ops i=some ⟨dst, .store n x y,g⟩)(hm:cm bf i=some mask)
 (he:bG e (cC ⟨dst, .store n x y,g⟩)=er)(hw:bJ er g=some true)(hx:ev {h with log:=[]} er x=some (.pointer (some ⟨b,o,none⟩)))(hy:ev {h with log:=[]} er y=some v)(hb:h.get b=some (.cells vs true sz))
 (hc:(Nat.beq (bR (cellsOf v)) n&&Nat.ble (o+n) (bR vs)&&eM (cellsOf v))=true)(hws:cU vs o (cellsOf v)=ws)(hlt:b<h.next)(hrs:bB (h.wr base b (.cells ws true sz)) base [b] mask rs=some rs')
 (H:WD T base ops bf Q is rs' (bO e dst (.tuple #[])) (h.wr base b (.cells ws true sz))):WD T base ops bf Q (i::is) rs e h:=
 sS ho hm he hw rfl (jb (h:={h with log:=[]}) hx hy hb hc hws) (Mi hlt _) (vp hlt _) hrs H
theorem BK{base:Nat}{rnd:Option Nat}{Q:XQ}{e E:Env}{ds:Dfs}{h H:Heap}{a b:bn}(H1:WE T base rnd a (fun x e' ds' h'=>x= .normal∧e'=E∧ds'=[]∧h'=H) e ds h)(H2:WE T base rnd b Q E [] H):WE T base rnd (.seq a b) Q e ds h:=by
 refine af (H1.mono ?_)
 rintro x e' ds' h' ⟨rfl,rfl,rfl,rfl⟩
 exact aN H2
theorem eY{base:Nat}{rnd:Option Nat}{Q:XQ}{e:Env}{E0:Env}{ds:Dfs}{h:Heap}{a b:bn}{P:Heap→Prop}(H1:WE T base rnd a (fun x e' ds' h'=>x= .normal∧e'=E0∧ds'=[]∧P h') e ds h)(H2:∀h',P h'→WE T base rnd b Q E0 [] h'):WE T base rnd (.seq a b) Q e ds h:=by
 refine af (H1.mono ?_)
 rintro x e' ds' h' ⟨rfl,rfl,rfl,hp⟩
 exact aN (H2 h' hp)
theorem Bi{size:Nat}{x:Operand}{hi:Option Operand}(hx:ev h e x=some (.slice none 0 0))(hh:bnd h e 0 hi=some 0):aop h base e (.slice (.sl size) x none hi none)=some (.val (.slice none 0 0) h):=by
 simp only[aop,hx,fQ,nS,hh]
 rfl
theorem WF.jW{h:Heap}(w:WF h){x:Nat}{o:bN}(hx:h.get x=some o):x<h.next:=by
 refine w.lt x (Classical.byContradiction fun hn=> ?_)
 have:=Dd hn
 rw[show eX h.bM x=h.get x from rfl,hx]at this
 cases this
theorem Rdy.self{h:Heap}(hr:Rdy h):({h with log:=[]}:Heap)=h:=by
 have:=hr.log
 cases h
 cases this
 rfl
end Go.A
end
section
namespace Go.A
variable {T:Nat→Option ah} {base:Nat} {rnd:Option Nat} {Q:XQ} {e:Env} {ds:Dfs} {h:Heap}
structure endSK (h:Heap) (rs:List (Nat×Option (Option Nat))) (S:Nat→Prop) (Q:Value→Heap→Prop) (x:bA) (e:Env) (ds:Dfs) (h1:Heap):Prop where
 ok:(x= .normal∨x= .ret)∧ds=[]∧(∀z∈h1.log,S z)∧(h1=h∨∃q,q<h.next∧q∈h1.log∧lC h1 q)∧∃vs,cH h1 e rs=some vs∧Q (fP vs) h1
end Go.A
end
section
namespace Go.A
variable {T:Nat→Option ah} {base:Nat} {rnd:Option Nat} {Q:XQ} {e:Env} {ds:Dfs} {h:Heap} {os:List aZ} {dst:Option Nat} {v:Value} {x y:Operand}
theorem yW{op:BinOp}{a b:Value}(H:WO T base rnd Q os (bO e dst v) ds h)(hx:ev h e x=some a:=by exact rfl)(hy:ev h e y=some b:=by exact rfl)(hv:aq op a b=some v:=by with_reducible assumption):WO T base rnd Q (⟨dst, .bin (.num op) x y,none⟩::os) e ds h:=ak (vA hx hy hv) H
theorem yV{n b o sz:Nat}{vs l:List Value}{own:Bool}(H:WO T base rnd Q os (bO e dst (.agg l.toArray)) ds h)(hx:ev h e x=some (.pointer (some ⟨b,o,none⟩)):=by exact rfl)(hb:h.get b=some (.cells vs own sz):=by assumption)(hv:bV n (bE o vs)=l:=by assumption)(hl:Nat.beq (bR l) n=true:=by assumption):WO T base rnd Q (⟨dst, .load (some n) x,none⟩::os) e ds h:=ak (dA hx hb hv hl) H
theorem yI{size b o len cap i:Nat}{k:IntKind}(H:WO T base rnd Q os (bO e dst (.pointer (some ⟨b,o+i*size,none⟩))) ds h)(hx:ev h e x=some (.slice (some ⟨b,o,none⟩) len cap):=by exact rfl)(hy:ev h e y=some (.int k (i:Nat)):=by exact rfl)(hi:i<len:=by omega):WO T base rnd Q (⟨dst, .aO size x y,none⟩::os) e ds h:=ak (qf hx hy hi) H
section
variable {ops:List aZ} {bf:List Nat} {rs:List Rec} {R:Env→Heap→Prop} {i mask:Nat} {is:List Nat} {g:Option (Nat×Bool)} {er:Env}
theorem qW{op:BinOp}{a b:Value}(H:WD T base ops bf R is (⟨i,⟨dst, .bin (.num op) x y,g⟩,er,v, .quiet⟩::rs) (bO e dst v) h)(ho:cm ops i=some ⟨dst, .bin (.num op) x y,g⟩:=by exact rfl)(hm:cm bf i=some mask:=by exact rfl)(he:bG e (cC ⟨dst, .bin (.num op) x y,g⟩)=er:=by exact rfl)(hw:bJ er g=some true:=by exact rfl)(hx:ev h er x=some a:=by exact rfl)(hy:ev h er y=some b:=by exact rfl)(hv:aq op a b=some v:=by with_reducible assumption):WD T base ops bf R (i::is) rs e h:=aI ho hm he hw rfl rfl (vA hx hy hv) H
theorem qV{n b o sz:Nat}{vs l:List Value}{own:Bool}(H:WD T base ops bf R is (⟨i,⟨dst, .load (some n) x,g⟩,er, .agg l.toArray, .quiet⟩::rs) (bO e dst (.agg l.toArray)) h)(ho:cm ops i=some ⟨dst, .load (some n) x,g⟩:=by exact rfl)(hm:cm bf i=some mask:=by exact rfl)(he:bG e (cC ⟨dst, .load (some n) x,g⟩)=er:=by exact rfl)(hw:bJ er g=some true:=by exact rfl)(hx:ev h er x=some (.pointer (some ⟨b,o,none⟩)):=by exact rfl)(hb:h.get b=some (.cells vs own sz):=by assumption)(hv:bV n (bE o vs)=l:=by assumption)(hl:Nat.beq (bR l) n=true:=by assumption):WD T base ops bf R (i::is) rs e h:=aI ho hm he hw rfl rfl (dA hx hb hv hl) H
theorem qK{b o sz:Nat}{vs:List Value}{own:Bool}(H:WD T base ops bf R is (⟨i,⟨dst, .load none x,g⟩,er,v, .quiet⟩::rs) (bO e dst v) h)(ho:cm ops i=some ⟨dst, .load none x,g⟩:=by exact rfl)(hm:cm bf i=some mask:=by exact rfl)(he:bG e (cC ⟨dst, .load none x,g⟩)=er:=by exact rfl)(hw:bJ er g=some true:=by exact rfl)(hx:ev h er x=some (.pointer (some ⟨b,o,none⟩)):=by exact rfl)(hb:h.get b=some (.cells vs own sz):=by assumption)(hv:cm vs o=some v:=by assumption):WD T base ops bf R (i::is) rs e h:=aI ho hm he hw rfl rfl (ek hx hb hv) H
theorem qI{size b o len cap j:Nat}{k:IntKind}(H:WD T base ops bf R is (⟨i,⟨dst, .aO size x y,g⟩,er, .pointer (some ⟨b,o+j*size,none⟩), .quiet⟩::rs) (bO e dst (.pointer (some ⟨b,o+j*size,none⟩))) h)(ho:cm ops i=some ⟨dst, .aO size x y,g⟩:=by exact rfl)(hm:cm bf i=some mask:=by exact rfl)(he:bG e (cC ⟨dst, .aO size x y,g⟩)=er:=by exact rfl)(hw:bJ er g=some true:=by exact rfl)(hx:ev h er x=some (.slice (some ⟨b,o,none⟩) len cap):=by exact rfl)(hy:ev h er y=some (.int k (j:Nat)):=by exact rfl)(hi:j<len:=by omega):WD T base ops bf R (i::is) rs e h:=aI ho hm he hw rfl rfl (qf hx hy hi) H
theorem qJ{size b o len j:Nat}{k:IntKind}(H:WD T base ops bf R is (⟨i,⟨dst, .cD len size x y,g⟩,er, .pointer (some ⟨b,o+j*size,none⟩), .quiet⟩::rs) (bO e dst (.pointer (some ⟨b,o+j*size,none⟩))) h)(ho:cm ops i=some ⟨dst, .cD len size x y,g⟩:=by exact rfl)(hm:cm bf i=some mask:=by exact rfl)(he:bG e (cC ⟨dst, .cD len size x y,g⟩)=er:=by exact rfl)(hw:bJ er g=some true:=by exact rfl)(hx:ev h er x=some (.pointer (some ⟨b,o,none⟩)):=by exact rfl)(hy:ev h er y=some (.int k (j:Nat)):=by exact rfl)(hi:j<len:=by omega):WD T base ops bf R (i::is) rs e h:=aI ho hm he hw rfl rfl (kM hx hy hi) H
theorem qO{op:AOp}(H:WD T base ops bf R is (⟨i,⟨dst,op,g⟩,er, .tuple #[], .skip⟩::rs) (bO e dst (.tuple #[])) h)(ho:cm ops i=some ⟨dst,op,g⟩:=by exact rfl)(hm:cm bf i=some mask:=by exact rfl)(he:bG e (cC ⟨dst,op,g⟩)=er:=by exact rfl)(hw:bJ er g=some false:=by exact rfl):WD T base ops bf R (i::is) rs e h:=Ms ho hm he hw H
end
end Go.A
end
