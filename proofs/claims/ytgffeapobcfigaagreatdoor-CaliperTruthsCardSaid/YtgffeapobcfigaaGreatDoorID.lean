/- How a run is reckoned. -/
import Derived.Test.YtgffeapobcfigaaGreatDoorIC
import Derived.Test.YtgffeapobcfigaaGreatDoorIA
import Derived.Lib.Bytealg
import Derived.Below
import Derived.Test.YtgffeapobcfigaaGreatDoorIE
set_option linter.all false
section
namespace Go.A
variable {P:Program}
def Tr.all(Q:Nat→ak→Prop):Tr→Prop
 | .nil=>True
 | .node l k v r=>l.all Q∧Q k v∧r.all Q
theorem Tr.all_nil{Q:Nat→ak→Prop}:Tr.all Q .nil:=trivial
theorem Tr.ah{Q:Nat→ak→Prop}{l r:Tr}{k:Nat}{v:ak}(h1:l.all Q)(h2:Q k v)(h3:r.all Q):Tr.all Q (.node l k v r):=⟨h1,h2,h3⟩
theorem Tr.rR{Q:Nat→ak→Prop}:∀{t:Tr} {n:Nat} {v:ak},t.all Q→t.get n=some v→Q n v
 | .nil,_,_,_,h=>by cases h
 | .node l k v r,n,u,ha,h=>by
   simp only[Tr.get,cond_eq_ite,beq_eq,decide_eq_true_eq]at h
   split at h
   ·rename_i e;subst e;cases h;exact ha.2.1
   ·split at h
    ·exact Tr.rR ha.1 h
    ·exact Tr.rR ha.2.2 h
def vF(P:Program)(f:Nat)(p:List Value→Heap→Option (Value×Heap)):Prop:=∀args h v h',p args h=some (v,h')→h.log=[]→AS h.next h h'∧∀μ w args',R P μ h w→LR μ args args'→mJ P (gp P μ h w (.ret v) h') ((callFunc f args'.toArray).run P w)
inductive Entry (P:Program) (k:Nat):ak→Prop
 |code {c rs fn ks}:P.funcs[k]? =some fn→aL P fn ks=some (.code c rs)→Entry P k (.code c rs)
 |jI {p}:vF P k p→Entry P k (.jI p)
theorem Entry.of{k:Nat}{fn:Func}{a:ak}{ks:List (List Nat)}(h1:P.funcs[k]? =some fn)(h2:aL P fn ks=some a):Entry P k a:=by
 have h3:=h2
 unfold aL at h3
 split at h3
 ·split at h3
  ·cases h3
  ·split at h3
   ·cases h3;exact .code h1 h2
   ·cases h3
 ·cases h3
theorem nT{t:Tr}(hm:P.follows .mixedOrders=true)(h:t.all (Entry P)):ef P t.get where
 mixed:=hm
 code:=fun f c rs hf=>by
  have:=Tr.rR h hf
  cases this with
  |code h1 h2=>exact⟨_,_,h1,h2⟩
 jI:=fun f p args h0 v h' hf hp hl=>by
  have:=Tr.rR h hf
  cases this with
  |jI h1=>exact h1 args h0 v h' hp hl
theorem R.grow{μ:Mu}{h:Heap}{w w':World}(hR:R P μ h w)(hs:w.heap.size≤w'.heap.size)(hk:∀r,r<w.heap.size→w'.heap[r]? =w.heap[r]?)(hsm:Same w w'):R P μ h w'∧St μ h w μ h w':=
 ⟨⟨hR.big,fun g o h1 h2=>let⟨k,a,b,c,x⟩:=hR.jS g o h1 h2;⟨k,a,b,c,x.get (hk _ (hR.dom _ _ a).2)⟩,fun b o hb=>OR.mono (fun _ _ h=>h) rfl (fun k hk'=>hk _ (hR.dom _ _ hk').2) (hR.obj b o hb),hR.lt,fun b k hb=>⟨(hR.dom b k hb).1,Nat.lt_of_lt_of_le (hR.dom b k hb).2 hs⟩,hR.jF⟩,
   ⟨fun _ _=>rfl,hs,fun r hr _=>hk r hr,fun _ _ h=>h,fun r L h=>⟨L,(hk r (Array.getElem?_eq_some_iff.1 h).1).trans h, .refl L⟩,hsm⟩⟩
theorem CM{f:Nat}{fn:Func}(hf:P.funcs[f]? =some fn)(hn:fn.name≠ "runtime.NumGoroutine")(hb:fn.body.isSome=true)(args:Array Value)(w:World):(callFunc f args).run P w= .ok (.enter f args) w:=by
 cases hb':fn.body with
 |none=>rw[hb']at hb;cases hb
 |some b=>simp[callFunc,program,Sem.run,hf,hb',hn]
theorem jw{μ:Mu}{h:Heap}{w:World}{f:Nat}{fn:Func}(hf:P.funcs[f]? =some fn)(hn:fn.name≠ "runtime.NumGoroutine")(hb:fn.body.isSome=true){args:Array Value}{Q:Ending→World→Prop}(hc:Calls P f args w Q)
 {res:Res}{h':Heap}(hq:∀e w',Q e w'→gp P μ h w res h' e w'):mJ P (gp P μ h w res h') ((callFunc f args).run P w):=by
 rw[CM hf hn hb]
 exact callsIn_wide.2 (hc.mono hq)
theorem LR.two{μ:Mu}{x y:Value}{l:List Value}(h:LR μ [x,y] l):∃x' y',l=[x',y']∧VR μ x x'∧VR μ y y':=by
 cases h with
 |cons h1 h2=>cases h2 with
  |cons h2 h3=>cases h3;exact⟨_,_,rfl,h1,h2⟩
end Go.A
end
section
namespace Go.A
variable {T:Nat→Option ak}
def Ev(T:Nat→Option ak)(base:Nat)(rnd:Option Nat)(c:aX)(e:Env)(ds:Dfs)(h:Heap)(r:bw×Env×Dfs×Heap):Prop:=∃m,∀n,m≤n→bT T n base rnd c e ds h=some r
def EvO(T:Nat→Option ak)(base:Nat)(rnd:Option Nat)(ops:List bk)(e:Env)(ds:Dfs)(h:Heap)(r:bw×Env×Dfs×Heap):Prop:=∃m,∀n,m≤n→gu T n base rnd ops e ds h=some r
def EvD(T:Nat→Option ak)(base:Nat)(ops:List bk)(is bf:List Nat)(rs:List Rec)(e:Env)(h:Heap)(r:bw×Env×Heap):Prop:=∃m,∀n,m≤n→eF T n base ops is bf rs e h=some r
def EvF(T:Nat→Option ak)(fn:Fn)(args:List Value)(h:Heap)(r:Res×Heap):Prop:=∃m,∀n,m≤n→fU T n fn args h=some r
def EvC(T:Nat→Option ak)(f:Nat)(args:List Value)(h:Heap)(r:Res×Heap):Prop:=∃m,∀n,m≤n→iz T n f args h=some r
def XW(T:Nat→Option ak)(base:Nat)(rnd:Option Nat)(c:aX)(e:Env)(ds:Dfs)(h:Heap)(Q:bw→Env→Dfs→Heap→Prop):Prop:=∃x e' ds' h',Ev T base rnd c e ds h (x,e',ds',h')∧Q x e' ds' h'
def FW(T:Nat→Option ak)(fn:Fn)(args:List Value)(h:Heap)(Q:Res→Heap→Prop):Prop:=∃r h',EvF T fn args h (r,h')∧Q r h'
def CW(T:Nat→Option ak)(f:Nat)(args:List Value)(h:Heap)(Q:Res→Heap→Prop):Prop:=∃r h',EvC T f args h (r,h')∧Q r h'
theorem XW.mono{base:Nat}{rnd:Option Nat}{c:aX}{e:Env}{ds:Dfs}{h:Heap}{Q Q':bw→Env→Dfs→Heap→Prop}(H:XW T base rnd c e ds h Q)(hq:∀x e ds h,Q x e ds h→Q' x e ds h):XW T base rnd c e ds h Q':=
 let⟨x,e',ds',h',h1,h2⟩:=H;⟨x,e',ds',h',h1,hq _ _ _ _ h2⟩
theorem CW.mono{f:Nat}{args:List Value}{h:Heap}{Q Q':Res→Heap→Prop}(H:CW T f args h Q)(hq:∀r h,Q r h→Q' r h):CW T f args h Q':=
 let⟨r,h',h1,h2⟩:=H;⟨r,h',h1,hq _ _ h2⟩
abbrev XQ:=bw→Env→Dfs→Heap→Prop
def kR(keep:List Nat)(Q:XQ):XQ:=fun x e ds h=>match x with
 | .normal=>Q .normal (bQ e keep) ds h
 |x=>Q x e ds h
def kB(id:Nat)(Q:XQ):XQ:=fun x e ds h=>match x with
 | .exit i=>(i=id→Q .normal e ds h)∧(i≠id→Q (.exit i) e ds h)
 |x=>Q x e ds h
def kS(K:Env→Dfs→Heap→Prop)(Q:XQ):XQ:=fun x e ds h=>match x with
 | .normal=>K e ds h
 |x=>Q x e ds h
def kO(K:Env→Dfs→Heap→Prop)(Q:XQ)(base:Nat)(dst:Option Nat)(e:Env)(ds:Dfs)(log:List Nat):Res→Heap→Prop:=fun r h2=>match r with
 | .ret v=>K (bZ e dst v) ds {h2 with log:=aB base log h2.log}
 | .panic v=>Q (.panic v) e ds {h2 with log:=aB base log h2.log}
def kD(K:List Rec→Env→Heap→Prop)(base:Nat)(mask:Nat)(rs:List Rec)(dst:Option Nat)(e:Env)(log:List Nat):Res→Heap→Prop:=fun r h2=>match r with
 | .ret v=>match bI {h2 with log:=aB base log h2.log} base h2.log mask rs with
   |some rs'=>K rs' (bZ e dst v) {h2 with log:=aB base log h2.log}
   |none=>False
 | .panic _=>False
def wpA(T:Nat→Option ak)(base:Nat)(rnd:Option Nat)(wpO:Env→Dfs→Heap→Prop)(Q:XQ)(dst:Option Nat)(e:Env)(ds:Dfs)(h:Heap):Option ct→Prop
 |some (.val v h')=>wpO (bZ e dst v) ds h'
 |some (.call fn args h')=>FW T fn args {h' with log:=[]} (kO wpO Q base dst e ds h'.log)
 |some (.ja f args)=>rnd=none∧wpO (bZ e dst (.tuple #[])) ((f,args)::ds) h
 |some (.panic v h')=>Q (.panic v) e ds h'
 |_=>False
def wpG(A:Prop)(B:Prop):Option Bool→Prop
 |some c=>(c=false→B)∧(c=true→A)
 |none=>False
def wpO(T:Nat→Option ak)(base:Nat)(rnd:Option Nat)(Q:XQ):List bk→Env→Dfs→Heap→Prop
 |[],e,ds,h=>Q .normal e ds h
 |o::os,e,ds,h=>wpG (wpA T base rnd (wpO T base rnd Q os) Q o.dst e ds h (aop h base e o.op)) (wpO T base rnd Q os (bZ e o.dst (.tuple #[])) ds h) (bW e o.guard)
def NC(T:Nat→Option ak)(base:Nat)(wpD:List Rec→Env→Heap→Prop)(i:Nat)(o:bk)(mask:Nat)(rs:List Rec)(er e:Env)(h:Heap):Prop:=
 match iT o.op with
 |true=>
  match aop h base er o.op with
  |some (.val v h')=>
   match cT o.op with
   |true=>lN h' base rs=true∧wpD (⟨i,o,er,v, .made h.next⟩::rs) (bZ e o.dst v) h'
   |false=>h'.next=h.next∧wpD (⟨i,o,er,v, .quiet⟩::rs) (bZ e o.dst v) h
  |_=>False
 |false=>
  match aop {h with log:=[]} h.next er o.op with
  |some (.val v h2)=>match bI {h2 with log:=aB base h.log h2.log} base h2.log mask rs with
   |some rs'=>wpD rs' (bZ e o.dst v) {h2 with log:=aB base h.log h2.log}
   |none=>False
  |some (.call fn args _)=>FW T fn args {h with log:=[]} (kD wpD base mask rs o.dst e h.log)
  |_=>False
def wpD(T:Nat→Option ak)(base:Nat)(ops:List bk)(bf:List Nat)(Q:Env→Heap→Prop):List Nat→List Rec→Env→Heap→Prop
 |[],_,e,h=>Q e h
 |i::is,rs,e,h=>
  match cE ops i,cE bf i with
  |some o,some mask=>wpG (NC T base (wpD T base ops bf Q is) i o mask rs (bQ e (cF o)) e h) (wpD T base ops bf Q is (⟨i,o,bQ e (cF o), .tuple #[], .skip⟩::rs) (bZ e o.dst (.tuple #[])) h) (bW (bQ e (cF o)) o.guard)
  |_,_=>False
def wpC(A B:Prop):Option Value→Prop
 |some (.bool t)=>(t=true→A)∧(t=false→B)
 |_=>False
def wpE(T:Nat→Option ak)(base:Nat)(rnd:Option Nat):aX→XQ→Env→Dfs→Heap→Prop
 | .skip,Q,e,ds,h=>Q .normal e ds h
 | .region ops keep,Q,e,ds,h=>wpO T base rnd (kR keep Q) ops e ds h
 | .draw ops order bf keep,Q,e,ds,h=>wpD T base ops bf (fun e' h'=>Q .normal (bQ e' keep) ds h') order [] e h
 | .seq a b,Q,e,ds,h=>wpE T base rnd a (kS (wpE T base rnd b Q) Q) e ds h
 | .cond c a b,Q,e,ds,h=>wpC (wpE T base rnd a Q e ds h) (wpE T base rnd b Q e ds h) (ev h e c)
 | .block id b,Q,e,ds,h=>wpE T base rnd b (kB id Q) e ds h
 | .loop b,Q,e,ds,h=>XW T base rnd (.loop b) e ds h Q
 | .rangeFunc f ps a b,Q,e,ds,h=>XW T base rnd (.rangeFunc f ps a b) e ds h Q
 | .scope b,Q,e,ds,h=>wpE T base rnd b Q e ds h
 | .rangeMap o i x k ou nx pr o2 k2 b,Q,e,ds,h=>XW T base rnd (.rangeMap o i x k ou nx pr o2 k2 b) e ds h Q
 | .exit id,Q,e,ds,h=>Q (.exit id) e ds h
 | .ret,Q,e,ds,h=>Q .ret e ds h
theorem qV{base:Nat}{rnd:Option Nat}{Q:XQ}:∀{ops:List bk} {e:Env} {ds:Dfs} {h:Heap},wpO T base rnd Q ops e ds h→∃x e' ds' h',EvO T base rnd ops e ds h (x,e',ds',h')∧Q x e' ds' h'
 |[],e,ds,h,H=>⟨.normal,e,ds,h,⟨1,fun n hn=>by obtain⟨k,rfl⟩:∃k,n=k+1:=⟨n-1,by omega⟩;simp only[gu]⟩,H⟩
 |o::os,e,ds,h,H=>by
  simp only[wpO]at H
  unfold wpG at H
  split at H
  ·rename_i c hc
   cases c with
   |false=>
    obtain⟨x,e',ds',h',⟨m,h1⟩,h2⟩:=qV (H.1 rfl)
    exact⟨x,e',ds',h',⟨m+1,fun n hn=>by
     obtain⟨k,rfl⟩:∃k,n=k+1:=⟨n-1,by omega⟩
     simp only[gu,hc];exact h1 k (by omega)⟩,h2⟩
   |true=>
    have H:=H.2 rfl
    unfold wpA at H
    split at H
    ·rename_i v h3 ho
     obtain⟨x,e',ds',h',⟨m,h1⟩,h2⟩:=qV H
     exact⟨x,e',ds',h',⟨m+1,fun n hn=>by
      obtain⟨k,rfl⟩:∃k,n=k+1:=⟨n-1,by omega⟩
      simp only[gu,hc,ho];exact h1 k (by omega)⟩,h2⟩
    ·rename_i fn args h3 ho
     obtain⟨r,h4,⟨m1,hf⟩,H⟩:=H
     cases r with
     |ret v=>
      obtain⟨x,e',ds',h',⟨m,h1⟩,h2⟩:=qV H
      exact⟨x,e',ds',h',⟨m+m1+1,fun n hn=>by
       obtain⟨k,rfl⟩:∃k,n=k+1:=⟨n-1,by omega⟩
       simp only[gu,hc,ho,hf k (by omega)];exact h1 k (by omega)⟩,h2⟩
     |panic v=>
      exact⟨_,_,_,_,⟨m1+1,fun n hn=>by
       obtain⟨k,rfl⟩:∃k,n=k+1:=⟨n-1,by omega⟩
       simp only[gu,hc,ho,hf k (by omega)]⟩,H⟩
    ·rename_i f args ho
     obtain⟨hr,H⟩:=H
     subst hr
     obtain⟨x,e',ds',h',⟨m,h1⟩,h2⟩:=qV H
     exact⟨x,e',ds',h',⟨m+1,fun n hn=>by
      obtain⟨k,rfl⟩:∃k,n=k+1:=⟨n-1,by omega⟩
      simp only[gu,hc,ho];exact h1 k (by omega)⟩,h2⟩
    ·rename_i v h3 ho
     exact⟨_,_,_,_,⟨1,fun n hn=>by
      obtain⟨k,rfl⟩:∃k,n=k+1:=⟨n-1,by omega⟩
      simp only[gu,hc,ho]⟩,H⟩
    ·exact H.elim
  ·exact H.elim
theorem zJ{base:Nat}{ops:List bk}{bf:List Nat}{Q:Env→Heap→Prop}:∀{is:List Nat} {rs:List Rec} {e:Env} {h:Heap},wpD T base ops bf Q is rs e h→∃e' h',EvD T base ops is bf rs e h (.normal,e',h')∧Q e' h'
 |[],rs,e,h,H=>⟨e,h,⟨1,fun n hn=>by obtain⟨k,rfl⟩:∃k,n=k+1:=⟨n-1,by omega⟩;simp only[eF]⟩,H⟩
 |i::is,rs,e,h,H=>by
  simp only[wpD]at H
  split at H
  ·rename_i o mask ho hm
   unfold wpG at H
   split at H
   ·rename_i c hc
    have fin:∀{rs':List Rec} {e1:Env} {h1:Heap},wpD T base ops bf Q is rs' e1 h1→(∃m,∀n,m≤n→∀r,eF T n base ops is bf rs' e1 h1=some r→eF T (n+1) base ops (i::is) bf rs e h=some r)→∃e' h',EvD T base ops (i::is) bf rs e h (.normal,e',h')∧Q e' h':=fun hw ⟨m0,hs⟩=>by
     obtain⟨e',h',⟨m,h1⟩,h2⟩:=zJ hw
     exact⟨e',h',⟨m+m0+1,fun n hn=>by
      obtain⟨k,rfl⟩:∃k,n=k+1:=⟨n-1,by omega⟩
      exact hs k (by omega) _ (h1 k (by omega))⟩,h2⟩
    cases c with
    |false=>
     exact fin (H.1 rfl) ⟨0,fun n _ r hr=>by simp only[eF,ho,hm,hc];exact hr⟩
    |true=>
     have H:=H.2 rfl
     unfold NC at H
     split at H
     ·rename_i he
      split at H
      ·rename_i v h3 hop
       split at H
       ·rename_i hnw
        exact fin H.2 ⟨0,fun n _ r hr=>by simp only[eF,ho,hm,hc,he,hop,hnw,H.1,cond_true];exact hr⟩
       ·rename_i hnw
        exact fin H.2 ⟨0,fun n _ r hr=>by
         have hb:Nat.beq h3.next h.next=true:=by rw[beq_eq];simpa using H.1
         simp only[eF,ho,hm,hc,he,hop,hnw,hb,cond_true,cond_false];exact hr⟩
      ·exact H.elim
     ·rename_i he
      split at H
      ·rename_i v h3 hop
       split at H
       ·rename_i rs' hrs
        exact fin H ⟨0,fun n _ r hr=>by simp only[eF,ho,hm,hc,he,hop,hrs,cond_false];exact hr⟩
       ·exact H.elim
      ·rename_i fn args h3 hop
       obtain⟨r,h4,⟨m1,hf⟩,H⟩:=H
       unfold kD at H
       split at H
       ·rename_i v
        split at H
        ·rename_i rs' hrs
         exact fin H ⟨m1,fun n hn r hr=>by simp only[eF,ho,hm,hc,he,hop,hf n hn,hrs,cond_false];exact hr⟩
        ·exact H.elim
       ·exact H.elim
      ·exact H.elim
   ·exact H.elim
  ·exact H.elim
theorem oT{base:Nat}{rnd:Option Nat}:∀{c:aX} {Q:XQ} {e:Env} {ds:Dfs} {h:Heap},wpE T base rnd c Q e ds h→XW T base rnd c e ds h Q
 | .skip,Q,e,ds,h,H=>⟨_,_,_,_,⟨1,fun n hn=>by obtain⟨k,rfl⟩:∃k,n=k+1:=⟨n-1,by omega⟩;simp only[bT]⟩,H⟩
 | .exit i,Q,e,ds,h,H=>⟨_,_,_,_,⟨1,fun n hn=>by obtain⟨k,rfl⟩:∃k,n=k+1:=⟨n-1,by omega⟩;simp only[bT]⟩,H⟩
 | .ret,Q,e,ds,h,H=>⟨_,_,_,_,⟨1,fun n hn=>by obtain⟨k,rfl⟩:∃k,n=k+1:=⟨n-1,by omega⟩;simp only[bT]⟩,H⟩
 | .loop b,Q,e,ds,h,H=>H
 | .rangeFunc f ps a b,Q,e,ds,h,H=>H
 | .rangeMap o i x k ou nx pr o2 k2 b,Q,e,ds,h,H=>H
 | .scope b,Q,e,ds,h,H=>by
   obtain⟨x,e',ds',h',⟨m,h1⟩,h2⟩:=oT (c:=b) H
   exact⟨_,_,_,_,⟨m+1,fun n hn=>by
    obtain⟨k,rfl⟩:∃k,n=k+1:=⟨n-1,by omega⟩
    simp only[bT,h1 k (by omega)]⟩,h2⟩
 | .region ops keep,Q,e,ds,h,H=>by
   obtain⟨x,e',ds',h',⟨m,h1⟩,h2⟩:=qV H
   cases x with
   |normal=>exact⟨_,_,_,_,⟨m+1,fun n hn=>by
    obtain⟨k,rfl⟩:∃k,n=k+1:=⟨n-1,by omega⟩
    simp only[bT,h1 k (by omega)]⟩,h2⟩
   |_=>exact⟨_,_,_,_,⟨m+1,fun n hn=>by
     obtain⟨k,rfl⟩:∃k,n=k+1:=⟨n-1,by omega⟩
     simp only[bT,h1 k (by omega)]⟩,h2⟩
 | .draw ops order bf keep,Q,e,ds,h,H=>by
   obtain⟨e',h',⟨m,h1⟩,h2⟩:=zJ H
   exact⟨_,_,_,_,⟨m+1,fun n hn=>by
    obtain⟨k,rfl⟩:∃k,n=k+1:=⟨n-1,by omega⟩
    simp only[bT,h1 k (by omega)]⟩,h2⟩
 | .seq a b,Q,e,ds,h,H=>by
   obtain⟨x,e',ds',h',⟨m,h1⟩,h2⟩:=oT (c:=a) H
   cases x with
   |normal=>
    obtain⟨x2,e2,ds2,h3,⟨m2,h4⟩,h5⟩:=oT (c:=b) h2
    exact⟨_,_,_,_,⟨m+m2+1,fun n hn=>by
     obtain⟨k,rfl⟩:∃k,n=k+1:=⟨n-1,by omega⟩
     simp only[bT,h1 k (by omega)];exact h4 k (by omega)⟩,h5⟩
   |_=>exact⟨_,_,_,_,⟨m+1,fun n hn=>by
     obtain⟨k,rfl⟩:∃k,n=k+1:=⟨n-1,by omega⟩
     simp only[bT,h1 k (by omega)]⟩,h2⟩
 | .cond c a b,Q,e,ds,h,H=>by
   simp only[wpE]at H
   unfold wpC at H
   split at H
   ·rename_i t ht
    cases t with
    |true=>
     obtain⟨x,e',ds',h',⟨m,h1⟩,h2⟩:=oT (c:=a) (H.1 rfl)
     exact⟨_,_,_,_,⟨m+1,fun n hn=>by
      obtain⟨k,rfl⟩:∃k,n=k+1:=⟨n-1,by omega⟩
      simp only[bT,ht];exact h1 k (by omega)⟩,h2⟩
    |false=>
     obtain⟨x,e',ds',h',⟨m,h1⟩,h2⟩:=oT (c:=b) (H.2 rfl)
     exact⟨_,_,_,_,⟨m+1,fun n hn=>by
      obtain⟨k,rfl⟩:∃k,n=k+1:=⟨n-1,by omega⟩
      simp only[bT,ht];exact h1 k (by omega)⟩,h2⟩
   ·exact H.elim
 | .block id b,Q,e,ds,h,H=>by
   obtain⟨x,e',ds',h',⟨m,h1⟩,h2⟩:=oT (c:=b) H
   cases x with
   |exit i=>
    by_cases hi:i=id
    ·exact⟨_,_,_,_,⟨m+1,fun n hn=>by
      obtain⟨k,rfl⟩:∃k,n=k+1:=⟨n-1,by omega⟩
      have hb:Nat.beq i id=true:=by rw[beq_eq];simpa using hi
      simp only[bT,h1 k (by omega),hb,cond_true]⟩,h2.1 hi⟩
    ·exact⟨_,_,_,_,⟨m+1,fun n hn=>by
      obtain⟨k,rfl⟩:∃k,n=k+1:=⟨n-1,by omega⟩
      have hb:Nat.beq i id=false:=by rw[beq_eq];simpa using hi
      simp only[bT,h1 k (by omega),hb,cond_false]⟩,h2.2 hi⟩
   |_=>exact⟨_,_,_,_,⟨m+1,fun n hn=>by
     obtain⟨k,rfl⟩:∃k,n=k+1:=⟨n-1,by omega⟩
     simp only[bT,h1 k (by omega)]⟩,h2⟩
theorem XW.loop{base:Nat}{rnd:Option Nat}{b:aX}{Q:bw→Env→Dfs→Heap→Prop}(I:Nat→Env→Dfs→Heap→Prop)
 (hr:∀k e ds h,I k e ds h→XW T base rnd b e ds h fun x e' ds' h'=>match x with| .normal=>∃k',k'<k∧I k' e' ds' h'|x=>Q x e' ds' h'):
 ∀{k:Nat} {e:Env} {ds:Dfs} {h:Heap},I k e ds h→XW T base rnd (.loop b) e ds h Q:=by
 intro k
 induction k using Nat.strongRecOn with
 |ind k ih=>
  intro e ds h hI
  obtain⟨x,e',ds',h',⟨m,h1⟩,h2⟩:=hr k e ds h hI
  cases x with
  |normal=>
   obtain⟨k',hk,hI'⟩:=h2
   obtain⟨x2,e2,ds2,h3,⟨m2,h4⟩,h5⟩:=ih k' hk hI'
   exact⟨_,_,_,_,⟨m+m2+1,fun n hn=>by
    obtain⟨k,rfl⟩:∃k,n=k+1:=⟨n-1,by omega⟩
    simp only[bT,h1 k (by omega)];exact h4 k (by omega)⟩,h5⟩
  |_=>exact⟨_,_,_,_,⟨m+1,fun n hn=>by
    obtain⟨k,rfl⟩:∃k,n=k+1:=⟨n-1,by omega⟩
    simp only[bT,h1 k (by omega)]⟩,h2⟩
theorem XW.NJ{base:Nat}{rnd:Option Nat}{a b:aX}{e:Env}{ds:Dfs}{h:Heap}{Q:bw→Env→Dfs→Heap→Prop}
 (H:XW T base rnd a e ds h fun x e' ds' h'=>match x with| .normal=>XW T base rnd b e' ds' h' Q|x=>Q x e' ds' h'):XW T base rnd (.seq a b) e ds h Q:=by
 obtain⟨x,e',ds',h',⟨m,h1⟩,h2⟩:=H
 cases x with
 |normal=>
  obtain⟨x2,e2,ds2,h3,⟨m2,h4⟩,h5⟩:=h2
  exact⟨_,_,_,_,⟨m+m2+1,fun n hn=>by
   obtain⟨k,rfl⟩:∃k,n=k+1:=⟨n-1,by omega⟩
   simp only[bT,h1 k (by omega)];exact h4 k (by omega)⟩,h5⟩
 |_=>exact⟨_,_,_,_,⟨m+1,fun n hn=>by
   obtain⟨k,rfl⟩:∃k,n=k+1:=⟨n-1,by omega⟩
   simp only[bT,h1 k (by omega)]⟩,h2⟩
theorem FW.func{f:Nat}{args:List Value}{h:Heap}{Q:Res→Heap→Prop}(H:CW T f args h Q):FW T (.func f) args h Q:=by
 obtain⟨r,h',⟨m,h1⟩,h2⟩:=H
 exact⟨r,h',⟨m+1,fun n hn=>by
  obtain⟨k,rfl⟩:∃k,n=k+1:=⟨n-1,by omega⟩
  simp only[fU];exact h1 k (by omega)⟩,h2⟩
def vI(rs:List (Nat×Option (Option Nat)))(h:Heap)(Q:Res→Heap→Prop):bw→Env→Dfs→Heap→Prop:=fun x e ds h1=>
 match x with
 | .exit _=>False
 | .panic v=>match ds with
   |[]=>Q (.panic v) h1
   |_=>False
 |_=>match ds with
  |[]=>match cC h1 e rs with
   |some vs=>Q (.ret (fE vs)) (gcA h h1 (fE vs))
   |none=>False
  |_=>False
theorem CW.code{f:Nat}{args:List Value}{h:Heap}{Q:Res→Heap→Prop}{c:aX}{rs:List (Nat×Option (Option Nat))}(hf:T f=some (.code c rs))
 (H:XW T h.next none c (ez 0 args) [] h (vI rs h Q)):CW T f args h Q:=by
 obtain⟨x,e,ds,h1,⟨m,he⟩,H⟩:=H
 unfold vI at H
 cases x with
 |exit _=>exact H.elim
 |panic v=>
  dsimp only at H
  split at H
  ·refine⟨_,_,⟨m+2,fun n hn=> ?_⟩,H⟩
   obtain⟨k,rfl⟩:∃k,n=k+2:=⟨n-2,by omega⟩
   have:=he (k+1) (by omega)
   simp only[iz,this,nH,hf]
  ·exact H.elim
 |normal=>
  dsimp only at H
  split at H
  ·split at H
   ·rename_i vs hvs
    refine⟨_,_,⟨m+2,fun n hn=> ?_⟩,H⟩
    obtain⟨k,rfl⟩:∃k,n=k+2:=⟨n-2,by omega⟩
    have:=he (k+1) (by omega)
    simp only[iz,this,nH,hf,hvs]
   ·exact H.elim
  ·exact H.elim
 |ret=>
  dsimp only at H
  split at H
  ·split at H
   ·rename_i vs hvs
    refine⟨_,_,⟨m+2,fun n hn=> ?_⟩,H⟩
    obtain⟨k,rfl⟩:∃k,n=k+2:=⟨n-2,by omega⟩
    have:=he (k+1) (by omega)
    simp only[iz,this,nH,hf,hvs]
   ·exact H.elim
  ·exact H.elim
end Go.A
end
section
namespace Go.A
variable {T:Nat→Option ak} {base:Nat} {rnd:Option Nat} {Q:XQ} {e:Env} {ds:Dfs} {h:Heap} {c:aX}
structure WE (T:Nat→Option ak) (base:Nat) (rnd:Option Nat) (c:aX) (Q:XQ) (e:Env) (ds:Dfs) (h:Heap):Prop where
 ok:XW T base rnd c e ds h Q
structure WO (T:Nat→Option ak) (base:Nat) (rnd:Option Nat) (Q:XQ) (ops:List bk) (e:Env) (ds:Dfs) (h:Heap):Prop where
 ok:∃x e' ds' h',EvO T base rnd ops e ds h (x,e',ds',h')∧Q x e' ds' h'
structure WD (T:Nat→Option ak) (base:Nat) (ops:List bk) (bf:List Nat) (Q:Env→Heap→Prop) (is:List Nat) (rs:List Rec) (e:Env) (h:Heap):Prop where
 ok:∃e' h',EvD T base ops is bf rs e h (.normal,e',h')∧Q e' h'
structure KR (keep:List Nat) (Q:XQ) (x:bw) (e:Env) (ds:Dfs) (h:Heap):Prop where
 ok:kR keep Q x e ds h
structure KS (K:Env→Dfs→Heap→Prop) (Q:XQ) (x:bw) (e:Env) (ds:Dfs) (h:Heap):Prop where
 ok:kS K Q x e ds h
structure KB (i:Nat) (Q:XQ) (x:bw) (e:Env) (ds:Dfs) (h:Heap):Prop where
 ok:kB i Q x e ds h
structure KO (K:Env→Dfs→Heap→Prop) (Q:XQ) (base:Nat) (dst:Option Nat) (e:Env) (ds:Dfs) (log:List Nat) (r:Res) (h:Heap):Prop where
 ok:kO K Q base dst e ds log r h
structure KD (K:List Rec→Env→Heap→Prop) (base:Nat) (mask:Nat) (rs:List Rec) (dst:Option Nat) (e:Env) (log:List Nat) (r:Res) (h:Heap):Prop where
 ok:kD K base mask rs dst e log r h
theorem WE.of(H:wpE T base rnd c Q e ds h):WE T base rnd c Q e ds h:=⟨oT H⟩
theorem aM(H:Q .normal e ds h):WE T base rnd .skip Q e ds h:= .of H
theorem cU{i:Nat}(H:Q (.exit i) e ds h):WE T base rnd (.exit i) Q e ds h:= .of H
theorem aP(H:Q .ret e ds h):WE T base rnd .ret Q e ds h:= .of H
theorem aq{a b:aX}(H:WE T base rnd a (KS (WE T base rnd b Q) Q) e ds h):WE T base rnd (.seq a b) Q e ds h:=by
 refine⟨XW.NJ (H.ok.mono fun x e ds h hq=> ?_)⟩
 cases x<;>first|exact hq.ok.ok|exact hq.ok
theorem aK{ops:List bk}{keep:List Nat}(H:WO T base rnd (KR keep Q) ops e ds h):WE T base rnd (.region ops keep) Q e ds h:=by
 obtain⟨x,e',ds',h',⟨m,h1⟩,⟨h2⟩⟩:=H.ok
 cases x with
 |normal=>exact⟨_,_,_,_,⟨m+1,fun n hn=>by
  obtain⟨k,rfl⟩:∃k,n=k+1:=⟨n-1,by omega⟩
  simp only[bT,h1 k (by omega)]⟩,h2⟩
 |_=>exact⟨_,_,_,_,⟨m+1,fun n hn=>by
   obtain⟨k,rfl⟩:∃k,n=k+1:=⟨n-1,by omega⟩
   simp only[bT,h1 k (by omega)]⟩,h2⟩
theorem aI{i:Nat}{b:aX}(H:WE T base rnd b (KB i Q) e ds h):WE T base rnd (.block i b) Q e ds h:=by
 obtain⟨x,e',ds',h',⟨m,h1⟩,⟨h2⟩⟩:=H.ok
 cases x with
 |exit j=>
  by_cases hi:j=i
  ·exact⟨_,_,_,_,⟨m+1,fun n hn=>by
    obtain⟨k,rfl⟩:∃k,n=k+1:=⟨n-1,by omega⟩
    have hb:Nat.beq j i=true:=by rw[beq_eq];simpa using hi
    simp only[bT,h1 k (by omega),hb,cond_true]⟩,h2.1 hi⟩
  ·exact⟨_,_,_,_,⟨m+1,fun n hn=>by
    obtain⟨k,rfl⟩:∃k,n=k+1:=⟨n-1,by omega⟩
    have hb:Nat.beq j i=false:=by rw[beq_eq];simpa using hi
    simp only[bT,h1 k (by omega),hb,cond_false]⟩,h2.2 hi⟩
 |_=>exact⟨_,_,_,_,⟨m+1,fun n hn=>by
   obtain⟨k,rfl⟩:∃k,n=k+1:=⟨n-1,by omega⟩
   simp only[bT,h1 k (by omega)]⟩,h2⟩
theorem AO{c:Operand}{a b:aX}{t:Bool}(hc:ev h e c=some (.bool t))(h1:t=true→WE T base rnd a Q e ds h)(h2:t=false→WE T base rnd b Q e ds h):WE T base rnd (.cond c a b) Q e ds h:=by
 cases t with
 |true=>
  obtain⟨x,e',ds',h',⟨m,q1⟩,q2⟩:=(h1 rfl).ok
  exact⟨_,_,_,_,⟨m+1,fun n hn=>by
   obtain⟨k,rfl⟩:∃k,n=k+1:=⟨n-1,by omega⟩
   simp only[bT,hc];exact q1 k (by omega)⟩,q2⟩
 |false=>
  obtain⟨x,e',ds',h',⟨m,q1⟩,q2⟩:=(h2 rfl).ok
  exact⟨_,_,_,_,⟨m+1,fun n hn=>by
   obtain⟨k,rfl⟩:∃k,n=k+1:=⟨n-1,by omega⟩
   simp only[bT,hc];exact q1 k (by omega)⟩,q2⟩
theorem IN{c:Operand}{a b:aX}(hc:ev h e c=some (.bool true))(h1:WE T base rnd a Q e ds h):WE T base rnd (.cond c a b) Q e ds h:=AO hc (fun _=>h1) (fun h=>by cases h)
theorem EB{c:Operand}{a b:aX}(hc:ev h e c=some (.bool false))(h1:WE T base rnd b Q e ds h):WE T base rnd (.cond c a b) Q e ds h:=AO hc (fun h=>by cases h) (fun _=>h1)
theorem cK{ops:List bk}{is bf keep:List Nat}(H:WD T base ops bf (fun e' h'=>KR keep Q .normal e' ds h') is [] e h):WE T base rnd (.draw ops is bf keep) Q e ds h:=by
 obtain⟨e',h',⟨m,h1⟩,⟨h2⟩⟩:=H.ok
 exact⟨_,_,_,_,⟨m+1,fun n hn=>by
  obtain⟨k,rfl⟩:∃k,n=k+1:=⟨n-1,by omega⟩
  simp only[bT,h1 k (by omega)]⟩,h2⟩
theorem dh{b:aX}(I:Nat→Env→Dfs→Heap→Prop){k:Nat}(hI:I k e ds h)
 (hr:∀k e ds h,I k e ds h→WE T base rnd b (KS (fun e' ds' h'=>∃k',k'<k∧I k' e' ds' h') Q) e ds h):WE T base rnd (.loop b) Q e ds h:=
 ⟨XW.loop I (fun k e ds h hI=>((hr k e ds h hI).ok.mono fun x e ds h hq=>by cases x<;>exact hq.ok)) hI⟩
theorem WE.mono{c:aX}{Q':XQ}(H:WE T base rnd c Q' e ds h)(hq:∀x e ds h,Q' x e ds h→Q x e ds h):WE T base rnd c Q e ds h:=⟨H.ok.mono hq⟩
theorem LU{keep:List Nat}{e2:Env}(he:bQ e keep=e2)(H:Q .normal e2 ds h):KR keep Q .normal e ds h:=by subst he;exact⟨H⟩
theorem br{K:Env→Dfs→Heap→Prop}(H:K e ds h):KS K Q .normal e ds h:=⟨H⟩
theorem eO{K:Env→Dfs→Heap→Prop}(H:Q .ret e ds h):KS K Q .ret e ds h:=⟨H⟩
theorem dU{K:Env→Dfs→Heap→Prop}{i:Nat}(H:Q (.exit i) e ds h):KS K Q (.exit i) e ds h:=⟨H⟩
theorem fI{i:Nat}(H:Q .normal e ds h):KB i Q .normal e ds h:=⟨H⟩
theorem kH{i:Nat}(H:Q .ret e ds h):KB i Q .ret e ds h:=⟨H⟩
theorem iw{i:Nat}(H:Q .normal e ds h):KB i Q (.exit i) e ds h:=⟨⟨fun _=>H,fun h=>(h rfl).elim⟩⟩
theorem O3{i j:Nat}(hn:Nat.beq j i=false)(H:Q (.exit j) e ds h):KB i Q (.exit j) e ds h:=by
 rw[beq_eq]at hn
 simp only[decide_eq_false_iff_not]at hn
 exact⟨⟨fun h=>(hn h).elim,fun _=>H⟩⟩
theorem eD(H:Q .normal e ds h):WO T base rnd Q [] e ds h:=⟨qV (T:=T) (base:=base) (rnd:=rnd) (ops:=[]) H⟩
theorem aa{dst:Option Nat}{op:AOp}{os:List bk}{v:Value}{h':Heap}(ho:aop h base e op=some (.val v h'))(H:WO T base rnd Q os (bZ e dst v) ds h'):WO T base rnd Q (⟨dst,op,none⟩::os) e ds h:=by
 obtain⟨x,e',ds',h',⟨m,h1⟩,h2⟩:=H.ok
 exact⟨x,e',ds',h',⟨m+1,fun n hn=>by
  obtain⟨k,rfl⟩:∃k,n=k+1:=⟨n-1,by omega⟩
  simp only[gu,bW,ho];exact h1 k (by omega)⟩,h2⟩
theorem og{dst:Option Nat}{op:AOp}{os:List bk}{fn:Fn}{args:List Value}{h':Heap}(ho:aop h base e op=some (.call fn args h'))(H:FW T fn args {h' with log:=[]} (KO (WO T base rnd Q os) Q base dst e ds h'.log)):WO T base rnd Q (⟨dst,op,none⟩::os) e ds h:=by
 obtain⟨r,h4,⟨m1,hf⟩,⟨H⟩⟩:=H
 cases r with
 |ret v=>
  obtain⟨x,e',ds',h',⟨m,h1⟩,h2⟩:=WO.ok H
  exact⟨x,e',ds',h',⟨m+m1+1,fun n hn=>by
   obtain⟨k,rfl⟩:∃k,n=k+1:=⟨n-1,by omega⟩
   simp only[gu,bW,ho,hf k (by omega)];exact h1 k (by omega)⟩,h2⟩
 |panic v=>
  exact⟨_,_,_,_,⟨m1+1,fun n hn=>by
   obtain⟨k,rfl⟩:∃k,n=k+1:=⟨n-1,by omega⟩
   simp only[gu,bW,ho,hf k (by omega)]⟩,H⟩
theorem MH{dst:Option Nat}{op:AOp}{os:List bk}{t:Nat}{b:Bool}(hg:geT e t=some (.bool b))(H:WO T base rnd Q (⟨dst,op,none⟩::os) e ds h):WO T base rnd Q (⟨dst,op,some (t,b)⟩::os) e ds h:=by
 obtain⟨x,e',ds',h',⟨m,h1⟩,h2⟩:=H.ok
 exact⟨x,e',ds',h',⟨m+1,fun n hn=>by
  obtain⟨k,rfl⟩:∃k,n=k+1:=⟨n-1,by omega⟩
  have:=h1 (k+1) (by omega)
  have hb:(b==b)=true:=by simp
  simp only[gu,bW]at this
  simp only[gu,bW,hg,hb];exact this⟩,h2⟩
theorem Lf{dst:Option Nat}{op:AOp}{os:List bk}{t:Nat}{b x:Bool}(hg:geT e t=some (.bool x))(hx:x= !b)(H:WO T base rnd Q os (bZ e dst (.tuple #[])) ds h):WO T base rnd Q (⟨dst,op,some (t,b)⟩::os) e ds h:=by
 obtain⟨x',e',ds',h',⟨m,h1⟩,h2⟩:=H.ok
 exact⟨x',e',ds',h',⟨m+1,fun n hn=>by
  obtain⟨k,rfl⟩:∃k,n=k+1:=⟨n-1,by omega⟩
  have hb:(x==b)=false:=by subst hx;cases b<;>rfl
  simp only[gu,bW,hg,hb];exact h1 k (by omega)⟩,h2⟩
theorem dF{ops:List bk}{bf:List Nat}{rs:List Rec}{Q:Env→Heap→Prop}(H:Q e h):WD T base ops bf Q [] rs e h:=⟨zJ (T:=T) (base:=base) (ops:=ops) (bf:=bf) (is:=[]) (rs:=rs) H⟩
theorem qe{ops:List bk}{bf:List Nat}{rs rs':List Rec}{Q:Env→Heap→Prop}{i:Nat}{is:List Nat}{e1:Env}{h1:Heap}(hs:∃m,∀n,m≤n→∀r,eF T n base ops is bf rs' e1 h1=some r→eF T (n+1) base ops (i::is) bf rs e h=some r)
 (H:WD T base ops bf Q is rs' e1 h1):WD T base ops bf Q (i::is) rs e h:=by
 obtain⟨e',h',⟨m,q1⟩,q2⟩:=H.ok
 obtain⟨m0,hs⟩:=hs
 exact⟨e',h',⟨m+m0+1,fun n hn=>by
  obtain⟨k,rfl⟩:∃k,n=k+1:=⟨n-1,by omega⟩
  exact hs k (by omega) _ (q1 k (by omega))⟩,q2⟩
theorem ei{ops:List bk}{bf:List Nat}{rs:List Rec}{Q:Env→Heap→Prop}{i mask:Nat}{is:List Nat}{dst:Option Nat}{op:AOp}{g:Option (Nat×Bool)}{er:Env}(ho:cE ops i=some ⟨dst,op,g⟩)(hm:cE bf i=some mask)(he:bQ e (cF ⟨dst,op,g⟩)=er)(hw:bW er g=some false)
 (H:WD T base ops bf Q is (⟨i,⟨dst,op,g⟩,er, .tuple #[], .skip⟩::rs) (bZ e dst (.tuple #[])) h):WD T base ops bf Q (i::is) rs e h:=by
 subst he
 exact qe ⟨0,fun n _ r hr=>by simp only[eF,ho,hm,hw];exact hr⟩ H
theorem an{ops:List bk}{bf:List Nat}{rs:List Rec}{Q:Env→Heap→Prop}{i mask:Nat}{is:List Nat}{dst:Option Nat}{op:AOp}{g:Option (Nat×Bool)}{er:Env}{v:Value}(ho:cE ops i=some ⟨dst,op,g⟩)(hm:cE bf i=some mask)(he:bQ e (cF ⟨dst,op,g⟩)=er)(hw:bW er g=some true)
 (hq:iT op=true)(hn:cT op=false)(hop:aop h base er op=some (.val v h))(H:WD T base ops bf Q is (⟨i,⟨dst,op,g⟩,er,v, .quiet⟩::rs) (bZ e dst v) h):WD T base ops bf Q (i::is) rs e h:=by
 subst he
 have hb:Nat.beq h.next h.next=true:=by rw[beq_eq];simp
 exact qe ⟨0,fun n _ r hr=>by simp only[eF,ho,hm,hw,hq,hop,hn,hb,cond_true,cond_false];exact hr⟩ H
theorem vT{ops:List bk}{bf:List Nat}{rs:List Rec}{Q:Env→Heap→Prop}{i mask:Nat}{is:List Nat}{dst:Option Nat}{op:AOp}{g:Option (Nat×Bool)}{er:Env}{v:Value}{h':Heap}(ho:cE ops i=some ⟨dst,op,g⟩)(hm:cE bf i=some mask)(he:bQ e (cF ⟨dst,op,g⟩)=er)(hw:bW er g=some true)
 (hq:iT op=true)(hn:cT op=true)(hop:aop h base er op=some (.val v h'))(hrs:lN h' base rs=true)(H:WD T base ops bf Q is (⟨i,⟨dst,op,g⟩,er,v, .made h.next⟩::rs) (bZ e dst v) h'):WD T base ops bf Q (i::is) rs e h:=by
 subst he
 exact qe ⟨0,fun n _ r hr=>by simp only[eF,ho,hm,hw,hq,hop,hn,hrs,cond_true];exact hr⟩ H
theorem JP{ops:List bk}{bf:List Nat}{rs rs':List Rec}{Q:Env→Heap→Prop}{i mask:Nat}{is:List Nat}{dst:Option Nat}{op:AOp}{g:Option (Nat×Bool)}{er:Env}{v:Value}{h2:Heap}(ho:cE ops i=some ⟨dst,op,g⟩)(hm:cE bf i=some mask)(he:bQ e (cF ⟨dst,op,g⟩)=er)(hw:bW er g=some true)
 (hq:iT op=false)(hop:aop {h with log:=[]} h.next er op=some (.val v h2))(hrs:bI {h2 with log:=aB base h.log h2.log} base h2.log mask rs=some rs')
 (H:WD T base ops bf Q is rs' (bZ e dst v) {h2 with log:=aB base h.log h2.log}):WD T base ops bf Q (i::is) rs e h:=by
 subst he
 exact qe ⟨0,fun n _ r hr=>by simp only[eF,ho,hm,hw,hq,hop,hrs,cond_false];exact hr⟩ H
theorem IZ{ops:List bk}{bf:List Nat}{rs:List Rec}{Q:Env→Heap→Prop}{i mask:Nat}{is:List Nat}{dst:Option Nat}{op:AOp}{g:Option (Nat×Bool)}{er:Env}{fn:Fn}{args:List Value}{h3:Heap}(ho:cE ops i=some ⟨dst,op,g⟩)(hm:cE bf i=some mask)(he:bQ e (cF ⟨dst,op,g⟩)=er)(hw:bW er g=some true)
 (hq:iT op=false)(hop:aop {h with log:=[]} h.next er op=some (.call fn args h3))(H:FW T fn args {h with log:=[]} (KD (WD T base ops bf Q is) base mask rs dst e h.log)):WD T base ops bf Q (i::is) rs e h:=by
 subst he
 obtain⟨r,h4,⟨m1,hf⟩,⟨H⟩⟩:=H
 unfold kD at H
 split at H
 ·split at H
  ·rename_i rs' hrs
   exact qe ⟨m1,fun n hn r hr=>by simp only[eF,ho,hm,hw,hq,hop,hf n hn,hrs,cond_false];exact hr⟩ H
  ·exact H.elim
 ·exact H.elim
end Go.A
end
section
namespace Go.A
variable {T:Nat→Option ak}
theorem iQ{base N:Nat}{rnd:Option Nat}{c:aX}{e:Env}{ds:Dfs}{h:Heap}{r:bw×Env×Dfs×Heap}(H:∀n,(nJ T (n+N)).exec base rnd c e ds h=some r):Ev T base rnd c e ds h r:=
 ⟨N,fun n hn=>by
  have:=H (n-N)
  rw[Ba,F6,show n-N+N=n by omega]at this
  exact this⟩
theorem jd{base:Nat}{rnd:Option Nat}{c:aX}{e e1:Env}{ds ds1:Dfs}{h h1:Heap}{r:bw×Env×Dfs×Heap}(hc:c= .seq (cL c) (cR c))(H1:Ev T base rnd (cL c) e ds h (.normal,e1,ds1,h1))(H2:Ev T base rnd (cR c) e1 ds1 h1 r):Ev T base rnd c e ds h r:=by
 obtain⟨m1,q1⟩:=H1
 obtain⟨m2,q2⟩:=H2
 refine⟨m1+m2+1,fun n hn=> ?_⟩
 obtain⟨k,rfl⟩:∃k,n=k+1:=⟨n-1,by omega⟩
 rw[hc]
 simp only[bT,q1 k (by omega)]
 exact q2 k (by omega)
theorem CW.OE{f:Nat}{args:List Value}{h:Heap}{Q:Res→Heap→Prop}{c:aX}{rs:List (Nat×Option (Option Nat))}{x:bw}{e:Env}{ds:Dfs}{h1:Heap}(hf:T f=some (.code c rs))(H:Ev T h.next none c (ez 0 args) [] h (x,e,ds,h1))(hq:vI rs h Q x e ds h1):CW T f args h Q:=
 CW.code hf ⟨x,e,ds,h1,H,hq⟩
theorem R.none{P:Program}{w:World}{n:Nat}(hn:P.globals.size≤n):R P (fun _=>none) ⟨[],n,[]⟩ w:=
 {big:=hn
  jS:=fun g o _ h=>by cases h
  obj:=fun b o h=>by cases h
  lt:=fun b o h=>by cases h
  dom:=fun b k h=>by cases h
  jF:=fun b b' o o' k k' _ h=>by cases h}
end Go.A
end
section
namespace Go.A
variable {T:Nat→Option ak} {base:Nat} {rnd:Option Nat} {Q:XQ} {e:Env} {ds:Dfs} {h:Heap}
theorem Heap.mE(h:Heap)(o:bJ):(h.push o).get h.next=some o:=by rw[Heap.cQ,if_pos rfl]
theorem Heap.iY{h:Heap}{o:bJ}{x:Nat}(hx:x<h.next):(h.push o).get x=h.get x:=by rw[Heap.cQ,if_neg (by omega)]
theorem Heap.bC{h:Heap}{base b:Nat}{o o':bJ}(hb:h.get b=some o'):(h.wr base b o).get b=some o:=by rw[Heap.ki,if_pos rfl,hb];rfl
theorem Heap.xX(h:Heap)(base b:Nat)(o:bJ):(h.wr base b o).get b=(h.get b).map fun _=>o:=by rw[Heap.ki,if_pos rfl]
theorem Heap.fP{h:Heap}{base b:Nat}{o:bJ}{x:Nat}(hx:x≠b):(h.wr base b o).get x=h.get x:=by rw[Heap.ki,if_neg hx]
theorem Heap.pZ(h:Heap)(o:bJ):(h.push o).log=h.log:=rfl
theorem Heap.aG{h:Heap}{base b:Nat}{o:bJ}(hb:base≤b):(h.wr base b o).log=h.log:=by
 simp only[Heap.wr,blt_eq]
 rw[decide_eq_false (by omega)];rfl
theorem pJ{x:Operand}{v:Value}(hx:ev h e x=some v):aop h base e (.mov x)=some (.val v h):=by simp only[aop,hx,cg]
theorem pF{c a b:Operand}{v:Value}(hc:ev h e c=some (.bool true))(hx:ev h e a=some v):aop h base e (.pick c a b)=some (.val v h):=by simp only[aop,hc,hx,cg]
theorem kM{c a b:Operand}{v:Value}(hc:ev h e c=some (.bool false))(hx:ev h e b=some v):aop h base e (.pick c a b)=some (.val v h):=by simp only[aop,hc,hx,cg]
theorem di{z:List Value}:aop h base e (.new z)=some (.val (.pointer (some ⟨h.next,0,none⟩)) (h.push (.cells z true 1))):=rfl
theorem Nb{x:Operand}{v:Value}{vs:List Value}(hx:ev h e x=some v)(hc:cellsOf v=vs):aop h base e (.box x)=some (.val (.pointer (some ⟨h.next,0,none⟩)) (h.push (.cells vs true 1))):=by simp only[aop,hx,cg,hc]
theorem dN{z cs:List Value}{ps:List (Nat×Nat×Operand)}(hf:jA h e z ps=some cs):aop h base e (.build z ps)=some (.val (.agg cs.toArray) h):=by simp only[aop,hf]
theorem nv{z cs:List Value}{n m:Nat}{ps:List (Nat×Nat×Operand)}(hf:jA h e (eN n z) ps=some cs)(hm:bR z=m):aop h base e (.cW z n ps)=some (.val (.slice (some ⟨h.next,0,none⟩) n n) (h.push (.cells cs true m))):=by simp only[aop,hf,hm]
theorem dz{x:Operand}{b o sz:Nat}{vs:List Value}{own:Bool}{v:Value}(hx:ev h e x=some (.pointer (some ⟨b,o,none⟩)))(hb:h.get b=some (.cells vs own sz))(hv:cE vs o=some v):aop h base e (.load none x)=some (.val v h):=by
 simp only[aop,hx,cg,mQ,hb,hv]
theorem au{x:Operand}{n b o sz:Nat}{vs l:List Value}{own:Bool}(hx:ev h e x=some (.pointer (some ⟨b,o,none⟩)))(hb:h.get b=some (.cells vs own sz))(hv:cG n (bX o vs)=l)(hl:Nat.beq (bR l) n=true):
 aop h base e (.load (some n) x)=some (.val (.agg l.toArray) h):=by
 simp only[aop,hx,cg,mQ,hb,hv,hl,cond_true]
theorem iA{x y:Operand}{n b o sz:Nat}{vs ws:List Value}{v:Value}(hx:ev h e x=some (.pointer (some ⟨b,o,none⟩)))(hy:ev h e y=some v)(hb:h.get b=some (.cells vs true sz))
 (hc:(Nat.beq (bR (cellsOf v)) n&&Nat.ble (o+n) (bR vs)&&eM (cellsOf v))=true)(hw:cD vs o (cellsOf v)=ws):aop h base e (.store n x y)=some (.val (.tuple #[]) (h.wr base b (.cells ws true sz))):=by
 simp only[aop,hx,hy,cg,oK,hb,hc,hw,cond_true]
theorem aF{op:BinOp}{x y:Operand}{a b v:Value}(hx:ev h e x=some a)(hy:ev h e y=some b)(hv:aC op a b=some v):aop h base e (.bin (.num op) x y)=some (.val v h):=by simp only[aop,hx,hy,cg,hv]
theorem Mh{neq:Bool}{x y:Operand}{a b:Bool}(hx:ev h e x=some (.bool a))(hy:ev h e y=some (.bool b)):aop h base e (.bin (.beq neq) x y)=some (.val (.bool (bif neq then !(a==b)else a==b)) h):=by simp only[aop,hx,hy]
theorem DQ{k:NK}{neq b:Bool}{x y:Operand}{v u:Value}(hx:ev h e x=some v)(hy:ev h e y=some u)(hn:nr k v u=some b):aop h base e (.bin (.nil k neq) x y)=some (.val (.bool (bif neq then !b else b)) h):=by simp only[aop,hx,hy,cg,hn]
theorem M6{neq b:Bool}{ls:List dO}{x y:Operand}{xs ys:Array Value}(hx:ev h e x=some (.agg xs))(hy:ev h e y=some (.agg ys))(hn:bG ls xs.toList ys.toList=some b):aop h base e (.bin (.agg neq ls) x y)=some (.val (.bool (bif neq then !b else b)) h):=by
 simp only[aop,hx,hy,cg,hn]
theorem tc{x:Operand}{b:Bool}(hx:ev h e x=some (.bool b)):aop h base e (.un .not x)=some (.val (.bool !b) h):=by simp only[aop,hx,cg,tP]
theorem dg{off b o:Nat}{x:Operand}(hx:ev h e x=some (.pointer (some ⟨b,o,none⟩))):aop h base e (.cS off x)=some (.val (.pointer (some ⟨b,o+off,none⟩)) h):=by simp only[aop,hx]
theorem cM{size b o len cap i:Nat}{k:IntKind}{x y:Operand}(hx:ev h e x=some (.slice (some ⟨b,o,none⟩) len cap))(hy:ev h e y=some (.int k (i:Nat)))(hi:i<len):aop h base e (.aT size x y)=some (.val (.pointer (some ⟨b,o+i*size,none⟩)) h):=by
 have:(.int k (i:Nat):Value)= .int k (Int.ofNat i):=rfl
 rw[this]at hy
 simp only[aop,hx,hy,blt_eq,decide_eq_true hi,cond_true]
theorem CX{x:Operand}{i:Nat}{vs:Array Value}{v:Value}(hx:ev h e x=some (.tuple vs))(hv:cE vs.toList i=some v):aop h base e (.extract x i)=some (.val v h):=by simp only[aop,hx,cg,hv]
theorem JU{x:Operand}{a:Option Addr}{n c:Nat}(hx:ev h e x=some (.slice a n c)):aop h base e (.len 1 x)=some (.val (.int .i64 n) h):=by simp only[aop,hx]
theorem gQ{fn:Fn}{fs cs:List Operand}{as bs:List Value}(h1:evs h e fs=some as)(h2:evs h e cs=some bs):aop h base e (.ek fn fs cs)=some (.val (.func fn as.toArray bs.toArray) h):=by simp only[aop,h1,h2]
theorem gH{x:Operand}{b o:Nat}(hx:ev h e x=some (.pointer (some ⟨b,o,none⟩))):aop h base e (.bU x)=some (.val (.pointer (some ⟨b,o,none⟩)) h):=by simp only[aop,hx,cg]
theorem vL{f:Operand}{args:List Operand}{fv:Value}{as:List Value}{g:Nat}{first cap:Array Value}{all:List Value}(hf:ev h e f=some fv)(ha:evs h e args=some as)(hv:fv= .func (.func g) first cap)(hl:dJ first.toList (dJ as cap.toList)=all):
 aop h base e (.call f args)=some (.call (.func g) all h):=by subst hv;simp only[aop,hf,ha,nC,hl]
theorem bL{n:Int}(h1: -9223372036854775808≤n)(h2:n<9223372036854775808):fJ .i64 n=n:=by
 rw[pH,IntKind.wrap_i64];omega
theorem Jq{k:IntKind}{a b:Int}:aC .lss (.int k a) (.int k b)=some (.bool (decide (a<b))):=by simp[aC,arith,kU]
theorem JD{k:IntKind}{a b:Int}:aC .leq (.int k a) (.int k b)=some (.bool (decide (a≤b))):=by simp[aC,arith,kU]
theorem Jo{k:IntKind}{a b:Int}:aC .gtr (.int k a) (.int k b)=some (.bool (decide (b<a))):=by simp[aC,arith,kU]
theorem ES{k:IntKind}{a b:Int}:aC .geq (.int k a) (.int k b)=some (.bool (decide (b≤a))):=by simp[aC,arith,kU]
theorem Jz{k:IntKind}{a b:Int}:aC .eql (.int k a) (.int k b)=some (.bool (a==b)):=by simp[aC,arith,kU]
theorem BC{k:IntKind}{a b:Int}:aC .neq (.int k a) (.int k b)=some (.bool (a !=b)):=by simp[aC,arith,kU]
theorem lM{k:IntKind}{a b c:Int}(hc:fJ k (a+b)=c):aC .add (.int k a) (.int k b)=some (.int k c):=by simp[aC,arith,hc]
theorem jB{k:IntKind}{a b c:Int}(hc:fJ k (a-b)=c):aC .sub (.int k a) (.int k b)=some (.int k c):=by simp[aC,arith,hc]
theorem M7{n:Nat}(hn:n<9223372036854775807):aC .add (.int .i64 n) (.int .i64 1)=some (.int .i64 (n+1:Nat)):=lM (by rw[bL]<;>omega)
theorem JK{l m:List (Nat×bJ)}(hk:l.map (·.1)=m.map (·.1))(hn:(m.map (·.1)).Nodup)(hg:∀b,b∈m.map (·.1)→eZ l b=eZ m b):l=m:=by
 induction m generalizing l with
 |nil=>simpa using hk
 |cons p m ih=>
  obtain⟨k,o⟩:=p
  cases l with
  |nil=>simp at hk
  |cons q l=>
   obtain⟨k',o'⟩:=q
   simp only[List.map_cons,List.cons.injEq]at hk
   obtain⟨h1,h2⟩:=hk
   subst h1
   simp only[List.map_cons,List.nodup_cons]at hn
   have h3:=hg k' (by simp)
   simp only[eZ,cond_eq_ite,beq_eq,decide_true,if_true]at h3
   cases h3
   congr 1
   refine ih h2 hn.2 fun b hb=> ?_
   have h4:=hg b (by simp[hb])
   have hne:k'≠b:=fun e=>hn.1 (e▸hb)
   simpa only[eZ,cond_eq_ite,beq_eq,decide_eq_true_eq,if_neg hne]using h4
structure WF (h:Heap):Prop where
 nodup:(h.bM.map (·.1)).Nodup
 lt:∀b,b∈h.bM.map (·.1)→b<h.next
theorem oR{a n b:Nat}:b∈cH a n↔a≤b∧b<a+n:=by
 induction n with
 |zero=>simp[cH]
 |succ n ih=>simp[cH,ih];omega
theorem vZ(a n:Nat):(cH a n).Nodup:=by
 induction n with
 |zero=>simp[cH]
 |succ n ih=>simp only[cH,List.nodup_cons,oR];exact⟨by omega,ih⟩
theorem WF.as{base:Nat}{h h':Heap}(hw:WF h)(hA:AS base h h'):WF h' where
 nodup:=by
  rw[hA.keys,List.nodup_append]
  refine⟨vZ _ _,hw.nodup,fun a ha b hb=> ?_⟩
  rw[oR]at ha
  have:=hw.lt b hb
  omega
 lt:=fun b hb=>by
  rw[hA.keys,List.mem_append]at hb
  have:=hA.next
  rcases hb with hb|hb
  ·rw[oR]at hb;omega
  ·have:=hw.lt b hb;omega
theorem WF.log{h:Heap}(hw:WF h)(l:List Nat):WF {h with log:=l}:=⟨hw.nodup,hw.lt⟩
theorem WF.push{h:Heap}(hw:WF h)(o:bJ):WF (h.push o):=hw.as (AS.push 0 h o)
structure Ext (h h':Heap):Prop where
 next:h.next≤h'.next
 log:h'.log=h.log
 old:∀b,b<h.next→h'.get b=h.get b
 wf:WF h→WF h'
theorem Ext.refl(h:Heap):Ext h h:=⟨Nat.le_refl _,rfl,fun _ _=>rfl,id⟩
theorem Ext.trans{a b c:Heap}(h:Ext a b)(g:Ext b c):Ext a c:=⟨Nat.le_trans h.next g.next,g.log.trans h.log,fun x hx=>(g.old x (Nat.lt_of_lt_of_le hx h.next)).trans (h.old x hx),fun w=>g.wf (h.wf w)⟩
theorem Ext.push{a b:Heap}(h:Ext a b)(o:bJ):Ext a (b.push o):=⟨Nat.le_succ_of_le h.next,h.log,fun x hx=>(Heap.iY (Nat.lt_of_lt_of_le hx h.next)).trans (h.old x hx),fun w=>(h.wf w).push o⟩
theorem Cc{l:List (Nat×bJ)}{b:Nat}(hb:b ∉ l.map (·.1)):eZ l b=none:=by
 induction l with
 |nil=>rfl
 |cons p l ih=>
  obtain⟨k,o⟩:=p
  simp only[List.map_cons,List.mem_cons,not_or]at hb
  simp only[eZ,cond_eq_ite,beq_eq,decide_eq_true_eq]
  rw[if_neg (Ne.symm hb.1)];exact ih hb.2
theorem AI{h h1:Heap}{v:Value}(hw:WF h)(hA:AS h.next h h1)(hl:h1.log=h.log)(h0:h.log=[])(hv:cw v=true):gcA h h1 v=h:=by
 have hA':=hA.keys
 have e:bX (h1.next-h.next) h1.bM=h.bM:=by
  rw[cA]
  have hlen:(cH h.next (h1.next-h.next)).length=h1.next-h.next:=by
   generalize h1.next-h.next=n
   induction n with
   |zero=>rfl
   |succ n ih=>simp[cH,ih]
  have hk:(h1.bM.drop (h1.next-h.next)).map (·.1)=h.bM.map (·.1):=by
   rw[List.map_drop,hA',List.drop_append_of_le_length (by omega),List.drop_of_length_le (by omega),List.nil_append]
  refine JK hk hw.nodup fun b hb=> ?_
  have hbl:=hw.lt b hb
  have hs:=hA.same b hbl hbl (by rw[hl,h0];rfl)
  have hsplit:h1.bM=h1.bM.take (h1.next-h.next)++h1.bM.drop (h1.next-h.next):=(List.take_append_drop _ _).symm
  have hkt:(h1.bM.take (h1.next-h.next)).map (·.1)=cH h.next (h1.next-h.next):=by
   rw[List.map_take,hA',List.take_append_of_le_length (by omega),List.take_of_length_le (by omega)]
  have:=j4 _ h.next _ (h1.bM.drop (h1.next-h.next)) hkt b hbl
  rw[←hsplit]at this
  exact this.symm.trans hs
 simp only[gcA,hv,hl,h0,fQ,Bool.and_true,cond_true,mX,e]
 cases h;simp at h0⊢;exact h0
end Go.A
end
section
namespace Go.A
variable {T:Nat→Option ak} {base:Nat} {rnd:Option Nat} {Q:XQ} {e:Env} {ds:Dfs} {h:Heap}
structure Rdy (h:Heap):Prop where
 wf:WF h
 log:h.log=[]
def Pu(T:Nat→Option ak)(f:Nat)(args:List Value)(h:Heap)(v:Value):Prop:=CW T f args h fun r h'=>r= .ret v∧h'=h
structure Mg (rs:List (Nat×Option (Option Nat))) (v0:Value) (x:bw) (e:Env) (ds:Dfs) (h1:Heap):Prop where
 ok:(x= .normal∨x= .ret)∧ds=[]∧h1.log=[]∧∃vs,cC h1 e rs=some vs∧fE vs=v0
theorem aH{rs:List (Nat×Option (Option Nat))}{v0:Value}{vs:List Value}(hl:h.log=[])(hr:cC h e rs=some vs)(hv:fE vs=v0):Mg rs v0 .ret e [] h:=⟨⟨.inr rfl,rfl,hl,vs,hr,hv⟩⟩
theorem Pu.of(hp:bA T){f:Nat}{args:List Value}{c:aX}{rs:List (Nat×Option (Option Nat))}{v0:Value}(hf:T f=some (.code c rs))(hr:Rdy h)(hv:cw v0=true)(H:WE T h.next none c (Mg rs v0) (ez 0 args) [] h):Pu T f args h v0:=by
 obtain⟨x,e,ds,h1,⟨m,hm⟩,⟨hx,rfl,hl,vs,hvs,rfl⟩⟩:=H.ok
 have hA:=(fq.all hp m).exec _ _ _ _ _ _ _ _ _ _ (hm m (Nat.le_refl _)) (Nat.le_refl _)
 refine CW.code hf ⟨x,e,[],h1,⟨m,hm⟩,?_⟩
 unfold vI
 have hg:=AI hr.wf hA (hl.trans hr.log.symm) hr.log hv
 rcases hx with rfl|rfl
 ·simp only[hvs,hg];exact⟨trivial,trivial⟩
 ·simp only[hvs,hg];exact⟨trivial,trivial⟩
theorem FW.pu{f:Nat}{args:List Value}{v:Value}{K:Env→Dfs→Heap→Prop}{dst:Option Nat}(H:Pu T f args {h with log:=[]} v)(hK:K (bZ e dst v) ds h):FW T (.func f) args {h with log:=[]} (KO K Q base dst e ds h.log):=by
 refine .func (CW.mono H ?_)
 rintro r h' ⟨rfl,rfl⟩
 exact⟨hK⟩
theorem Rdy.of{h:Heap}(hw:WF h):Rdy {h with log:=[]}:=⟨hw.log [],rfl⟩
theorem FW.puD{f:Nat}{args:List Value}{v:Value}{K:List Rec→Env→Heap→Prop}{mask:Nat}{rs rs':List Rec}{dst:Option Nat}(H:Pu T f args {h with log:=[]} v)(hrs:bI h base [] mask rs=some rs')(hK:K rs' (bZ e dst v) h):
 FW T (.func f) args {h with log:=[]} (KD K base mask rs dst e h.log):=by
 refine .func (CW.mono H ?_)
 rintro r h' ⟨rfl,rfl⟩
 refine⟨?_⟩
 show(match bI {h with log:=aB base h.log []} base [] mask rs with
  |some rs'=>K rs' (bZ e dst v) {h with log:=aB base h.log []}
  |none=>False)
 have:({h with log:=aB base h.log []}:Heap)=h:=rfl
 rw[this,hrs]
 exact hK
structure pG (h:Heap) (b o n sz:Nat) (cs:List Value):Prop where
 lt:b<h.next
 obj:∃vs own s,h.get b=some (.cells vs own s)∧cG (n*sz) (bX o vs)=cs
 len:cs.length=n*sz
inductive eS (h:Heap) (sz:Nat):Value→Nat→List Value→Prop
 |nil {c}:eS h sz (.slice none 0 c) 0 []
 |mem {b o n cap cs}:pG h b o n sz cs→n≤cap→eS h sz (.slice (some ⟨b,o,none⟩) n cap) n cs
theorem pG.ext{h h':Heap}{b o n sz:Nat}{cs:List Value}(s:pG h b o n sz cs)(x:Ext h h'):pG h' b o n sz cs:=by
 obtain⟨vs,own,t,h1,h2⟩:=s.obj
 exact⟨Nat.lt_of_lt_of_le s.lt x.next,⟨vs,own,t,(x.old _ s.lt).trans h1,h2⟩,s.len⟩
theorem eS.ext{h h':Heap}{sz n:Nat}{v:Value}{cs:List Value}(s:eS h sz v n cs)(x:Ext h h'):eS h' sz v n cs:=by
 cases s with
 |nil=>exact .nil
 |mem s hc=>exact .mem (s.ext x) hc
theorem eS.form{h:Heap}{sz n:Nat}{v:Value}{cs:List Value}(s:eS h sz v n cs):∃a c,v= .slice a n c:=by
 cases s<;>exact⟨_,_,rfl⟩
theorem eS.log{h:Heap}{sz n:Nat}{v:Value}{cs:List Value}(s:eS h sz v n cs)(l:List Nat):eS {h with log:=l} sz v n cs:=by
 cases s with
 |nil=>exact .nil
 |mem s hc=>exact .mem ⟨s.lt,s.obj,s.len⟩ hc
theorem eS.inv{h:Heap}{sz n:Nat}{v:Value}{cs:List Value}(s:eS h sz v n cs):(∃c,v= .slice none 0 c∧n=0∧cs=[])∨∃b o cap,v= .slice (some ⟨b,o,none⟩) n cap∧pG h b o n sz cs∧n≤cap:=by
 cases s with
 |nil=>exact .inl ⟨_,rfl,rfl,rfl⟩
 |mem s hc=>exact .inr ⟨_,_,_,rfl,s,hc⟩
end Go.A
end
section
namespace Go.A
variable {T:Nat→Option ak} {base:Nat} {rnd:Option Nat} {Q:XQ} {e:Env} {ds:Dfs} {h:Heap}
theorem FA{k:IntKind}{a b:Int}(h:b≤a):aC .geq (.int k a) (.int k b)=some (.bool true):=by rw[ES,decide_eq_true h]
theorem Ai{k:IntKind}{a b:Int}(h:a<b):aC .geq (.int k a) (.int k b)=some (.bool false):=by rw[ES,decide_eq_false (by omega)]
theorem kZ{k:IntKind}{a b:Int}(h:a≤b):aC .leq (.int k a) (.int k b)=some (.bool true):=by rw[JD,decide_eq_true h]
theorem kX{k:IntKind}{a b:Int}(h:b<a):aC .leq (.int k a) (.int k b)=some (.bool false):=by rw[JD,decide_eq_false (by omega)]
theorem j7{k:IntKind}{a b:Int}(h:a<b):aC .lss (.int k a) (.int k b)=some (.bool true):=by rw[Jq,decide_eq_true h]
theorem kT{k:IntKind}{a b:Int}(h:b≤a):aC .lss (.int k a) (.int k b)=some (.bool false):=by rw[Jq,decide_eq_false (by omega)]
theorem oI{k:IntKind}{a b:Int}(h:b<a):aC .gtr (.int k a) (.int k b)=some (.bool true):=by rw[Jo,decide_eq_true h]
theorem nh{k:IntKind}{a b:Int}(h:a≤b):aC .gtr (.int k a) (.int k b)=some (.bool false):=by rw[Jo,decide_eq_false (by omega)]
theorem J2{k:IntKind}{a b:Int}(h:a=b):aC .eql (.int k a) (.int k b)=some (.bool true):=by rw[Jz];simp[h]
theorem Aw{k:IntKind}{a b:Int}(h:a≠b):aC .eql (.int k a) (.int k b)=some (.bool false):=by rw[Jz];simp[h]
theorem Az{k:IntKind}{a b:Int}(h:a≠b):aC .neq (.int k a) (.int k b)=some (.bool true):=by rw[BC];simp[h]
theorem KE{k:IntKind}{a b:Int}(h:a=b):aC .neq (.int k a) (.int k b)=some (.bool false):=by rw[BC];simp[h]
end Go.A
end
section
namespace Go.A
variable {T:Nat→Option ak} {base:Nat} {rnd:Option Nat} {Q:XQ} {e:Env} {ds:Dfs} {h:Heap}
def Al(T:Nat→Option ak)(f:Nat)(args:List Value)(h:Heap)(Q:Value→Heap→Prop):Prop:=CW T f args h fun r h'=>Ext h h'∧∃v,r= .ret v∧Q v h'
structure Nc (rs:List (Nat×Option (Option Nat))) (Q:Value→Heap→Prop) (x:bw) (e:Env) (ds:Dfs) (h1:Heap):Prop where
 ok:(x= .normal∨x= .ret)∧ds=[]∧h1.log=[]∧∃vs,cC h1 e rs=some vs∧Q (fE vs) h1
theorem eY{rs:List (Nat×Option (Option Nat))}{Q:Value→Heap→Prop}{vs:List Value}(hl:h.log=[])(hr:cC h e rs=some vs)(hq:Q (fE vs) h):Nc rs Q .ret e [] h:=⟨⟨.inr rfl,rfl,hl,vs,hr,hq⟩⟩
theorem Ext.oD{h h1:Heap}(hr:Rdy h)(hA:AS h.next h h1)(hl:h1.log=[]):Ext h h1:=
 ⟨hA.next,hl.trans hr.log.symm,fun b hb=>hA.same b hb hb (by rw[hl];rfl),fun w=>w.as hA⟩
theorem Al.of(hp:bA T){f:Nat}{args:List Value}{c:aX}{rs:List (Nat×Option (Option Nat))}{Q:Value→Heap→Prop}(hf:T f=some (.code c rs))(hr:Rdy h)(hQ:∀v h1,cw v=true→Q v h1→Q v h)(H:WE T h.next none c (Nc rs Q) (ez 0 args) [] h):Al T f args h Q:=by
 obtain⟨x,e,ds,h1,⟨m,hm⟩,⟨hx,rfl,hl,vs,hvs,hq⟩⟩:=H.ok
 have hA:=(fq.all hp m).exec _ _ _ _ _ _ _ _ _ _ (hm m (Nat.le_refl _)) (Nat.le_refl _)
 refine CW.code hf ⟨x,e,[],h1,⟨m,hm⟩,?_⟩
 have key:Ext h (gcA h h1 (fE vs))∧Q (fE vs) (gcA h h1 (fE vs)):=by
  cases hv:cw (fE vs)with
  |true=>
   rw[AI hr.wf hA (hl.trans hr.log.symm) hr.log hv]
   exact⟨.refl _,hQ _ _ hv hq⟩
  |false=>
   have:gcA h h1 (fE vs)=h1:=by simp[gcA,hv]
   rw[this]
   exact⟨.oD hr hA hl,hq⟩
 unfold vI
 rcases hx with rfl|rfl
 ·simp only[hvs];exact⟨key.1,_,rfl,key.2⟩
 ·simp only[hvs];exact⟨key.1,_,rfl,key.2⟩
theorem Ext.J7{h h':Heap}(x:Ext {h with log:=[]} h'):Ext h {h' with log:=aB base h.log h'.log}:=by
 have:h'.log=[]:=x.log
 refine⟨x.next,by rw[this];rfl,x.old,fun w=>(x.wf (w.log [])).log _⟩
theorem FW.al{f:Nat}{args:List Value}{Q':Value→Heap→Prop}{K:Env→Dfs→Heap→Prop}{dst:Option Nat}(H:Al T f args {h with log:=[]} Q')(hlog:∀v (h':Heap) l,Q' v h'→Q' v {h' with log:=l})
 (hK:∀v h',Ext h h'→Q' v h'→K (bZ e dst v) ds h'):FW T (.func f) args {h with log:=[]} (KO K Q base dst e ds h.log):=by
 refine .func (CW.mono H ?_)
 rintro r h' ⟨hx,v,rfl,hq⟩
 exact⟨hK v _ hx.J7 (hlog v h' _ hq)⟩
theorem cV{t n b o s:Nat}{own:Bool}{ws l:List Value}{rs:List (Nat×Option (Option Nat))}{vs:List Value}(ht:geT e t=some (.pointer (some ⟨b,o,none⟩)))(hb:h.get b=some (.cells ws own s))(hl:cG n (bX o ws)=l)(hn:Nat.beq (bR l) n=true)(hr:cC h e rs=some vs):
 cC h e ((t,some (some n))::rs)=some (.agg l.toArray::vs):=by simp only[cC,ht,mQ,hb,hl,hn,cond_true,hr]
theorem Ep{t b o s:Nat}{own:Bool}{ws:List Value}{v:Value}{rs:List (Nat×Option (Option Nat))}{vs:List Value}(ht:geT e t=some (.pointer (some ⟨b,o,none⟩)))(hb:h.get b=some (.cells ws own s))(hl:cE ws o=some v)(hr:cC h e rs=some vs):
 cC h e ((t,some none)::rs)=some (v::vs):=by simp only[cC,ht,mQ,hb,hl,hr]
theorem cI{log:List Nat}{mask:Nat}:bI h base log mask []=some []:=rfl
theorem Je{log:List Nat}{mask:Nat}{r:Rec}{rs rs':List Rec}(hb:Nat.testBit mask r.i=true)(H:bI h base log mask rs=some rs'):bI h base log mask (r::rs)=some rs':=by
 simp only[bI,hb,cond_true,H]
theorem HJ{log:List Nat}{mask:Nat}{r:Rec}{rs rs':List Rec}(hb:Nat.testBit mask r.i=false)(hq:oM h base r=true)(hm:Cr log r=true)(H:bI h base log mask rs=some rs'):bI h base log mask (r::rs)=some (r::rs'):=by
 simp only[bI,hb,hq,hm,Bool.and_true,cond_true,cond_false,H]
theorem BE{r:Rec}{b:Nat}(hk:r.k= .made b):oM h base r=true:=by simp only[oM,hk]
theorem aO{r:Rec}(hk:r.k= .quiet)(hv:aop h base r.e r.o.op=some (.val r.v h))(hs:iO r.v r.v=true):oM h base r=true:=by
 have hb:Nat.beq h.next h.next=true:=by rw[beq_eq];simp
 simp only[oM,hk,hv,hs,hb,Bool.and_self]
theorem wg:lN h base []=true:=rfl
theorem dI{r:Rec}{rs:List Rec}(h1:oM h base r=true)(h2:lN h base rs=true):lN h base (r::rs)=true:=by simp only[lN,h1,cond_true,h2]
theorem dB(a:Option Addr):iO (.pointer a) (.pointer a)=true:=by simp[iO,kg]
theorem iF(k:IntKind)(n:Int):iO (.int k n) (.int k n)=true:=by simp[iO,kg]
theorem Bl(b:Bool):iO (.bool b) (.bool b)=true:=by simp[iO,kg]
theorem Ex(a:Option Addr)(n c:Nat):iO (.slice a n c) (.slice a n c)=true:=by simp[iO,kg]
theorem kA{c:Array Value}(h:kG c.toList c.toList=true):iO (.agg c) (.agg c)=true:=h
theorem cZ{v:Value}{l:List Value}(h1:kg v v=true)(h2:kG l l=true):kG (v::l) (v::l)=true:=by simp only[kG,h1,cond_true,h2]
theorem dQ(k:IntKind)(n:Int):kg (.int k n) (.int k n)=true:=by simp[kg]
theorem qu{b o n c size:Nat}{vs cs:List Value}{own:Bool}{s:Nat}(hb:h.get b=some (.cells vs own s))(hc:cG (n*size) (bX o vs)=cs)(hl:cs.length=n*size):eL h size (.slice (some ⟨b,o,none⟩) n c)=some (cs,n):=by
 simp only[eL,hb,hc,bV,hl,beq_eq,decide_true,cond_true]
theorem JI{size n:Nat}{v:Value}{cs:List Value}(s:eS h size v n cs):eL h size v=some (cs,n):=by
 cases s with
 |nil=>rfl
 |mem s _=>
  obtain⟨vs,own,t,h1,h2⟩:=s.obj
  exact qu h1 h2 s.len
theorem uA{size bytes n c:Nat}{x y:Operand}{v:Value}{cs:List Value}(hx:ev h e x=some (.slice none 0 0))(hy:ev h e y=some v)(hs:eL h size v=some (cs,n))(hn:n≠0)(hb:(2*(0+n)+768)*bytes≤281474976710656)(hc:c=UNK):
 aop h base e (.append size bytes x y)=some (.val (.slice (some ⟨h.next,0,none⟩) n c) (h.push (.cells cs true size))):=by
 have h0:Nat.beq n 0=false:=by rw[beq_eq];simpa using hn
 have h1:Nat.ble ((2*(0+n)+768)*bytes) 281474976710656=true:=by rw[ble_eq];simpa using hb
 subst hc
 simp only[aop,hx,hy,hs,iC,h0,h1,cond_true,cond_false,Nat.beq,Bool.and_self,fG]
theorem th{size bytes len n q:Nat}{x y:Operand}{v:Value}{vs cs ws:List Value}(hx:ev h e x=some (.slice (some ⟨q,0,none⟩) len UNK))(hy:ev h e y=some v)(hs:eL h size v=some (cs,n))(hn:n≠0)(hq:h.get q=some (.cells vs true size))(hl:vs.length=len*size)
 (hsz:0<size)(h1:eM cs=true)(hb:(2*(len+n)+768)*bytes≤281474976710656)(hw:dJ vs cs=ws):
 aop h base e (.append size bytes x y)=some (.val (.slice (some ⟨h.next,0,none⟩) (len+n) UNK) ((h.wr base q .dead).push (.cells ws true size))):=by
 have h0:Nat.beq n 0=false:=by rw[beq_eq];simpa using hn
 have h2:Nat.ble ((2*(len+n)+768)*bytes) 281474976710656=true:=by rw[ble_eq];simpa using hb
 have h3:Nat.beq UNK UNK=true:=by rw[beq_eq];simp
 have h4:Nat.beq size size=true:=by rw[beq_eq];simp
 have h5:Nat.ble (0+(len+n)*size) (bR vs)=false:=by
  rw[ble_eq,bV,hl,Nat.add_mul]
  have:0<n*size:=Nat.mul_pos (Nat.pos_of_ne_zero hn) hsz
  simp;omega
 have h6:Nat.beq (len*size) (bR vs)=true:=by rw[beq_eq,bV,hl];simp
 simp only[aop,hx,hy,hs,iC,h0,h2,hq,h3,h4,h5,h6,h1,Bool.and_true,Bool.false_and,cond_true,cond_false,hw,fG,Nat.beq]
theorem zx{size bytes len n q o c s:Nat}{own:Bool}{x y:Operand}{v:Value}{vs cs ws:List Value}(hx:ev h e x=some (.slice (some ⟨q,o,none⟩) len c))(hy:ev h e y=some v)(hs:eL h size v=some (cs,n))(hn:n≠0)(hc:c<len+n)(hu:c<UNK)
 (hq:h.get q=some (.cells vs own s))(hl:o+len*size≤vs.length)(hb:(2*(len+n)+768)*bytes≤281474976710656)(hw:dJ (cG (len*size) (bX o vs)) cs=ws):
 aop h base e (.append size bytes x y)=some (.val (.slice (some ⟨h.next,0,none⟩) (len+n) UNK) (h.push (.cells ws true size))):=by
 have h0:Nat.beq n 0=false:=by rw[beq_eq];simpa using hn
 have h2:Nat.ble ((2*(len+n)+768)*bytes) 281474976710656=true:=by rw[ble_eq];simpa using hb
 have h3:Nat.beq c UNK=false:=by rw[beq_eq];simp;omega
 have h4:Nat.ble (len+n) c=false:=by rw[ble_eq];simp;omega
 have h5:Nat.ble (o+len*size) (bR vs)=true:=by rw[ble_eq,bV];simpa using hl
 simp only[aop,hx,hy,hs,iC,h0,h2,hq,h3,h4,h5,cond_true,cond_false,hw,fG]
theorem zV{size bytes len c:Nat}{a:Option Addr}{x y:Operand}{v:Value}(hx:ev h e x=some (.slice a len c))(hy:ev h e y=some v)(hs:eL h size v=some ([],0))(hc:len≤c):aop h base e (.append size bytes x y)=some (.val (.slice a len c) h):=by
 have h2:Nat.ble len c=true:=by rw[ble_eq];simpa using hc
 simp only[aop,hx,hy,hs,iC,h2,cond_true,Nat.beq,fG]
end Go.A
end
section
namespace Go.A
variable {T:Nat→Option ak} {base:Nat} {rnd:Option Nat} {Q:XQ} {e:Env} {ds:Dfs} {h:Heap}
theorem rQ{ops:List bk}{bf:List Nat}{rs rs':List Rec}{Q:Env→Heap→Prop}{i mask:Nat}{is:List Nat}{dst:Option Nat}{op:AOp}{g:Option (Nat×Bool)}{er:Env}{v:Value}{h2 h3:Heap}{lg:List Nat}(ho:cE ops i=some ⟨dst,op,g⟩)(hm:cE bf i=some mask)
 (he:bQ e (cF ⟨dst,op,g⟩)=er)(hw:bW er g=some true)(hq:iT op=false)(hop:aop {h with log:=[]} h.next er op=some (.val v h2))(h3e:({h2 with log:=aB base h.log h2.log}:Heap)=h3)(hlg:h2.log=lg)
 (hrs:bI h3 base lg mask rs=some rs')(H:WD T base ops bf Q is rs' (bZ e dst v) h3):WD T base ops bf Q (i::is) rs e h:=by
 subst h3e;subst hlg
 exact JP ho hm he hw hq hop hrs H
theorem vj{b:Nat}(hb:b<h.next)(o:bJ):(({h with log:=[]}:Heap).wr h.next b o).log=[b]:=by
 simp[Heap.wr,blt_eq,hb,fA]
theorem DM{b:Nat}(hb:b<h.next)(hbb:base≤b)(o:bJ):({({h with log:=[]}:Heap).wr h.next b o with log:=aB base h.log (({h with log:=[]}:Heap).wr h.next b o).log}:Heap)=h.wr base b o:=by
 rw[vj hb]
 have h1:Nat.blt b base=false:=by rw[blt_eq];simp;omega
 simp only[Heap.wr,aB,h1,cond_false]
theorem j6{ops:List bk}{bf:List Nat}{rs rs':List Rec}{Q:Env→Heap→Prop}{i mask:Nat}{is:List Nat}{dst:Option Nat}{x y:Operand}{n b o sz:Nat}{vs ws:List Value}{v:Value}{g:Option (Nat×Bool)}{er:Env}(ho:cE ops i=some ⟨dst, .store n x y,g⟩)(hm:cE bf i=some mask)
 (he:bQ e (cF ⟨dst, .store n x y,g⟩)=er)(hw:bW er g=some true)(hx:ev {h with log:=[]} er x=some (.pointer (some ⟨b,o,none⟩)))(hy:ev {h with log:=[]} er y=some v)(hb:h.get b=some (.cells vs true sz))
 (hc:(Nat.beq (bR (cellsOf v)) n&&Nat.ble (o+n) (bR vs)&&eM (cellsOf v))=true)(hws:cD vs o (cellsOf v)=ws)(hlt:b<h.next)(hbb:base≤b)(hrs:bI (h.wr base b (.cells ws true sz)) base [b] mask rs=some rs')
 (H:WD T base ops bf Q is rs' (bZ e dst (.tuple #[])) (h.wr base b (.cells ws true sz))):WD T base ops bf Q (i::is) rs e h:=
 rQ ho hm he hw rfl (iA (h:={h with log:=[]}) hx hy hb hc hws) (DM hlt hbb _) (vj hlt _) hrs H
theorem Heap.yR{h:Heap}{o:bJ}{x:Nat}(h1:x≤h.next)(h2:h.next≤x):(h.push o).get x=some o:=by rw[Heap.cQ,if_pos (Nat.le_antisymm h1 h2)]
theorem Heap.CU{h:Heap}{base b:Nat}{o:bJ}{x:Nat}(h1:x≤b)(h2:b≤x):(h.wr base b o).get x=(h.get x).map fun _=>o:=by rw[Heap.ki,if_pos (Nat.le_antisymm h1 h2),Nat.le_antisymm h1 h2]
theorem af{log:List Nat}{mask i:Nat}{o:bk}{e:Env}{v:Value}{k:Rk}{rs rs':List Rec}(hb:Nat.testBit mask i=true)(H:bI h base log mask rs=some rs'):bI h base log mask (⟨i,o,e,v,k⟩::rs)=some rs':=Je hb H
theorem bB{log:List Nat}{mask i:Nat}{o:bk}{e:Env}{v:Value}{k:Rk}{rs rs':List Rec}(hb:Nat.testBit mask i=false)(hq:oM h base ⟨i,o,e,v,k⟩=true)(hm:Cr log ⟨i,o,e,v,k⟩=true)(H:bI h base log mask rs=some rs'):
 bI h base log mask (⟨i,o,e,v,k⟩::rs)=some (⟨i,o,e,v,k⟩::rs'):=HJ hb hq hm H
end Go.A
end
section
namespace Go.A
variable {T:Nat→Option ak} {base:Nat} {rnd:Option Nat} {Q:XQ} {e:Env} {ds:Dfs} {h:Heap}
theorem xh{x:Operand}{k:IntKind}{n d:Nat}(hx:ev h e x=some (.int k (n:Nat))):bnd h e d (some x)=some n:=by
 have:(.int k (n:Nat):Value)= .int k (Int.ofNat n):=rfl
 rw[this]at hx
 simp only[bnd,hx,nI]
theorem yw{d:Nat}:bnd h e d none=some d:=rfl
theorem qJ(n:Nat):Nat.beq n n=true:=by rw[beq_eq];simp
theorem gY{a b:Nat}(h:a≤b):Nat.ble a b=true:=by rw[ble_eq];simpa using h
theorem gz{a b:Nat}(h:a<b):Nat.blt a b=true:=by rw[blt_eq];simpa using h
theorem pn{a b:Nat}(h:¬a<b):Nat.blt a b=false:=by rw[blt_eq];simpa using h
theorem tK{a b:Nat}(h:a≠b):Nat.beq a b=false:=by rw[beq_eq];simpa using h
theorem sD{size b o n i:Nat}{k:IntKind}{x y:Operand}{vs:List Value}{own:Bool}(hx:ev h e x=some (.slice (some ⟨b,o,none⟩) n UNK))(hy:ev h e y=some (.int k (i:Nat)))(hb:h.get b=some (.cells vs own size))(hi:i≤n)(h0:0<n):
 aop h base e (.slice (.sl size) x none (some y) none)=some (.val (.slice (some ⟨b,o,none⟩) i UNK) h):=by
 simp only[aop,hx,gZ,xh hy,yw,hb,qJ,gY (Nat.zero_le _),gY hi,gz h0,Bool.true_or,Bool.and_true,cond_true,fG,Nat.zero_mul,Nat.add_zero,Nat.sub_zero]
theorem oU{size b o n i:Nat}{k:IntKind}{x y:Operand}{vs:List Value}{own:Bool}(hx:ev h e x=some (.slice (some ⟨b,o,none⟩) n UNK))(hy:ev h e y=some (.int k (i:Nat)))(hb:h.get b=some (.cells vs own size))(hi:i<n):
 aop h base e (.slice (.sl size) x (some y) none none)=some (.val (.slice (some ⟨b,o+i*size,none⟩) (n-i) UNK) h):=by
 simp only[aop,hx,gZ,xh hy,yw,hb,qJ,gY (Nat.le_of_lt hi),gY (Nat.le_refl n),gz hi,Bool.true_or,Bool.and_true,cond_true,fG]
theorem Bz{z vs ws:List Value}{x:Operand}{b o n c sz:Nat}(hx:ev h e x=some (.slice (some ⟨b,o,none⟩) n c))(hn:n≠0)(hb:h.get b=some (.cells vs true sz))(hl:o+(eN n z).length≤vs.length)(h1:eM (eN n z)=true)(hw:cD vs o (eN n z)=ws):
 aop h base e (.clear z x)=some (.val (.tuple #[]) (h.wr base b (.cells ws true sz))):=by
 have h5:Nat.ble (o+bR (eN n z)) (bR vs)=true:=by rw[bV,bV];exact gY hl
 simp only[aop,hx,tK hn,hb,h5,h1,Bool.and_true,cond_true,cond_false,hw]
theorem KG{b:Nat}(hb:b<h.next)(o:bJ):({({h with log:=[]}:Heap).wr h.next b o with log:=aB base h.log (({h with log:=[]}:Heap).wr h.next b o).log}:Heap)=h.wr base b o:=by
 rw[vj hb]
 rfl
theorem jc{α:Type}{l m:List α}{o:Nat}(ho:o+m.length≤l.length):cD l o m=l.take o++m++l.drop (o+m.length):=by
 apply List.ext_getElem?
 intro i
 rw[lD m l o i ho]
 by_cases h1:o≤i∧i<o+m.length
 ·rw[if_pos h1,List.getElem?_append_left (by simp;omega),List.getElem?_append_right (by simp;omega)]
  congr 1;simp;omega
 ·rw[if_neg h1]
  by_cases h2:i<o
  ·rw[List.getElem?_append_left (by simp;omega),List.getElem?_append_left (by simp;omega),List.getElem?_take_of_lt h2]
  ·rw[List.getElem?_append_right (by simp;omega),List.getElem?_drop]
   congr 1;simp;omega
structure Upd (h h':Heap) (b:Nat) (o:bJ):Prop where
 next:h.next≤h'.next
 log:h'.log=[b]
 old:∀x,x<h.next→x≠b→h'.get x=h.get x
 obj:h'.get b=some o
 wf:WF h→WF h'
end Go.A
end
section
namespace Go.A
theorem z1(h:Heap)(o:bJ):(h.push o).next=h.next+1:=rfl
theorem z2(h:Heap)(base b:Nat)(o:bJ):(h.wr base b o).next=h.next:=rfl
theorem z3(h:Heap)(o:bJ):(h.push o).get h.next=some o:=Heap.mE h o
theorem z4{h:Heap}{o:bJ}{x:Nat}(hx:x<h.next):(h.push o).get x=h.get x:=Heap.iY hx
theorem z5{h:Heap}{base b:Nat}{o:bJ}{x:Nat}(hx:x≠b):(h.wr base b o).get x=h.get x:=Heap.fP hx
theorem z6(h:Heap)(base b:Nat)(o:bJ):(h.wr base b o).get b=(h.get b).map fun _=>o:=Heap.xX h base b o
theorem z7{α β:Type}(f:α→β)(a:α):Option.map f (some a)=some (f a):=rfl
theorem z8{h:Heap}{o:bJ}{x:Nat}(h1:x≤h.next)(h2:h.next≤x):(h.push o).get x=some o:=Heap.yR h1 h2
theorem z9{h:Heap}{base b:Nat}{o:bJ}{x:Nat}(h1:x≤b)(h2:b≤x):(h.wr base b o).get x=(h.get x).map fun _=>o:=Heap.CU h1 h2
end Go.A
end
section
namespace Go.A
variable {T:Nat→Option ak} {base:Nat} {rnd:Option Nat} {Q:XQ} {e:Env} {ds:Dfs} {h:Heap}
def eE(lo:Nat)(l:List Nat):Prop:=∀x∈l,lo≤x
theorem eE.nil(lo:Nat):eE lo []:=fun x hx=>by cases hx
theorem eE.merge{lo base:Nat}:∀{m l:List Nat},eE lo l→eE lo m→eE lo (aB base l m)
 |[],l,h1,_=>h1
 |b::m,l,h1,h2=>by
  simp only[aB]
  refine eE.merge ?_ fun x hx=>h2 x (List.mem_cons_of_mem _ hx)
  have hb:=h2 b (List.mem_cons_self ..)
  simp only[cond_eq_ite]
  split
  ·split
   ·exact h1
   ·intro x hx
    rcases List.mem_cons.1 hx with rfl|hx
    ·exact hb
    ·exact h1 x hx
  ·exact h1
structure Lk (lo:Nat) (h h':Heap):Prop where
 next:h.next≤h'.next
 log:eE lo h.log→eE lo h'.log
 old:∀x,x<lo→h'.get x=h.get x
 wf:WF h→WF h'
theorem Lk.refl(lo:Nat)(h:Heap):Lk lo h h:=⟨Nat.le_refl _,id,fun _ _=>rfl,id⟩
theorem Lk.trans{lo:Nat}{a b c:Heap}(x:Lk lo a b)(y:Lk lo b c):Lk lo a c:=⟨Nat.le_trans x.next y.next,fun h=>y.log (x.log h),fun z hz=>(y.old z hz).trans (x.old z hz),fun w=>y.wf (x.wf w)⟩
theorem Lk.push{lo:Nat}{a b:Heap}(x:Lk lo a b)(hlo:lo≤b.next)(o:bJ):Lk lo a (b.push o):=x.trans ⟨Nat.le_succ _,id,fun z hz=>Heap.iY (by omega),fun w=>w.push o⟩
theorem Ext.lk{lo:Nat}{a b:Heap}(x:Ext a b)(hlo:lo≤a.next):Lk lo a b:=⟨x.next,fun h=>by rw[x.log];exact h,fun z hz=>x.old z (by omega),x.wf⟩
theorem lZ{l:List Nat}{x:Nat}(h:x ∉ l):fA l x=false:=by
 cases e:fA l x with
 |false=>rfl
 |true=>exact(h (iW.1 e)).elim
theorem Lk.oD{lo:Nat}{h h':Heap}(hA:AS h.next h h')(hlo:lo≤h.next)(hl:eE lo h'.log):Lk lo h h':=
 ⟨hA.next,fun _=>hl,fun x hx=>hA.same x (by omega) (by omega) (lZ fun hm=>by have:=hl x hm;omega),fun w=>w.as hA⟩
theorem Lk.call{lo:Nat}{h h2:Heap}(x:Lk lo {h with log:=[]} h2):Lk lo h {h2 with log:=aB base h.log h2.log}:=
 ⟨x.next,fun hl=>hl.merge (x.log (eE.nil _)),x.old,fun w=>(x.wf (w.log [])).log _⟩
def Gr(T:Nat→Option ak)(f:Nat)(args:List Value)(h:Heap)(lo:Nat)(Q:Value→Heap→Prop):Prop:=CW T f args h fun r h'=>Lk lo h h'∧∃v,r= .ret v∧Q v h'
structure Ll (rs:List (Nat×Option (Option Nat))) (lo:Nat) (Q:Value→Heap→Prop) (x:bw) (e:Env) (ds:Dfs) (h1:Heap):Prop where
 ok:(x= .normal∨x= .ret)∧ds=[]∧eE lo h1.log∧∃vs,cC h1 e rs=some vs∧Q (fE vs) h1
theorem xW{rs:List (Nat×Option (Option Nat))}{lo:Nat}{Q:Value→Heap→Prop}{vs:List Value}(hl:eE lo h.log)(hr:cC h e rs=some vs)(hq:Q (fE vs) h):Ll rs lo Q .ret e [] h:=⟨⟨.inr rfl,rfl,hl,vs,hr,hq⟩⟩
theorem E9{rs:List (Nat×Option (Option Nat))}{lo:Nat}{Q:Value→Heap→Prop}{vs:List Value}(hl:eE lo h.log)(hr:cC h e rs=some vs)(hq:Q (fE vs) h):Ll rs lo Q .normal e [] h:=⟨⟨.inl rfl,rfl,hl,vs,hr,hq⟩⟩
theorem mU{h h1:Heap}{v:Value}(hA:AS h.next h h1):(∀x,x<h.next→(gcA h h1 v).get x=h1.get x)∧h.next≤(gcA h h1 v).next∧(gcA h h1 v).log=h1.log∧(cw v=false→gcA h h1 v=h1):=by
 unfold gcA
 cases hc:(cw v&&fQ h1 h.next h1.log)with
 |false=>exact⟨fun _ _=>rfl,hA.next,rfl,fun _=>rfl⟩
 |true=>
  refine⟨fun x hx=> ?_,Nat.le_refl _,rfl,fun hn=>by rw[hn]at hc;cases hc⟩
  have hA':=hA.keys
  have hlen:(cH h.next (h1.next-h.next)).length=h1.next-h.next:=by
   generalize h1.next-h.next=n
   induction n with
   |zero=>rfl
   |succ n ih=>simp[cH,ih]
  have hkt:(h1.bM.take (h1.next-h.next)).map (·.1)=cH h.next (h1.next-h.next):=by
   rw[List.map_take,hA',List.take_append_of_le_length (by omega),List.take_of_length_le (by omega)]
  have:=j4 _ h.next _ (h1.bM.drop (h1.next-h.next)) hkt x hx
  rw[List.take_append_drop]at this
  show eZ (bX (h1.next-h.next) h1.bM) x=eZ h1.bM x
  rw[cA]
  exact this.symm
theorem wr0(l:Nat)(o:bJ):({h with bM:=gT h.bM l o}:Heap)=h.wr 0 l o:=rfl
def busy:bJ→Bool
 | .loop _ _ _ _ 1 _=>true
 |_=>false
theorem sN{f:Operand}{ps:List Nat}{asg body:aX}{g:Nat}{first cap:Array Value}(hr:mI h rnd=true)(hf:ev h e f=some (.func (.func g) first cap))(hnc:fT (T g)=false)
 (H:CW T g (dJ first.toList (dJ [.func (.yield h.next) #[] #[]] cap.toList)) {h.push (.loop e ps asg body 0 .normal)with log:=[]} fun r h2=>∃v,r= .ret v∧∃e' ps' a' b' st gP,h2.get h.next=some (.loop e' ps' a' b' st gP)∧Nat.beq st 1=false∧
   Q gP e ds (({h2 with log:=aB base h.log h2.log}:Heap).wr base h.next .dead)):WE T base rnd (.rangeFunc f ps asg body) Q e ds h:=by
 obtain⟨r,h2,⟨m,hm⟩,v,rfl,e',ps',a',b',st,gP,hl,hst,hq⟩:=H
 refine⟨⟨gP,e,ds,_,⟨m+1,fun n hn=> ?_⟩,hq⟩⟩
 obtain⟨k,rfl⟩:∃k,n=k+1:=⟨n-1,by omega⟩
 simp only[bT,hr,hf,hnc,cond_true,cond_false,hm k (by omega),hl,hst]
theorem FW.zN(hp:bA T){fn:Fn}{args:List Value}{Q:Res→Heap→Prop}(H:FW T fn args h Q)(hl:h.log=[]):FW T fn args h fun r h'=>AS h.next h h'∧Q r h':=by
 obtain⟨r,h',⟨m,hm⟩,hq⟩:=H
 exact⟨r,h',⟨m,hm⟩,(fq.all hp m).ij _ _ _ _ _ (hm m (Nat.le_refl _)) hl,hq⟩
theorem FW.mono'{fn:Fn}{args:List Value}{Q Q':Res→Heap→Prop}(H:FW T fn args h Q)(hq:∀r h',Q r h'→Q' r h'):FW T fn args h Q':=
 let⟨r,h',h1,h2⟩:=H;⟨r,h',h1,hq _ _ h2⟩
end Go.A
end
section
namespace Go.A
variable {T:Nat→Option ak} {base:Nat} {rnd:Option Nat} {Q:XQ} {e:Env} {ds:Dfs} {h:Heap}
theorem AS.zero{base:Nat}{h h':Heap}(a:AS base h h'):AS 0 h h':=⟨a.next,a.keys,fun b hb=>by omega,fun b hb=>by omega⟩
theorem uT{h h1:Heap}{v:Value}(hA:AS 0 h h1):(∀x,x<h.next→(gcA h h1 v).get x=h1.get x)∧h.next≤(gcA h h1 v).next∧(gcA h h1 v).log=h1.log:=by
 unfold gcA
 cases hc:(cw v&&fQ h1 h.next h1.log)with
 |false=>exact⟨fun _ _=>rfl,hA.next,rfl⟩
 |true=>
  refine⟨fun x hx=> ?_,Nat.le_refl _,rfl⟩
  have hA':=hA.keys
  have hlen:(cH h.next (h1.next-h.next)).length=h1.next-h.next:=by
   generalize h1.next-h.next=n
   induction n with
   |zero=>rfl
   |succ n ih=>simp[cH,ih]
  have hkt:(h1.bM.take (h1.next-h.next)).map (·.1)=cH h.next (h1.next-h.next):=by
   rw[List.map_take,hA',List.take_append_of_le_length (by omega),List.take_of_length_le (by omega)]
  have:=j4 _ h.next _ (h1.bM.drop (h1.next-h.next)) hkt x hx
  rw[List.take_append_drop]at this
  show eZ (bX (h1.next-h.next) h1.bM) x=eZ h1.bM x
  rw[cA]
  exact this.symm
structure PW (l wb:Nat) (H0:Heap) (L:bJ) (O:List (Nat×Nat)→bJ) (done:List (Nat×Nat)) (H:Heap):Prop where
 old:∀x,x<l→x≠wb→H.get x=H0.get x
 obj:H.get wb=some (O done)
 loop:H.get l=some L
 nx:l<H.next
end Go.A
end
section
namespace Go.A
variable {T:Nat→Option ak} {base:Nat} {rnd:Option Nat} {Q:XQ} {e:Env} {ds:Dfs} {h:Heap}
inductive Own (lo:Nat) (h:Heap) (sz:Nat):Value→Nat→List Value→Prop
 |nil:Own lo h sz (.slice none 0 0) 0 []
 |full {q n cs}:lo≤q→q<h.next→h.get q=some (.cells cs true sz)→cs.length=n*sz→n≠0→Own lo h sz (.slice (some ⟨q,0,none⟩) n UNK) n cs
theorem Own.slice{lo sz n:Nat}{v:Value}{cs:List Value}(s:Own lo h sz v n cs)(hn:n<4000000):eS h sz v n cs:=by
 cases s with
 |nil=>exact .nil
 |full h1 h2 h3 h4 h5=>
  refine .mem ⟨h2,⟨_,_,_,h3,?_⟩,h4⟩ (by unfold UNK;omega)
  rw[dV,cA,List.drop_zero,List.take_of_length_le (by omega)]
theorem Own.keep{lo sz n:Nat}{h':Heap}{v:Value}{cs:List Value}(s:Own lo h sz v n cs)(hn:h.next≤h'.next)(ha:∀z,lo≤z→z<h.next→h'.get z=h.get z):Own lo h' sz v n cs:=by
 cases s with
 |nil=>exact .nil
 |full h1 h2 h3 h4 h5=>exact .full h1 (by omega) ((ha _ h1 h2).trans h3) h4 h5
theorem Own.ext{lo sz n:Nat}{h':Heap}{v:Value}{cs:List Value}(s:Own lo h sz v n cs)(x:Ext h h'):Own lo h' sz v n cs:=s.keep x.next fun z _ hz=>x.old z hz
theorem Own.log{lo sz n:Nat}{v:Value}{cs:List Value}(s:Own lo h sz v n cs)(m:List Nat):Own lo {h with log:=m} sz v n cs:=s.keep (h':={h with log:=m}) (Nat.le_refl _) fun _ _ _=>rfl
theorem Own.low{lo lo' sz n:Nat}{v:Value}{cs:List Value}(s:Own lo h sz v n cs)(hl:lo'≤lo):Own lo' h sz v n cs:=by
 cases s with
 |nil=>exact .nil
 |full h1 h2 h3 h4 h5=>exact .full (by omega) h2 h3 h4 h5
structure Lx (lo:Nat) (h h':Heap):Prop where
 next:h.next≤h'.next
 log:h'.log=h.log
 old:∀z,z<lo→h'.get z=h.get z
 wf:WF h→WF h'
theorem Lx.refl(lo:Nat)(h:Heap):Lx lo h h:=⟨Nat.le_refl _,rfl,fun _ _=>rfl,id⟩
theorem Lx.trans{lo:Nat}{a b c:Heap}(x:Lx lo a b)(y:Lx lo b c):Lx lo a c:=⟨Nat.le_trans x.next y.next,y.log.trans x.log,fun z hz=>(y.old z hz).trans (x.old z hz),fun w=>y.wf (x.wf w)⟩
theorem Lx.push{lo:Nat}{a b:Heap}(x:Lx lo a b)(hlo:lo≤b.next)(o:bJ):Lx lo a (b.push o):=x.trans ⟨Nat.le_succ _,rfl,fun z hz=>Heap.iY (by omega),fun w=>w.push o⟩
theorem Lx.wr{lo:Nat}{a b:Heap}(x:Lx lo a b){base y:Nat}{o:bJ}(hy:lo≤y)(hb:base≤y):Lx lo a (b.wr base y o):=x.trans ⟨Nat.le_refl _,Heap.aG hb,fun z hz=>Heap.fP (by omega),fun w=>w.as (AS.wr _ _ _ _)⟩
theorem I3{lo sz bytes n:Nat}{dst:Option Nat}{os:List bk}{x y:Operand}{v u:Value}{cs c1:List Value}(s:Own lo h sz v n cs)(hn:n<1000000)(hsz:0<sz)(hb:bytes≤100000)(hlo:lo≤h.next)(hbase:base≤lo)
 (hx:ev h e x=some v)(hy:ev h e y=some u)(hs:eL h sz u=some (c1,1))(hl1:c1.length=sz)(h1:eM c1=true)
 (hK:∀v' h',Own lo h' sz v' (n+1) (cs++c1)→Lx lo h h'→WO T base rnd Q os (bZ e dst v') ds h'):WO T base rnd Q (⟨dst, .append sz bytes x y,none⟩::os) e ds h:=by
 have hbd:(2*(n+1)+768)*bytes≤281474976710656:=by
  have:(2*(n+1)+768)*bytes≤2000768*100000:=Nat.mul_le_mul (by omega) hb
  omega
 cases s with
 |nil=>
  refine aa (uA (n:=1) hx hy hs (by omega) (by simpa using hbd) rfl) ?_
  refine hK _ _ ?_ ((Lx.refl lo h).push hlo _)
  have:=Own.full (lo:=lo) (h:=h.push (.cells c1 true sz)) (sz:=sz) (q:=h.next) (n:=1) (cs:=c1) hlo (Nat.lt_succ_self _) (Heap.mE _ _) (by omega) (by omega)
  exact this
 | @full q _ _ q1 q2 q3 q4 q5=>
   refine aa (th (n:=1) (vs:=cs) (ws:=cs++c1) hx hy hs (by omega) q3 q4 hsz h1 hbd (dY _ _)) ?_
   refine hK _ _ ?_ (((Lx.refl lo h).wr q1 (by omega)).push hlo _)
   refine .full hlo (Nat.lt_succ_self _) ?_ (by rw[List.length_append,q4,hl1,Nat.add_mul,Nat.one_mul]) (by omega)
   exact Heap.mE _ _
end Go.A
end
section
namespace Go.A
variable {T:Nat→Option ak} {base:Nat} {rnd:Option Nat} {Q:XQ} {e:Env} {ds:Dfs} {h:Heap}
structure Ws (S:Nat→Prop) (h h':Heap):Prop where
 next:h.next≤h'.next
 log:∀z∈h'.log,z∈h.log∨S z
 old:∀z,z<h.next→¬S z→h'.get z=h.get z
 wf:WF h→WF h'
theorem Ws.oD{S:Nat→Prop}{h h':Heap}(hA:AS h.next h h')(hl:∀z∈h'.log,S z):Ws S h h':=
 ⟨hA.next,fun z hz=> .inr (hl z hz),fun z hz hn=>hA.same z hz hz (lZ fun hm=>hn (hl z hm)),fun w=>w.as hA⟩
theorem vg{base z:Nat}:∀{m l:List Nat},z∈aB base l m→z∈l∨z∈m
 |[],l,h=> .inl h
 |b::m,l,h=>by
  simp only[aB]at h
  rcases vg (m:=m) h with h|h
  ·revert h
   rw[cond_eq_ite,cond_eq_ite]
   split
   ·split
    ·exact .inl
    ·intro h
     rcases List.mem_cons.1 h with rfl|h
     ·exact .inr (List.mem_cons_self ..)
     ·exact .inl h
   ·exact .inl
  ·exact .inr (List.mem_cons_of_mem _ h)
theorem Ws.call{S:Nat→Prop}{h h2:Heap}(x:Ws S {h with log:=[]} h2):Ws S h {h2 with log:=aB base h.log h2.log}:=
 ⟨x.next,fun z hz=>(vg hz).imp id fun q=>(x.log z q).elim (fun q=>by cases q) id,x.old,fun w=>(x.wf (w.log [])).log _⟩
def Gs(T:Nat→Option ak)(f:Nat)(args:List Value)(h:Heap)(S:Nat→Prop)(Q:Value→Heap→Prop):Prop:=CW T f args h fun r h'=>Ws S h h'∧∃v,r= .ret v∧Q v h'
structure LQ (rs:List (Nat×Option (Option Nat))) (S:Nat→Prop) (Q:Value→Heap→Prop) (x:bw) (e:Env) (ds:Dfs) (h1:Heap):Prop where
 ok:(x= .normal∨x= .ret)∧ds=[]∧(∀z∈h1.log,S z)∧∃vs,cC h1 e rs=some vs∧Q (fE vs) h1
theorem lP{rs:List (Nat×Option (Option Nat))}{S:Nat→Prop}{Q:Value→Heap→Prop}{vs:List Value}(hl:∀z∈h.log,S z)(hr:cC h e rs=some vs)(hq:Q (fE vs) h):LQ rs S Q .ret e [] h:=⟨⟨.inr rfl,rfl,hl,vs,hr,hq⟩⟩
theorem Gs.of(hp:bA T){f:Nat}{args:List Value}{c:aX}{rs:List (Nat×Option (Option Nat))}{S:Nat→Prop}{Q:Value→Heap→Prop}(hf:T f=some (.code c rs))
 (hQ:∀v h1 h2,cw v=true→h.next≤h2.next→(∀x,x<h.next→h2.get x=h1.get x)→Q v h1→Q v h2)(H:WE T h.next none c (LQ rs S Q) (ez 0 args) [] h):Gs T f args h S Q:=by
 obtain⟨x,e,ds,h1,⟨m,hm⟩,⟨hx,rfl,hl,vs,hvs,hq⟩⟩:=H.ok
 have hA:=(fq.all hp m).exec _ _ _ _ _ _ _ _ _ _ (hm m (Nat.le_refl _)) (Nat.le_refl _)
 obtain⟨g1,g2,g3,g4⟩:=mU (v:=fE vs) hA
 have key:Ws S h (gcA h h1 (fE vs))∧∃v,Res.ret (fE vs)= .ret v∧Q v (gcA h h1 (fE vs)):=by
  refine⟨Ws.oD (hA.gc' _) (by rw[g3];exact hl),_,rfl,?_⟩
  cases hv:cw (fE vs)with
  |true=>exact hQ _ _ _ hv g2 g1 hq
  |false=>rw[g4 hv];exact hq
 refine CW.code hf ⟨x,e,[],h1,⟨m,hm⟩,?_⟩
 unfold vI
 rcases hx with rfl|rfl<;>(simp only[hvs];exact key)
theorem FW.gs{f:Nat}{args:List Value}{S:Nat→Prop}{Q':Value→Heap→Prop}{K:Env→Dfs→Heap→Prop}{dst:Option Nat}(H:Gs T f args {h with log:=[]} S Q')(hlog:∀v (h':Heap) l,Q' v h'→Q' v {h' with log:=l})(hK:∀v h',Ws S h h'→Q' v h'→K (bZ e dst v) ds h'):
 FW T (.func f) args {h with log:=[]} (KO K Q base dst e ds h.log):=by
 refine .func (CW.mono H ?_)
 rintro r h2 ⟨hx,v,rfl,hq⟩
 exact⟨hK v _ hx.call (hlog v h2 _ hq)⟩
theorem wZ{base b:Nat}{o:bJ}{S:Nat→Prop}(hl:∀z∈h.log,S z)(hb:S b):∀z∈(h.wr base b o).log,S z:=by
 intro z hz
 simp only[Heap.wr,cond_eq_ite]at hz
 split at hz
 ·split at hz
  ·exact hl z hz
  ·rcases List.mem_cons.1 hz with rfl|hz
   ·exact hb
   ·exact hl z hz
 ·exact hl z hz
end Go.A
end
section
namespace Go.A
variable {T:Nat→Option ak} {base:Nat} {rnd:Option Nat} {Q:XQ} {e:Env} {ds:Dfs} {h:Heap}
theorem zF{k k':IntKind}{n m:Int}{x:Operand}(hx:ev h e x=some (.int k' n))(hm:fJ k n=m):aop h base e (.conv (.int k) x)=some (.val (.int k m) h):=by
 subst hm;simp only[aop,hx,cg,oC,fG]
theorem EA{len size i:Nat}{k:IntKind}{x y:Operand}{cs:Array Value}{v:Value}(hx:ev h e x=some (.agg cs))(hy:ev h e y=some (.int k (i:Nat)))(hi:i<len)(hv:cE cs.toList (i*size)=some v):aop h base e (.qE len size none x y)=some (.val v h):=by
 have:(.int k (i:Nat):Value)= .int k (Int.ofNat i):=rfl
 rw[this]at hy
 simp only[aop,hx,hy,gz hi,cond_true,hv,cg]
def mi(a b:Int):Int:=if b<a then b else a
theorem qn{x y:Operand}{a b:Int}(hx:ev h e x=some (.int .i64 a))(hy:ev h e y=some (.int .i64 b)):aop h base e (.dM false [x,y])=some (.val (.int .i64 (mi a b)) h):=by
 simp only[aop,evs,hx,hy,mmA,if_true,cg,mi];rfl
theorem nU{n:Nat}(h2:n<18446744073709551616):fJ .u64 (n:Int)=n:=by
 have e1:((n:Nat):Int)=Int.ofNat n:=rfl
 rw[e1]
 simp only[fJ,gz h2,cond_true]
theorem Ms{a b:Nat}(ha:a<18446744073709551616)(hb:b<18446744073709551616):aC .or (.int .u64 a) (.int .u64 b)=some (.int .u64 ((Nat.lor a b:Nat):Int)):=by
 have e1:((a:Nat):Int)=Int.ofNat a:=rfl
 have e2:((b:Nat):Int)=Int.ofNat b:=rfl
 rw[e1,e2]
 simp only[aC,arith,lY,gz ha,gz hb,Bool.and_self,cond_true,if_true]
 rfl
theorem oF{a b:Nat}(ha:a<18446744073709551616)(hb:b<18446744073709551616):aC .and (.int .u64 a) (.int .u64 b)=some (.int .u64 ((Nat.land a b:Nat):Int)):=by
 have e1:((a:Nat):Int)=Int.ofNat a:=rfl
 have e2:((b:Nat):Int)=Int.ofNat b:=rfl
 rw[e1,e2]
 simp only[aC,arith,lY,gz ha,gz hb,Bool.and_self,cond_true,if_true]
 rfl
theorem qX{a n:Nat}{k:IntKind}(hn:n≤64):aC .shr (.int .u64 a) (.int k n)=some (.int .u64 ((Nat.shiftRight a n:Nat):Int)):=by
 have e1:((a:Nat):Int)=Int.ofNat a:=rfl
 have e2:((n:Nat):Int)=Int.ofNat n:=rfl
 rw[e1,e2]
 simp only[aC,mB,Nat.min_eq_left hn]
 rfl
theorem qw{a b:Nat}(h:a+b<18446744073709551616):aC .add (.int .u64 a) (.int .u64 b)=some (.int .u64 ((a+b:Nat):Int)):=lM (by rw[←Int.natCast_add];exact nU h)
theorem Ln{a:Nat}:aC .rem (.int .i64 a) (.int .i64 8)=some (.int .i64 ((a % 8:Nat):Int)):=by
 have e:(a:Int).tmod 8=((a % 8:Nat):Int):=by rw[Int.tmod_eq_emod_of_nonneg (by omega)];omega
 simp[aC,arith,e]
theorem Kj{a:Nat}(h1:a<9223372036854775808):aC .quo (.int .i64 a) (.int .i64 8)=some (.int .i64 ((a / 8:Nat):Int)):=by
 have e:fJ .i64 ((a:Int).tdiv 8)=((a / 8:Nat):Int):=by
  rw[Int.tdiv_eq_ediv_of_nonneg (by omega),bL (by omega) (by omega)];omega
 have e2:aC .quo (.int .i64 a) (.int .i64 8)=some (.int .i64 (fJ .i64 ((a:Int).tdiv 8))):=rfl
 rw[e2,e]
end Go.A
end
section
namespace Go.A
variable {T:Nat→Option ak} {base:Nat} {rnd:Option Nat} {Q:XQ} {e:Env} {ds:Dfs} {h:Heap}
theorem tq{z:Nat}:∀{m l:List Nat},z∈l→z∈aB base l m
 |[],l,h=>h
 |b::m,l,h=>by
  simp only[aB]
  refine tq (m:=m) ?_
  rw[cond_eq_ite,cond_eq_ite]
  split
  ·split
   ·exact h
   ·exact List.mem_cons_of_mem _ h
  ·exact h
theorem mem_merge{z:Nat}(hz:z<base):∀{m l:List Nat},z∈m→z∈aB base l m
 |b::m,l,h=>by
  simp only[aB]
  rcases List.mem_cons.1 h with rfl|h
  ·refine tq ?_
   rw[gz hz,cond_true,cond_eq_ite]
   split
   ·rename_i hh;exact iW.1 hh
   ·exact List.mem_cons_self ..
  ·exact mem_merge hz h
theorem tN{l:Nat}{a:Env}{b:List Nat}{c d:aX}{st:Nat}{p:bw}(hl:h.get l=some (.loop a b c d st p))(hb:l<base):∀{lg:List Nat},l∈lg→fQ h base lg=false
 |x::lg,hm=>by
  have ih:l∈lg→fQ h base lg=false:=tN hl hb
  by_cases hx:x=l
  ·subst hx
   simp only[fQ,gz hb,cond_true,hl]
  ·have hm':l∈lg:=by rcases List.mem_cons.1 hm with h1|h1;exact absurd h1.symm hx;exact h1
   simp only[fQ,cond_eq_ite,ih hm']
   split
   ·split<;>simp
   ·rfl
theorem Bj{h1:Heap}{v:Value}{l:Nat}{a:Env}{b:List Nat}{c d:aX}{st:Nat}{p:bw}(hl:h1.get l=some (.loop a b c d st p))(hb:l<h.next)(hm:l∈h1.log):gcA h h1 v=h1:=by
 unfold gcA
 rw[tN hl hb hm,Bool.and_false,cond_false]
theorem uN{b:Nat}{o:bJ}(hb:b<base):(h.wr base b o).log=if fA h.log b=true then h.log else b::h.log:=by
 unfold Heap.wr
 rw[gz hb]
 simp only[cond_eq_ite,if_true]
theorem ew{b z:Nat}{o:bJ}(hz:z∈(h.wr base b o).log):z=b∨z∈h.log:=by
 by_cases hb:b<base
 ·rw[uN hb]at hz
  by_cases hh:fA h.log b=true
  ·rw[if_pos hh]at hz;exact .inr hz
  ·rw[if_neg hh]at hz;exact List.mem_cons.1 hz
 ·rw[Heap.aG (by omega)]at hz;exact .inr hz
theorem oN{b:Nat}{o:bJ}(hb:b<base):b∈(h.wr base b o).log:=by
 rw[uN hb]
 by_cases hh:fA h.log b=true
 ·rw[if_pos hh];exact iW.1 hh
 ·rw[if_neg hh];exact List.mem_cons_self ..
structure YQX (l:Nat) (L LX:bJ) (lo N n:Nat) (R S:Heap→Prop) (x:bw) (e:Env) (ds:Dfs) (h3:Heap):Prop where
 busy:∃o,h3.get l=some o∧busy o=true
 log:∀z∈h3.log,lo≤z∧z<N
 rel:(x= .normal∧∀h5:Heap,n≤h5.next→(∀z,z<n→z≠l→h5.get z=h3.get z)→h5.get l=some L→R h5)∨(x= .ret∧∀h5:Heap,h5.next=h3.next→(∀z,z≠l→h5.get z=h3.get z)→h5.get l=some LX→S h5)
structure YAX (T:Nat→Option ak) (l:Nat) (e:Env) (ps:List Nat) (asg body:aX) (lo N n:Nat) (R S:Heap→Prop) (x:bw) (e2:Env) (ds2:Dfs) (h2:Heap):Prop where
 x:x= .normal
 loop:h2.get l=some (.loop e ps asg body 0 .normal)
 body:WE T n (some l) body (YQX l (.loop e ps asg body 0 .normal) (.loop e ps asg body 2 .ret) lo N n R S) e2 ds2 (h2.wr 0 l (.loop e ps asg body 1 .normal))
theorem FW.E6(hp:bA T){l lo N:Nat}{e e1:Env}{ps:List Nat}{asg body:aX}{args:List Value}{R S:Heap→Prop}(hl:h.get l=some (.loop e ps asg body 0 .normal))(he:ia e ps args=some e1)(hlN:l<h.next)(hlo:lo≤l∧l<N)
 (H:WE T h.next (some l) asg (YAX T l e ps asg body lo N h.next R S) e1 [] h):
 FW T (.yield l) args h fun r h'=>(∀z∈h'.log,lo≤z∧z<N)∧(r= .ret (.bool true)∧R h'∨r= .ret (.bool false)∧l∈h'.log∧S h'):=by
 obtain⟨x,e2,ds2,h2,⟨m,hm⟩,⟨rfl,hl2,H2⟩⟩:=H.ok
 obtain⟨x3,e3,ds3,h3,⟨m3,hm3⟩,⟨⟨o,ho,hb⟩,hlog,hrel⟩⟩:=H2.ok
 have hnr:notReady (h2.get l)=false:=by rw[hl2];rfl
 have hloop:∃a b c d p,o= .loop a b c d 1 p:=by
  unfold A.busy at hb
  split at hb
  ·exact⟨_,_,_,_,_,rfl⟩
  ·cases hb
 obtain⟨oa,ob,oc,od,op,rfl⟩:=hloop
 rcases hrel with⟨rfl,hrel⟩|⟨rfl,hrel⟩
 ·have A1:=(fq.all hp m).exec _ _ _ _ _ _ _ _ _ _ (hm m (Nat.le_refl _)) (Nat.le_refl _)
  have A2:=(fq.all hp m3).exec _ _ _ _ _ _ _ _ _ _ (hm3 m3 (Nat.le_refl _)) A1.next
  have A3:AS 0 h (h3.wr 0 l (.loop e ps asg body 0 .normal)):=((A1.zero.trans (AS.wr 0 h2 l _)).trans A2.zero).trans (AS.wr 0 h3 l _)
  obtain⟨g1,g2,g3⟩:=uT (v:= .bool true) A3
  refine⟨.ret (.bool true),gcA h (h3.wr 0 l (.loop e ps asg body 0 .normal)) (.bool true),⟨m+m3+1,fun n hn=> ?_⟩,?_, .inl ⟨rfl,?_⟩⟩
  ·obtain⟨k,rfl⟩:∃k,n=k+1:=⟨n-1,by omega⟩
   have q1:=hm k (by omega)
   have q2:=hm3 k (by omega)
   rw[←wr0]at q2
   simp only[fU,hl,he,q1,hnr,cond_false,q2,ho]
   rfl
  ·rw[g3];exact hlog
  ·refine hrel _ g2 (fun z hz hne=>(g1 z hz).trans (Heap.fP hne)) ((g1 l hlN).trans ?_)
   exact Heap.bC ho
 ·refine⟨.ret (.bool false),h3.wr h.next l (.loop e ps asg body 2 .ret),⟨m+m3+1,fun n hn=> ?_⟩,?_, .inr ⟨rfl,oN hlN,?_⟩⟩
  ·obtain⟨k,rfl⟩:∃k,n=k+1:=⟨n-1,by omega⟩
   have q1:=hm k (by omega)
   have q2:=hm3 k (by omega)
   rw[←wr0]at q2
   simp only[fU,hl,he,q1,hnr,cond_false,q2,ho]
  ·intro z hz
   rcases ew hz with rfl|hz
   ·exact hlo
   ·exact hlog z hz
  ·exact hrel _ rfl (fun z hne=>Heap.fP hne) (Heap.bC ho)
structure Dt {α:Type} (T:Nat→Option ak) (lo N l:Nat) (V:α→Value) (all:List α) (P:List α→Heap→Prop) (S:Heap→Prop):Prop where
 qO:∀done x H,x∈all→Rdy H→N≤H.next→P done H→FW T (.yield l) [V x] H fun r H'=>(∀z∈H'.log,lo≤z∧z<N)∧(r= .ret (.bool true)∧P (done++[x]) H'∨r= .ret (.bool false)∧l∈H'.log∧S H')
 eW:∀done H H',P done H→N≤H'.next→(∀x,x<N→H'.get x=H.get x)→P done H'
 K8:∀H m,S H→S {H with log:=m}
 El:∀H,S H→∃a b c d,H.get l=some (.loop a b c d 2 .ret)
theorem Dt.call(hp:bA T){α:Type}{lo N l:Nat}{V:α→Value}{all:List α}{P:List α→Heap→Prop}{S:Heap→Prop}(Y:Dt T lo N l V all P S){K:Env→Dfs→Heap→Prop}{dst:Option Nat}{done:List α}{x:α}(hx:x∈all)(hw:WF h)(hlo:lo≤h.next)(hN:N≤h.next)(hlb:l<base)(hP:P done h)
 (hK:∀h',Lk lo h h'→(∀z,N≤z→z<h.next→h'.get z=h.get z)→P (done++[x]) h'→K (bZ e dst (.bool true)) ds h')
 (hX:∀h',Lk lo h h'→l∈h'.log→S h'→K (bZ e dst (.bool false)) ds h'):FW T (.yield l) [V x] {h with log:=[]} (KO K Q base dst e ds h.log):=by
 refine FW.mono' (FW.zN hp (Y.qO done x _ hx (.of hw) hN (Y.eW _ _ _ hP hN fun _ _=>rfl)) rfl) ?_
 rintro r h2 ⟨hA,hl,hq⟩
 have hk:Lk lo {h with log:=[]} h2:=Lk.oD hA hlo fun z hz=>(hl z hz).1
 rcases hq with⟨rfl,hq⟩|⟨rfl,hm,hq⟩
 ·refine⟨hK _ hk.call (fun z h1 h3=> ?_) (Y.eW _ _ _ hq (Nat.le_trans hN hA.next) fun _ _=>rfl)⟩
  exact hA.same z h3 h3 (lZ fun hm=>by have:=(hl z hm).2;omega)
 ·exact⟨hX _ hk.call (mem_merge hlb hm) (Y.K8 _ _ hq)⟩
def GrX(T:Nat→Option ak)(f:Nat)(args:List Value)(h:Heap)(lo:Nat)(P S:Heap→Prop):Prop:=CW T f args h fun r h'=>Lk lo h h'∧∃v,r= .ret v∧(P h'∨S h')
structure Jd (rs:List (Nat×Option (Option Nat))) (lo l:Nat) (P S:Heap→Prop) (x:bw) (e:Env) (ds:Dfs) (h1:Heap):Prop where
 ok:(x= .normal∨x= .ret)∧ds=[]∧eE lo h1.log∧(∃vs,cC h1 e rs=some vs)∧(P h1∨l∈h1.log∧S h1)
theorem ye{rs:List (Nat×Option (Option Nat))}{lo l:Nat}{P S:Heap→Prop}{vs:List Value}(hl:eE lo h.log)(hr:cC h e rs=some vs)(hm:l∈h.log)(hq:S h):Jd rs lo l P S .ret e [] h:=⟨⟨.inr rfl,rfl,hl,⟨vs,hr⟩, .inr ⟨hm,hq⟩⟩⟩
theorem y6{rs:List (Nat×Option (Option Nat))}{lo l:Nat}{P S:Heap→Prop}{vs:List Value}(hl:eE lo h.log)(hr:cC h e rs=some vs)(hq:P h):Jd rs lo l P S .normal e [] h:=⟨⟨.inl rfl,rfl,hl,⟨vs,hr⟩, .inl hq⟩⟩
theorem GrX.of(hp:bA T){f:Nat}{args:List Value}{c:aX}{rs:List (Nat×Option (Option Nat))}{lo l:Nat}{P S:Heap→Prop}(hf:T f=some (.code c rs))(hlo:lo≤h.next)(hlN:l<h.next)
 (hP:∀h1 h2:Heap,h.next≤h2.next→(∀x,x<h.next→h2.get x=h1.get x)→P h1→P h2)(hS:∀H,S H→∃a b c d,H.get l=some (.loop a b c d 2 .ret))(H:WE T h.next none c (Jd rs lo l P S) (ez 0 args) [] h):GrX T f args h lo P S:=by
 obtain⟨x,e,ds,h1,⟨m,hm⟩,⟨hx,rfl,hl,⟨vs,hvs⟩,hq⟩⟩:=H.ok
 have hA:=(fq.all hp m).exec _ _ _ _ _ _ _ _ _ _ (hm m (Nat.le_refl _)) (Nat.le_refl _)
 obtain⟨g1,g2,g3,g4⟩:=mU (v:=fE vs) hA
 have key:Lk lo h (gcA h h1 (fE vs))∧∃v,Res.ret (fE vs)= .ret v∧(P (gcA h h1 (fE vs))∨S (gcA h h1 (fE vs))):=by
  refine⟨Lk.oD (hA.gc' _) hlo (by rw[g3];exact hl),_,rfl,?_⟩
  rcases hq with hq|⟨hml,hq⟩
  ·exact .inl (hP _ _ g2 g1 hq)
  ·obtain⟨a,b,c,d,hlp⟩:=hS _ hq
   rw[Bj hlp hlN hml]
   exact .inr hq
 refine CW.code hf ⟨x,e,[],h1,⟨m,hm⟩,?_⟩
 unfold vI
 rcases hx with rfl|rfl<;>(simp only[hvs];exact key)
theorem qi{base:Nat}:∀{m l:List Nat},eE base m→aB base l m=l
 |[],_,_=>rfl
 |b::m,l,h=>by
  have hb:=h b (List.mem_cons_self ..)
  simp only[aB,pn (show¬b<base by omega),cond_false]
  exact qi fun x hx=>h x (List.mem_cons_of_mem _ hx)
theorem vr{h1:Heap}{f:Operand}{g lo:Nat}{first cap:Array Value}{ps:List Nat}{asg body:aX}{P S:Heap→Prop}(hr:mI h1 rnd=true)(hf:ev h1 e f=some (.func (.func g) first cap))(hnc:fT (T g)=false)
 (hlo:base≤lo)(hlo2:lo≤h1.next)(hlog:h1.log=[])(w1:WF h1)
 (HG:GrX T g (dJ first.toList (dJ [.func (.yield h1.next) #[] #[]] cap.toList)) {h1.push (.loop e ps asg body 0 .normal)with log:=[]} lo P S)
 (hP:∀H,P H→∃a b c d,H.get h1.next=some (.loop a b c d 0 .normal))(hS:∀H,S H→∃a b c d,H.get h1.next=some (.loop a b c d 2 .ret))
 (K1:∀h2 h3:Heap,h3.log=[]→WF h3→h1.next<h3.next→h3.next=h2.next→(∀z,z≠h1.next→h3.get z=h2.get z)→P h2→Q .normal e ds h3)
 (K2:∀h2 h3:Heap,h3.log=[]→WF h3→h1.next<h3.next→h3.next=h2.next→(∀z,z≠h1.next→h3.get z=h2.get z)→S h2→Q .ret e ds h3):WE T base rnd (.rangeFunc f ps asg body) Q e ds h1:=by
 refine sN hr hf hnc (CW.mono HG ?_)
 rintro r h2 ⟨hk,v,rfl,hq⟩
 have hl2:eE base h2.log:=fun z hz=>Nat.le_trans hlo (hk.log (eE.nil _) z hz)
 have q1:(({h2 with log:=aB base h1.log h2.log}:Heap).wr base h1.next .dead).log=[]:=by
  rw[Heap.aG (by omega)]
  show aB base h1.log h2.log=[]
  rw[qi hl2,hlog]
 have q2:WF (({h2 with log:=aB base h1.log h2.log}:Heap).wr base h1.next .dead):=((hk.wf ((w1.push _).log _)).log _).as (AS.wr _ _ _ _)
 have q3:h1.next<h2.next:=hk.next
 have q4:∀z,z≠h1.next→(({h2 with log:=aB base h1.log h2.log}:Heap).wr base h1.next .dead).get z=h2.get z:=fun z hne=>Heap.fP hne
 rcases hq with hq|hq
 ·obtain⟨a,b,c,d,hl⟩:=hP _ hq
  exact⟨_,rfl,_,_,_,_,_,_,hl,rfl,K1 h2 _ q1 q2 q3 rfl q4 hq⟩
 ·obtain⟨a,b,c,d,hl⟩:=hS _ hq
  exact⟨_,rfl,_,_,_,_,_,_,hl,rfl,K2 h2 _ q1 q2 q3 rfl q4 hq⟩
end Go.A
end
section
namespace Go.A
variable {T:Nat→Option ak} {base:Nat} {rnd:Option Nat} {Q:XQ} {e:Env} {ds:Dfs} {h:Heap}
structure YQM (px:bw) (l:Nat) (L LX:bJ) (lo N n:Nat) (R S:Heap→Prop) (x:bw) (e:Env) (ds:Dfs) (h3:Heap):Prop where
 busy:∃o,h3.get l=some o∧busy o=true
 log:∀z∈h3.log,lo≤z∧z<N
 rel:(x= .normal∧∀h5:Heap,n≤h5.next→(∀z,z<n→z≠l→h5.get z=h3.get z)→h5.get l=some L→R h5)∨(x=px∧∀h5:Heap,h5.next=h3.next→(∀z,z≠l→h5.get z=h3.get z)→h5.get l=some LX→S h5)
structure YAM (px:bw) (T:Nat→Option ak) (l:Nat) (e:Env) (ps:List Nat) (asg body:aX) (lo N n:Nat) (R S:Heap→Prop) (x:bw) (e2:Env) (ds2:Dfs) (h2:Heap):Prop where
 x:x= .normal
 loop:h2.get l=some (.loop e ps asg body 0 .normal)
 body:WE T n (some l) body (YQM px l (.loop e ps asg body 0 .normal) (.loop e ps asg body 2 px) lo N n R S) e2 ds2 (h2.wr 0 l (.loop e ps asg body 1 .normal))
theorem FW.Kp(hp:bA T){px:bw}(hpx:px= .ret∨∃i,px= .exit i){l lo N:Nat}{e e1:Env}{ps:List Nat}{asg body:aX}{args:List Value}{R S:Heap→Prop}(hl:h.get l=some (.loop e ps asg body 0 .normal))(he:ia e ps args=some e1)(hlN:l<h.next)(hlo:lo≤l∧l<N)
 (H:WE T h.next (some l) asg (YAM px T l e ps asg body lo N h.next R S) e1 [] h):
 FW T (.yield l) args h fun r h'=>(∀z∈h'.log,lo≤z∧z<N)∧(r= .ret (.bool true)∧R h'∨r= .ret (.bool false)∧l∈h'.log∧S h'):=by
 obtain⟨x,e2,ds2,h2,⟨m,hm⟩,⟨rfl,hl2,H2⟩⟩:=H.ok
 obtain⟨x3,e3,ds3,h3,⟨m3,hm3⟩,⟨⟨o,ho,hb⟩,hlog,hrel⟩⟩:=H2.ok
 have hnr:notReady (h2.get l)=false:=by rw[hl2];rfl
 have hloop:∃a b c d p,o= .loop a b c d 1 p:=by
  unfold A.busy at hb
  split at hb
  ·exact⟨_,_,_,_,_,rfl⟩
  ·cases hb
 obtain⟨oa,ob,oc,od,op,rfl⟩:=hloop
 rcases hrel with⟨rfl,hrel⟩|⟨rfl,hrel⟩
 ·have A1:=(fq.all hp m).exec _ _ _ _ _ _ _ _ _ _ (hm m (Nat.le_refl _)) (Nat.le_refl _)
  have A2:=(fq.all hp m3).exec _ _ _ _ _ _ _ _ _ _ (hm3 m3 (Nat.le_refl _)) A1.next
  have A3:AS 0 h (h3.wr 0 l (.loop e ps asg body 0 .normal)):=((A1.zero.trans (AS.wr 0 h2 l _)).trans A2.zero).trans (AS.wr 0 h3 l _)
  obtain⟨g1,g2,g3⟩:=uT (v:= .bool true) A3
  refine⟨.ret (.bool true),gcA h (h3.wr 0 l (.loop e ps asg body 0 .normal)) (.bool true),⟨m+m3+1,fun n hn=> ?_⟩,?_, .inl ⟨rfl,?_⟩⟩
  ·obtain⟨k,rfl⟩:∃k,n=k+1:=⟨n-1,by omega⟩
   have q1:=hm k (by omega)
   have q2:=hm3 k (by omega)
   rw[←wr0]at q2
   simp only[fU,hl,he,q1,hnr,cond_false,q2,ho]
   rfl
  ·rw[g3];exact hlog
  ·refine hrel _ g2 (fun z hz hne=>(g1 z hz).trans (Heap.fP hne)) ((g1 l hlN).trans ?_)
   exact Heap.bC ho
 ·refine⟨.ret (.bool false),h3.wr h.next l (.loop e ps asg body 2 x3),⟨m+m3+1,fun n hn=> ?_⟩,?_, .inr ⟨rfl,oN hlN,?_⟩⟩
  ·obtain⟨k,rfl⟩:∃k,n=k+1:=⟨n-1,by omega⟩
   have q1:=hm k (by omega)
   have q2:=hm3 k (by omega)
   rw[←wr0]at q2
   rcases hpx with rfl|⟨i,rfl⟩<;>simp only[fU,hl,he,q1,hnr,cond_false,q2,ho]
  ·intro z hz
   rcases ew hz with rfl|hz
   ·exact hlo
   ·exact hlog z hz
  ·exact hrel _ rfl (fun z hne=>Heap.fP hne) (Heap.bC ho)
structure IA {α:Type} (px:bw) (T:Nat→Option ak) (lo N l:Nat) (V:α→List Value) (all:List α) (P:List α→Heap→Prop) (S:Heap→Prop):Prop where
 qO:∀done x H,x∈all→Rdy H→N≤H.next→P done H→FW T (.yield l) (V x) H fun r H'=>(∀z∈H'.log,lo≤z∧z<N)∧(r= .ret (.bool true)∧P (done++[x]) H'∨r= .ret (.bool false)∧l∈H'.log∧S H')
 eW:∀done H H',P done H→N≤H'.next→(∀x,x<N→H'.get x=H.get x)→P done H'
 K8:∀H m,S H→S {H with log:=m}
 El:∀H,S H→∃a b c d,H.get l=some (.loop a b c d 2 px)
theorem IA.call(hp:bA T){α:Type}{px:bw}{lo N l:Nat}{V:α→List Value}{all:List α}{P:List α→Heap→Prop}{S:Heap→Prop}(Y:IA px T lo N l V all P S){K:Env→Dfs→Heap→Prop}{dst:Option Nat}{done:List α}{x:α}(hx:x∈all)(hw:WF h)(hlo:lo≤h.next)(hN:N≤h.next)(hlb:l<base)(hP:P done h)
 (hK:∀h',Lk lo h h'→(∀z,N≤z→z<h.next→h'.get z=h.get z)→P (done++[x]) h'→K (bZ e dst (.bool true)) ds h')
 (hX:∀h',Lk lo h h'→l∈h'.log→S h'→K (bZ e dst (.bool false)) ds h'):FW T (.yield l) (V x) {h with log:=[]} (KO K Q base dst e ds h.log):=by
 refine FW.mono' (FW.zN hp (Y.qO done x _ hx (.of hw) hN (Y.eW _ _ _ hP hN fun _ _=>rfl)) rfl) ?_
 rintro r h2 ⟨hA,hl,hq⟩
 have hk:Lk lo {h with log:=[]} h2:=Lk.oD hA hlo fun z hz=>(hl z hz).1
 rcases hq with⟨rfl,hq⟩|⟨rfl,hm,hq⟩
 ·refine⟨hK _ hk.call (fun z h1 h3=> ?_) (Y.eW _ _ _ hq (Nat.le_trans hN hA.next) fun _ _=>rfl)⟩
  exact hA.same z h3 h3 (lZ fun hm=>by have:=(hl z hm).2;omega)
 ·exact⟨hX _ hk.call (mem_merge hlb hm) (Y.K8 _ _ hq)⟩
theorem GrX.ofM(hp:bA T){px:bw}{f:Nat}{args:List Value}{c:aX}{rs:List (Nat×Option (Option Nat))}{lo l:Nat}{P S:Heap→Prop}(hf:T f=some (.code c rs))(hlo:lo≤h.next)(hlN:l<h.next)
 (hP:∀h1 h2:Heap,h.next≤h2.next→(∀x,x<h.next→h2.get x=h1.get x)→P h1→P h2)(hS:∀H,S H→∃a b c d,H.get l=some (.loop a b c d 2 px))(H:WE T h.next none c (Jd rs lo l P S) (ez 0 args) [] h):GrX T f args h lo P S:=by
 obtain⟨x,e,ds,h1,⟨m,hm⟩,⟨hx,rfl,hl,⟨vs,hvs⟩,hq⟩⟩:=H.ok
 have hA:=(fq.all hp m).exec _ _ _ _ _ _ _ _ _ _ (hm m (Nat.le_refl _)) (Nat.le_refl _)
 obtain⟨g1,g2,g3,g4⟩:=mU (v:=fE vs) hA
 have key:Lk lo h (gcA h h1 (fE vs))∧∃v,Res.ret (fE vs)= .ret v∧(P (gcA h h1 (fE vs))∨S (gcA h h1 (fE vs))):=by
  refine⟨Lk.oD (hA.gc' _) hlo (by rw[g3];exact hl),_,rfl,?_⟩
  rcases hq with hq|⟨hml,hq⟩
  ·exact .inl (hP _ _ g2 g1 hq)
  ·obtain⟨a,b,c,d,hlp⟩:=hS _ hq
   rw[Bj hlp hlN hml]
   exact .inr hq
 refine CW.code hf ⟨x,e,[],h1,⟨m,hm⟩,?_⟩
 unfold vI
 rcases hx with rfl|rfl<;>(simp only[hvs];exact key)
theorem B4{px:bw}{h1:Heap}{f:Operand}{g lo:Nat}{first cap:Array Value}{ps:List Nat}{asg body:aX}{P S:Heap→Prop}(hr:mI h1 rnd=true)(hf:ev h1 e f=some (.func (.func g) first cap))(hnc:fT (T g)=false)
 (hlo:base≤lo)(hlo2:lo≤h1.next)(hlog:h1.log=[])(w1:WF h1)
 (HG:GrX T g (dJ first.toList (dJ [.func (.yield h1.next) #[] #[]] cap.toList)) {h1.push (.loop e ps asg body 0 .normal)with log:=[]} lo P S)
 (hP:∀H,P H→∃a b c d,H.get h1.next=some (.loop a b c d 0 .normal))(hS:∀H,S H→∃a b c d,H.get h1.next=some (.loop a b c d 2 px))
 (K1:∀h2 h3:Heap,h3.log=[]→WF h3→h1.next<h3.next→h3.next=h2.next→(∀z,z≠h1.next→h3.get z=h2.get z)→P h2→Q .normal e ds h3)
 (K2:∀h2 h3:Heap,h3.log=[]→WF h3→h1.next<h3.next→h3.next=h2.next→(∀z,z≠h1.next→h3.get z=h2.get z)→S h2→Q px e ds h3):WE T base rnd (.rangeFunc f ps asg body) Q e ds h1:=by
 refine sN hr hf hnc (CW.mono HG ?_)
 rintro r h2 ⟨hk,v,rfl,hq⟩
 have hl2:eE base h2.log:=fun z hz=>Nat.le_trans hlo (hk.log (eE.nil _) z hz)
 have q1:(({h2 with log:=aB base h1.log h2.log}:Heap).wr base h1.next .dead).log=[]:=by
  rw[Heap.aG (by omega)]
  show aB base h1.log h2.log=[]
  rw[qi hl2,hlog]
 have q2:WF (({h2 with log:=aB base h1.log h2.log}:Heap).wr base h1.next .dead):=((hk.wf ((w1.push _).log _)).log _).as (AS.wr _ _ _ _)
 have q3:h1.next<h2.next:=hk.next
 have q4:∀z,z≠h1.next→(({h2 with log:=aB base h1.log h2.log}:Heap).wr base h1.next .dead).get z=h2.get z:=fun z hne=>Heap.fP hne
 rcases hq with hq|hq
 ·obtain⟨a,b,c,d,hl⟩:=hP _ hq
  exact⟨_,rfl,_,_,_,_,_,_,hl,rfl,K1 h2 _ q1 q2 q3 rfl q4 hq⟩
 ·obtain⟨a,b,c,d,hl⟩:=hS _ hq
  exact⟨_,rfl,_,_,_,_,_,_,hl,rfl,K2 h2 _ q1 q2 q3 rfl q4 hq⟩
theorem GF{b:aX}(H:WE T base rnd b Q e ds h):WE T base rnd (.scope b) Q e ds h:=by
 obtain⟨x,e',ds',h',⟨m,h1⟩,h2⟩:=H.ok
 exact⟨_,_,_,_,⟨m+1,fun n hn=>by
  obtain⟨k,rfl⟩:∃k,n=k+1:=⟨n-1,by omega⟩
  simp only[bT,h1 k (by omega)]⟩,h2⟩
end Go.A
end
section
namespace Go.A
variable {T:Nat→Option ak} {base:Nat} {rnd:Option Nat} {Q:XQ} {e:Env} {ds:Dfs} {h:Heap}
def kN(h:Heap)(q:Nat):Prop:=∃vs own t,h.get q=some (.cells vs own t)∧cN vs=false
theorem rH{q n:Nat}(hq:q<n)(hd:kN h q):∀{l:List Nat},q∈l→fQ h n l=false
 |b::l,hm=>by
  obtain⟨vs,own,t,g,hs⟩:=hd
  rcases List.mem_cons.1 hm with rfl|hm
  ·simp only[fQ,gz hq,cond_true,g,hs,cond_false]
  ·have ih:=rH hq ⟨vs,own,t,g,hs⟩ hm
   simp only[fQ]
   split<;>simp[ih,cond_eq_ite]
theorem AT{h1:Heap}{v:Value}{q:Nat}(hq:q<h.next)(hm:q∈h1.log)(hd:kN h1 q):gcA h h1 v=h1:=by
 unfold gcA
 rw[rH hq hd hm,Bool.and_false]
 rfl
structure YQK (l q:Nat) (L:bJ) (lo n:Nat) (R:Heap→Prop) (x:bw) (e:Env) (ds:Dfs) (h3:Heap):Prop where
 x:x= .normal
 busy:∃o,h3.get l=some o∧busy o=true
 log:∀z∈h3.log,lo≤z
 kept:q∈h3.log
 Pr:kN h3 q
 rel:R (h3.wr 0 l L)
structure YAK (T:Nat→Option ak) (l q:Nat) (e:Env) (ps:List Nat) (asg body:aX) (lo n:Nat) (R:Heap→Prop) (x:bw) (e2:Env) (ds2:Dfs) (h2:Heap):Prop where
 x:x= .normal
 loop:h2.get l=some (.loop e ps asg body 0 .normal)
 body:WE T n (some l) body (YQK l q (.loop e ps asg body 0 .normal) lo n R) e2 ds2 (h2.wr 0 l (.loop e ps asg body 1 .normal))
theorem FW.Ke(hp:bA T){l q lo:Nat}{e e1:Env}{ps:List Nat}{asg body:aX}{args:List Value}{R:Heap→Prop}(hl:h.get l=some (.loop e ps asg body 0 .normal))(he:ia e ps args=some e1)(hlN:l<h.next)(hq:q<h.next)(hql:q≠l)
 (H:WE T h.next (some l) asg (YAK T l q e ps asg body lo h.next R) e1 [] h):FW T (.yield l) args h fun r h'=>r= .ret (.bool true)∧(∀z∈h'.log,lo≤z)∧q∈h'.log∧R h':=by
 obtain⟨x,e2,ds2,h2,⟨m,hm⟩,⟨rfl,hl2,H2⟩⟩:=H.ok
 obtain⟨x3,e3,ds3,h3,⟨m3,hm3⟩,⟨rfl,⟨o,ho,hb⟩,hlog,hk,⟨vs,own,t,gq,hs⟩,hrel⟩⟩:=H2.ok
 have hnr:notReady (h2.get l)=false:=by rw[hl2];rfl
 have hloop:∃a b c d p,o= .loop a b c d 1 p:=by
  unfold A.busy at hb
  split at hb
  ·exact⟨_,_,_,_,_,rfl⟩
  ·cases hb
 obtain⟨oa,ob,oc,od,op,rfl⟩:=hloop
 have hgc:gcA h (h3.wr 0 l (.loop e ps asg body 0 .normal)) (.bool true)=h3.wr 0 l (.loop e ps asg body 0 .normal):=AT (q:=q) hq (by rw[Heap.aG (by omega)];exact hk) ⟨vs,own,t,(Heap.fP hql).trans gq,hs⟩
 refine⟨.ret (.bool true),gcA h (h3.wr 0 l (.loop e ps asg body 0 .normal)) (.bool true),⟨m+m3+1,fun n hn=> ?_⟩,rfl,?_,?_,?_⟩
 ·obtain⟨k,rfl⟩:∃k,n=k+1:=⟨n-1,by omega⟩
  have q1:=hm k (by omega)
  have q2:=hm3 k (by omega)
  rw[←wr0]at q2
  simp only[fU,hl,he,q1,hnr,cond_false,q2,ho]
  rfl
 ·rw[hgc,Heap.aG (by omega)];exact hlog
 ·rw[hgc,Heap.aG (by omega)];exact hk
 ·rw[hgc];exact hrel
structure Pt {α:Type} (T:Nat→Option ak) (lo N l q:Nat) (V:α→Value) (all:List α) (P:List α→Heap→Prop):Prop where
 hq:q<N
 qO:∀done x rest H,all=done++x::rest→Rdy H→N≤H.next→P done H→FW T (.yield l) [V x] H fun r H'=>r= .ret (.bool true)∧(∀z∈H'.log,lo≤z)∧q∈H'.log∧kN H' q∧P (done++[x]) H'
 eW:∀done H H',P done H→H.next≤H'.next→(∀x,x<H.next→H'.get x=H.get x)→P done H'
theorem Gr.ofK(hp:bA T){f:Nat}{args:List Value}{c:aX}{rs:List (Nat×Option (Option Nat))}{lo:Nat}{Q Q':Value→Heap→Prop}(hf:T f=some (.code c rs))(hlo:lo≤h.next)
 (hQ:∀v h1,AS h.next h h1→Q v h1→Q' v (gcA h h1 v))(H:WE T h.next none c (Ll rs lo Q) (ez 0 args) [] h):Gr T f args h lo Q':=by
 obtain⟨x,e,ds,h1,⟨m,hm⟩,⟨hx,rfl,hl,vs,hvs,hq⟩⟩:=H.ok
 have hA:=(fq.all hp m).exec _ _ _ _ _ _ _ _ _ _ (hm m (Nat.le_refl _)) (Nat.le_refl _)
 obtain⟨g1,g2,g3,g4⟩:=mU (v:=fE vs) hA
 have key:Lk lo h (gcA h h1 (fE vs))∧∃v,Res.ret (fE vs)= .ret v∧Q' v (gcA h h1 (fE vs)):=
  ⟨Lk.oD (hA.gc' _) hlo (by rw[g3];exact hl),_,rfl,hQ _ _ hA hq⟩
 refine CW.code hf ⟨x,e,[],h1,⟨m,hm⟩,?_⟩
 unfold vI
 rcases hx with rfl|rfl<;>(simp only[hvs];exact key)
theorem BS{h1:Heap}{f:Operand}{g lo:Nat}{first cap:Array Value}{ps:List Nat}{asg body:aX}{P:Heap→Prop}(hr:mI h1 rnd=true)(hf:ev h1 e f=some (.func (.func g) first cap))(hnc:fT (T g)=false)
 (hlo:base≤lo)(hlo2:lo≤h1.next)(hlog:h1.log=[])(w1:WF h1)
 (HG:Gr T g (dJ first.toList (dJ [.func (.yield h1.next) #[] #[]] cap.toList)) {h1.push (.loop e ps asg body 0 .normal)with log:=[]} lo fun v h'=>v= .tuple #[]∧P h')
 (hP:∀H,P H→∃a b c d,H.get h1.next=some (.loop a b c d 0 .normal))
 (K:∀h2 h3:Heap,h3.log=[]→WF h3→h1.next<h3.next→h3.next=h2.next→(∀z,z≠h1.next→h3.get z=h2.get z)→(∀z,z<lo→h3.get z=h1.get z)→P h2→Q .normal e ds h3):WE T base rnd (.rangeFunc f ps asg body) Q e ds h1:=by
 refine sN hr hf hnc (CW.mono HG ?_)
 rintro r h2 ⟨hk,v,rfl,rfl,hq⟩
 have hl2:eE base h2.log:=fun z hz=>Nat.le_trans hlo (hk.log (eE.nil _) z hz)
 have q1:(({h2 with log:=aB base h1.log h2.log}:Heap).wr base h1.next .dead).log=[]:=by
  rw[Heap.aG (by omega)]
  show aB base h1.log h2.log=[]
  rw[qi hl2,hlog]
 have q2:WF (({h2 with log:=aB base h1.log h2.log}:Heap).wr base h1.next .dead):=((hk.wf ((w1.push _).log _)).log _).as (AS.wr _ _ _ _)
 have q3:h1.next<h2.next:=hk.next
 have q4:∀z,z≠h1.next→(({h2 with log:=aB base h1.log h2.log}:Heap).wr base h1.next .dead).get z=h2.get z:=fun z hne=>Heap.fP hne
 obtain⟨a,b,c,d,hl⟩:=hP _ hq
 refine⟨_,rfl,_,_,_,_,_,_,hl,rfl,K h2 _ q1 q2 q3 rfl q4 (fun z hz=>(q4 z (by omega)).trans ((hk.old z hz).trans ?_)) hq⟩
 exact Heap.iY (by omega)
end Go.A
end
section
namespace Go.A
variable {T:Nat→Option ak} {base:Nat} {rnd:Option Nat} {Q:XQ} {e:Env} {ds:Dfs} {h:Heap}
structure BO {α:Type} (T:Nat→Option ak) (lo N l q:Nat) (V:α→List Value) (all:List α) (P:List α→Heap→Prop) (W:Heap→Nat→Prop):Prop where
 hq:q<N
 qO:∀done x H,x∈all→done.length<100000→Rdy H→N≤H.next→P done H→FW T (.yield l) (V x) H fun r H'=>r= .ret (.bool true)∧(∀z∈H'.log,lo≤z)∧q∈H'.log∧kN H' q∧P (done++[x]) H'∧(∀z,z<H.next→¬W H z→H'.get z=H.get z)∧(∀z,W H' z→W H z∨H.next≤z)
 eW:∀done H H',P done H→H.next≤H'.next→(∀x,x<H.next→H'.get x=H.get x)→P done H'
 wst:∀done H H',P done H→H.next≤H'.next→(∀x,x<H.next→H'.get x=H.get x)→∀z,W H' z→W H z
 wlt:∀done H z,P done H→W H z→z<H.next
theorem BO.call(hp:bA T){α:Type}{lo N l q:Nat}{V:α→List Value}{all:List α}{P:List α→Heap→Prop}{W:Heap→Nat→Prop}(Y:BO T lo N l q V all P W){K:Env→Dfs→Heap→Prop}{dst:Option Nat}{done:List α}{x:α}(hx:x∈all)(hlen:done.length<100000)(hw:WF h)(hlo:lo≤h.next)(hN:N≤h.next)(hqb:q<base)(hP:P done h)
 (hK:∀h',Lk lo h h'→q∈h'.log∧kN h' q→P (done++[x]) h'→(∀z,z<h.next→¬W h z→h'.get z=h.get z)→(∀z,W h' z→W h z∨h.next≤z)→K (bZ e dst (.bool true)) ds h'):FW T (.yield l) (V x) {h with log:=[]} (KO K Q base dst e ds h.log):=by
 have hP0:P done {h with log:=[]}:=Y.eW _ _ _ hP (Nat.le_refl _) fun _ _=>rfl
 refine FW.mono' (FW.zN hp (Y.qO done x _ hx hlen (.of hw) hN hP0) rfl) ?_
 rintro r h2 ⟨hA,rfl,hl,hm,hd,hq,hk1,hk2⟩
 have hk:Lk lo {h with log:=[]} h2:=Lk.oD hA hlo fun z hz=>hl z hz
 refine⟨hK _ hk.call ⟨mem_merge hqb hm,hd⟩ (Y.eW _ _ _ hq (Nat.le_refl _) fun _ _=>rfl) (fun z hz hn=>hk1 z hz fun q=>hn (Y.wst _ h {h with log:=[]} hP (Nat.le_refl _) (fun _ _=>rfl) z q)) fun z hz=> ?_⟩
 have h3:=Y.wst _ h2 {h2 with log:=aB base h.log h2.log} hq (Nat.le_refl _) (fun _ _=>rfl) z hz
 exact(hk2 z h3).imp (fun q=>Y.wst _ h {h with log:=[]} hP (Nat.le_refl _) (fun _ _=>rfl) z q) id
theorem Dg{α:Type}{lo N l q:Nat}{V:α→List Value}{all done:List α}{P:List α→Heap→Prop}{W:Heap→Nat→Prop}(Y:BO T lo N l q V all P W){v:Value}{h1:Heap}(hq:q<h.next)(hA:AS h.next h h1)(p:v= .tuple #[]∧P done h1∧(((∀x,x<h.next→h1.get x=h.get x)∧P done h)∨q∈h1.log∧kN h1 q)):v= .tuple #[]∧P done (gcA h h1 v):=by
 obtain⟨hv,hP,hm⟩:=p
 refine⟨hv,?_⟩
 rcases hm with⟨he,h0⟩|⟨hm,hd⟩
 ·obtain⟨g1,g2,_⟩:=mU (v:=v) hA
  exact Y.eW _ _ _ h0 g2 fun x hx=>(g1 x hx).trans (he x hx)
 ·rw[AT hq hm hd]
  exact hP
end Go.A
end
section
namespace Go.A
variable {T:Nat→Option ak} {base:Nat} {rnd:Option Nat} {Q:XQ} {e:Env} {ds:Dfs} {h:Heap}
structure Pw (rs:List (Nat×Option (Option Nat))) (S:Nat→Prop) (Q Qp:Value→Heap→Prop) (x:bw) (e:Env) (ds:Dfs) (h1:Heap):Prop where
 ok:ds=[]∧(∀z∈h1.log,S z)∧(((x= .normal∨x= .ret)∧∃vs,cC h1 e rs=some vs∧Q (fE vs) h1)∨∃v,x= .panic v∧Qp v h1)
structure SE (T:Nat→Option ak) (base:Nat) (c:aX) (K:bw→Env→Option Value→Heap→Prop) (e:Env) (p:Option Value) (h:Heap):Prop where
 ok:∃x e' p' h',(∃m,∀n,m≤n→ir T n base c e p h=some (x,e',p',h'))∧K x e' p' h'
variable {p:Option Value} {K:bw→Env→Option Value→Heap→Prop} {KO':Env→Option Value→Heap→Prop}
end Go.A
end
section
namespace Go.A
variable {T:Nat→Option ak} {base:Nat} {rnd:Option Nat} {Q:XQ} {e:Env} {ds:Dfs} {h:Heap}
structure Pq (h:Heap) (rs:List (Nat×Option (Option Nat))) (S:Nat→Prop) (Q:Value→Heap→Prop) (x:bw) (e:Env) (ds:Dfs) (h1:Heap):Prop where
 ok:(x= .normal∨x= .ret)∧ds=[]∧(∀z∈h1.log,S z)∧(h1=h∨∃q,q<h.next∧q∈h1.log∧kN h1 q)∧∃vs,cC h1 e rs=some vs∧Q (fE vs) h1
end Go.A
end
section
namespace Go.A
variable {T:Nat→Option ak} {base:Nat} {rnd:Option Nat} {Q Q':XQ} {e e2:Env} {ds:Dfs} {h:Heap} {os:List bk} {dst:Option Nat} {v u:Value} {x y:Operand} {keep k2:List Nat} {K:Env→Dfs→Heap→Prop}
theorem y1(H:Q .normal e2 ds h)(he:bQ e keep=e2:=by simp only[bQ,bZ,geT,ez,cond_true,cond_false,Nat.beq];exact rfl):KR keep Q .normal e ds h:=LU he H
theorem y3(H:K e2 ds h)(he:bQ e keep=e2:=by simp only[bQ,bZ,geT,ez,cond_true,cond_false,Nat.beq];exact rfl):WO T base rnd (KR keep (KS K Q)) [] e ds h:=eD (LU he (br H))
theorem y4{b:aX}(H:WO T base rnd (KR keep (KS (WE T base rnd b Q) Q)) os e ds h):WE T base rnd (.seq (.region os keep) b) Q e ds h:=aq (aK H)
theorem yM(H:WO T base rnd Q os (bZ e dst v) ds h)(hx:ev h e x=some v:=by exact rfl):WO T base rnd Q (⟨dst, .mov x,none⟩::os) e ds h:=aa (pJ hx) H
theorem yE{i:Nat}{vs:Array Value}(H:WO T base rnd Q os (bZ e dst v) ds h)(hx:ev h e x=some (.tuple vs):=by exact rfl)(hv:cE vs.toList i=some v:=by exact rfl):WO T base rnd Q (⟨dst, .extract x i,none⟩::os) e ds h:=aa (CX hx hv) H
theorem yL{b o sz:Nat}{vs:List Value}{own:Bool}(H:WO T base rnd Q os (bZ e dst v) ds h)(hx:ev h e x=some (.pointer (some ⟨b,o,none⟩)):=by exact rfl)
 (hb:h.get b=some (.cells vs own sz):=by first|assumption|(simp(disch:=first|omega|(simp only[z1,z2];omega))only[z3,z4,z5,z6,z7,z1,z2, *];done)|(simp(disch:=first|omega|(simp only[z1,z2];omega))only[z3,z4,z5,z6,z7,z1,z2, *];exact rfl)|(simp(disch:=first|omega|(simp only[z1,z2];omega)|(simp only[z1,z2];done)|fail)only[z8,z4,z5,z9,z7,z1,z2, *];done)|(simp(disch:=first|omega|(simp only[z1,z2];omega)|(simp only[z1,z2];done)|fail)only[z8,z4,z5,z9,z7,z1,z2, *];exact rfl))
 (hv:cE vs o=some v:=by exact rfl):WO T base rnd Q (⟨dst, .load none x,none⟩::os) e ds h:=aa (dz hx hb hv) H
theorem yN{n b o sz:Nat}{vs l:List Value}{own:Bool}(H:WO T base rnd Q os (bZ e dst (.agg l.toArray)) ds h)(hx:ev h e x=some (.pointer (some ⟨b,o,none⟩)):=by exact rfl)
 (hb:h.get b=some (.cells vs own sz):=by first|assumption|(simp(disch:=first|omega|(simp only[z1,z2];omega))only[z3,z4,z5,z6,z7,z1,z2, *];done)|(simp(disch:=first|omega|(simp only[z1,z2];omega))only[z3,z4,z5,z6,z7,z1,z2, *];exact rfl)|(simp(disch:=first|omega|(simp only[z1,z2];omega)|(simp only[z1,z2];done)|fail)only[z8,z4,z5,z9,z7,z1,z2, *];done)|(simp(disch:=first|omega|(simp only[z1,z2];omega)|(simp only[z1,z2];done)|fail)only[z8,z4,z5,z9,z7,z1,z2, *];exact rfl))
 (hv:cG n (bX o vs)=l:=by exact rfl)(hl:Nat.beq (bR l) n=true:=by exact rfl):WO T base rnd Q (⟨dst, .load (some n) x,none⟩::os) e ds h:=aa (au hx hb hv hl) H
theorem yS{n b o sz:Nat}{vs ws:List Value}(H:WO T base rnd Q os (bZ e dst (.tuple #[])) ds (h.wr base b (.cells ws true sz)))(hx:ev h e x=some (.pointer (some ⟨b,o,none⟩)):=by exact rfl)(hy:ev h e y=some v:=by exact rfl)
 (hb:h.get b=some (.cells vs true sz):=by first|assumption|(simp(disch:=first|omega|(simp only[z1,z2];omega))only[z3,z4,z5,z6,z7,z1,z2, *];done)|(simp(disch:=first|omega|(simp only[z1,z2];omega))only[z3,z4,z5,z6,z7,z1,z2, *];exact rfl)|(simp(disch:=first|omega|(simp only[z1,z2];omega)|(simp only[z1,z2];done)|fail)only[z8,z4,z5,z9,z7,z1,z2, *];done)|(simp(disch:=first|omega|(simp only[z1,z2];omega)|(simp only[z1,z2];done)|fail)only[z8,z4,z5,z9,z7,z1,z2, *];exact rfl))
 (hc:(Nat.beq (bR (cellsOf v)) n&&Nat.ble (o+n) (bR vs)&&eM (cellsOf v))=true:=by exact rfl)(hw:cD vs o (cellsOf v)=ws:=by exact rfl):WO T base rnd Q (⟨dst, .store n x y,none⟩::os) e ds h:=aa (iA hx hy hb hc hw) H
theorem yF{off b o:Nat}(H:WO T base rnd Q os (bZ e dst (.pointer (some ⟨b,o+off,none⟩))) ds h)(hx:ev h e x=some (.pointer (some ⟨b,o,none⟩)):=by exact rfl):WO T base rnd Q (⟨dst, .cS off x,none⟩::os) e ds h:=aa (dg hx) H
theorem yB{vs:List Value}(H:WO T base rnd Q os (bZ e dst (.pointer (some ⟨h.next,0,none⟩))) ds (h.push (.cells vs true 1)))(hx:ev h e x=some v:=by exact rfl)(hc:cellsOf v=vs:=by exact rfl):WO T base rnd Q (⟨dst, .box x,none⟩::os) e ds h:=aa (Nb hx hc) H
theorem yT{c:Operand}(H:WO T base rnd Q os (bZ e dst v) ds h)(hc:ev h e c=some (.bool true):=by exact rfl)(hx:ev h e x=some v:=by exact rfl):WO T base rnd Q (⟨dst, .pick c x y,none⟩::os) e ds h:=aa (pF hc hx) H
theorem yU{c:Operand}(H:WO T base rnd Q os (bZ e dst v) ds h)(hc:ev h e c=some (.bool false):=by exact rfl)(hx:ev h e y=some v:=by exact rfl):WO T base rnd Q (⟨dst, .pick c x y,none⟩::os) e ds h:=aa (kM hc hx) H
theorem yO{op:AOp}{t:Nat}{b:Bool}(H:WO T base rnd Q (⟨dst,op,none⟩::os) e ds h)(hg:geT e t=some (.bool b):=by exact rfl):WO T base rnd Q (⟨dst,op,some (t,b)⟩::os) e ds h:=MH hg H
theorem yP{op:AOp}{t:Nat}{b c:Bool}(H:WO T base rnd Q os (bZ e dst (.tuple #[])) ds h)(hg:geT e t=some (.bool c):=by exact rfl)(hx:c= !b:=by exact rfl):WO T base rnd Q (⟨dst,op,some (t,b)⟩::os) e ds h:=Lf hg hx H
theorem yC{f:Operand}{args:List Operand}{fv:Value}{as:List Value}{g:Nat}{first cap:Array Value}{all:List Value}(H:FW T (.func g) all {h with log:=[]} (KO (WO T base rnd Q os) Q base dst e ds h.log))(hf:ev h e f=some fv:=by exact rfl)(ha:evs h e args=some as:=by exact rfl)(hv:fv= .func (.func g) first cap:=by exact rfl)(hl:dJ first.toList (dJ as cap.toList)=all:=by exact rfl):
 WO T base rnd Q (⟨dst, .call f args,none⟩::os) e ds h:=og (vL hf ha hv hl) H
theorem yX{c:Operand}{a b:aX}(H:WE T base rnd b Q e ds h)(hc:ev h e c=some (.bool false):=by exact rfl):WE T base rnd (.cond c a b) Q e ds h:=EB hc H
theorem yY{c:Operand}{a b:aX}(H:WE T base rnd a Q e ds h)(hc:ev h e c=some (.bool true):=by exact rfl):WE T base rnd (.cond c a b) Q e ds h:=IN hc H
theorem yA{b:Bool}(H:WO T base rnd Q os (bZ e dst (.bool !b)) ds h)(hx:ev h e x=some (.bool b):=by exact rfl):WO T base rnd Q (⟨dst, .un .not x,none⟩::os) e ds h:=aa (tc hx) H
theorem yD{a:Option Addr}{n c:Nat}(H:WO T base rnd Q os (bZ e dst (.int .i64 n)) ds h)(hx:ev h e x=some (.slice a n c):=by exact rfl):WO T base rnd Q (⟨dst, .len 1 x,none⟩::os) e ds h:=aa (JU hx) H
section
variable {k:IntKind} {a b:Int}
theorem yt{op:BinOp}{u:Value}(H:WO T base rnd Q os (bZ e dst (.bool true)) ds h)(hx:ev h e x=some v:=by exact rfl)(hy:ev h e y=some u:=by exact rfl)(hv:aC op v u=some (.bool true):=by first|exact FA (by omega)|exact kZ (by omega)|exact j7 (by omega)|exact oI (by omega)|exact J2 (by omega)|exact Az (by omega)):
 WO T base rnd Q (⟨dst, .bin (.num op) x y,none⟩::os) e ds h:=aa (aF hx hy hv) H
theorem yf{op:BinOp}{u:Value}(H:WO T base rnd Q os (bZ e dst (.bool false)) ds h)(hx:ev h e x=some v:=by exact rfl)(hy:ev h e y=some u:=by exact rfl)(hv:aC op v u=some (.bool false):=by first|exact Ai (by omega)|exact kX (by omega)|exact kT (by omega)|exact nh (by omega)|exact Aw (by omega)|exact KE (by omega)):
 WO T base rnd Q (⟨dst, .bin (.num op) x y,none⟩::os) e ds h:=aa (aF hx hy hv) H
theorem iI{n:Nat}(H:WO T base rnd Q os (bZ e dst (.int .i64 (n+1:Nat))) ds h)(hx:ev h e x=some (.int .i64 n):=by exact rfl)(hy:ev h e y=some (.int .i64 1):=by exact rfl)(hn:n<9223372036854775807:=by omega):WO T base rnd Q (⟨dst, .bin (.num .add) x y,none⟩::os) e ds h:=aa (aF hx hy (M7 hn)) H
end
section
variable {ops:List bk} {bf:List Nat} {rs:List Rec} {R:Env→Heap→Prop} {i mask:Nat} {is:List Nat} {g:Option (Nat×Bool)} {er:Env}
theorem qM(H:WD T base ops bf R is (⟨i,⟨dst, .mov x,g⟩,er,v, .quiet⟩::rs) (bZ e dst v) h)(ho:cE ops i=some ⟨dst, .mov x,g⟩:=by exact rfl)(hm:cE bf i=some mask:=by exact rfl)(he:bQ e (cF ⟨dst, .mov x,g⟩)=er:=by exact rfl)(hw:bW er g=some true:=by exact rfl)(hx:ev h er x=some v:=by exact rfl):WD T base ops bf R (i::is) rs e h:=an ho hm he hw rfl rfl (pJ hx) H
theorem qF{off b o:Nat}(H:WD T base ops bf R is (⟨i,⟨dst, .cS off x,g⟩,er, .pointer (some ⟨b,o+off,none⟩), .quiet⟩::rs) (bZ e dst (.pointer (some ⟨b,o+off,none⟩))) h)(ho:cE ops i=some ⟨dst, .cS off x,g⟩:=by exact rfl)(hm:cE bf i=some mask:=by exact rfl)(he:bQ e (cF ⟨dst, .cS off x,g⟩)=er:=by exact rfl)(hw:bW er g=some true:=by exact rfl)(hx:ev h er x=some (.pointer (some ⟨b,o,none⟩)):=by exact rfl):
 WD T base ops bf R (i::is) rs e h:=an ho hm he hw rfl rfl (dg hx) H
theorem qL{b o sz:Nat}{vs:List Value}{own:Bool}(H:WD T base ops bf R is (⟨i,⟨dst, .load none x,g⟩,er,v, .quiet⟩::rs) (bZ e dst v) h)(ho:cE ops i=some ⟨dst, .load none x,g⟩:=by exact rfl)(hm:cE bf i=some mask:=by exact rfl)(he:bQ e (cF ⟨dst, .load none x,g⟩)=er:=by exact rfl)(hw:bW er g=some true:=by exact rfl)(hx:ev h er x=some (.pointer (some ⟨b,o,none⟩)):=by exact rfl)
 (hb:h.get b=some (.cells vs own sz):=by first|assumption|(simp(disch:=first|omega|(simp only[z1,z2];omega))only[z3,z4,z5,z6,z7,z1,z2, *];done)|(simp(disch:=first|omega|(simp only[z1,z2];omega))only[z3,z4,z5,z6,z7,z1,z2, *];exact rfl)|(simp(disch:=first|omega|(simp only[z1,z2];omega)|(simp only[z1,z2];done)|fail)only[z8,z4,z5,z9,z7,z1,z2, *];done)|(simp(disch:=first|omega|(simp only[z1,z2];omega)|(simp only[z1,z2];done)|fail)only[z8,z4,z5,z9,z7,z1,z2, *];exact rfl))
 (hv:cE vs o=some v:=by exact rfl):WD T base ops bf R (i::is) rs e h:=an ho hm he hw rfl rfl (dz hx hb hv) H
theorem qN{n b o sz:Nat}{vs l:List Value}{own:Bool}(H:WD T base ops bf R is (⟨i,⟨dst, .load (some n) x,g⟩,er, .agg l.toArray, .quiet⟩::rs) (bZ e dst (.agg l.toArray)) h)(ho:cE ops i=some ⟨dst, .load (some n) x,g⟩:=by exact rfl)(hm:cE bf i=some mask:=by exact rfl)(he:bQ e (cF ⟨dst, .load (some n) x,g⟩)=er:=by exact rfl)(hw:bW er g=some true:=by exact rfl)(hx:ev h er x=some (.pointer (some ⟨b,o,none⟩)):=by exact rfl)
 (hb:h.get b=some (.cells vs own sz):=by first|assumption|(simp(disch:=first|omega|(simp only[z1,z2];omega))only[z3,z4,z5,z6,z7,z1,z2, *];done)|(simp(disch:=first|omega|(simp only[z1,z2];omega))only[z3,z4,z5,z6,z7,z1,z2, *];exact rfl)|(simp(disch:=first|omega|(simp only[z1,z2];omega)|(simp only[z1,z2];done)|fail)only[z8,z4,z5,z9,z7,z1,z2, *];done)|(simp(disch:=first|omega|(simp only[z1,z2];omega)|(simp only[z1,z2];done)|fail)only[z8,z4,z5,z9,z7,z1,z2, *];exact rfl))
 (hv:cG n (bX o vs)=l:=by exact rfl)(hl:Nat.beq (bR l) n=true:=by exact rfl):WD T base ops bf R (i::is) rs e h:=an ho hm he hw rfl rfl (au hx hb hv hl) H
theorem qC{f:Operand}{args:List Operand}{fv:Value}{as:List Value}{k:Nat}{first cap:Array Value}{all:List Value}(H:FW T (.func k) all {h with log:=[]} (KD (WD T base ops bf R is) base mask rs dst e h.log))(ho:cE ops i=some ⟨dst, .call f args,g⟩:=by exact rfl)(hm:cE bf i=some mask:=by exact rfl)(he:bQ e (cF ⟨dst, .call f args,g⟩)=er:=by exact rfl)(hw:bW er g=some true:=by exact rfl)
 (hf:ev {h with log:=[]} er f=some fv:=by exact rfl)(ha:evs {h with log:=[]} er args=some as:=by exact rfl)(hv:fv= .func (.func k) first cap:=by exact rfl)(hl:dJ first.toList (dJ as cap.toList)=all:=by exact rfl):WD T base ops bf R (i::is) rs e h:=IZ ho hm he hw rfl (vL hf ha hv hl) H
end
end Go.A
end
section
set_option maxRecDepth 100000
namespace Go.A
variable {T:Nat→Option ak} {base:Nat} {rnd:Option Nat} {Q:XQ} {e:Env} {ds:Dfs} {h:Heap}
def mx(a b:Int):Int:=if b>a then b else a
theorem dw{base:Nat}{h:Heap}{e:Env}{len size b o i:Nat}{k:IntKind}{x y:Operand}(hx:ev h e x=some (.pointer (some ⟨b,o,none⟩)))(hy:ev h e y=some (.int k (i:Nat)))(hi:i<len):aop h base e (.cu len size x y)=some (.val (.pointer (some ⟨b,o+i*size,none⟩)) h):=by
 have e0:(.int k (i:Nat):Value)= .int k (Int.ofNat i):=rfl
 rw[e0]at hy
 simp only[aop,hx,hy,gz hi,cond_true]
theorem uE{base:Nat}{h:Heap}{e:Env}{x y:Operand}{a b:Int}(hx:ev h e x=some (.int .i64 a))(hy:ev h e y=some (.int .i64 b)):aop h base e (.dM true [x,y])=some (.val (.int .i64 (mx a b)) h):=by
 simp only[aop,evs,hx,hy,mmA,if_true,cg,mx]
theorem Fc{base:Nat}{h:Heap}{e:Env}{x y:Operand}{a:Bool}(hx:ev h e x=some (.bool a))(hy:ev h e y=some (.bool a)):aop h base e (.bin (.beq false) x y)=some (.val (.bool true) h):=by
 rw[Mh hx hy]
 cases a<;>rfl
theorem dx{x y:Operand}{b n sz:Nat}{vs cs:List Value}(hx:ev h e x=some (.pointer (some ⟨b,0,none⟩)))(hy:ev h e y=some (.agg cs.toArray))(hb:h.get b=some (.cells vs true sz))(hn:cs.length=n)(hv:vs.length=n)(h1:eM cs=true):
 aop h base e (.store n x y)=some (.val (.tuple #[]) (h.wr base b (.cells cs true sz))):=by
 have hc:cellsOf (.agg cs.toArray)=cs:=by show cs.toArray.toList=cs;simp
 refine iA hx hy hb ?_ ?_
 ·rw[hc,bV,bV,hn,hv,h1,qJ,Nat.zero_add,gY (Nat.le_refl n)];rfl
 ·rw[hc,jc (by omega)]
  simp only[List.take_zero,List.nil_append,Nat.zero_add]
  rw[List.drop_of_length_le (by omega),List.append_nil]
theorem EW{x y:Operand}{b o sz:Nat}{vs:List Value}{v:Value}(hx:ev h e x=some (.pointer (some ⟨b,o,none⟩)))(hy:ev h e y=some v)(hb:h.get b=some (.cells vs true sz))(hc:cellsOf v=[v])(h1:eM [v]=true)(ho:o<vs.length):
 aop h base e (.store 1 x y)=some (.val (.tuple #[]) (h.wr base b (.cells (vs.set o v) true sz))):=by
 refine iA hx hy hb ?_ ?_
 ·rw[hc,h1,bV,bV,gY (by omega)];rfl
 ·rw[hc]
  show qc vs o v=vs.set o v
  clear hx hy hb
  induction vs generalizing o with
  |nil=>simp at ho
  |cons w vs ih=>
   cases o with
   |zero=>rfl
   |succ o=>simp only[qc,List.set_cons_succ];rw[ih (by simpa using ho)]
theorem Mi{op:UnOp}{x:Operand}{a v:Value}(hx:ev h e x=some a)(hv:tP op a=some v):aop h base e (.un op x)=some (.val v h):=by simp only[aop,hx,cg,hv]
theorem GO{a b:Int}(h1: -9223372036854775808≤a*b)(h2:a*b<9223372036854775808):aC .mul (.int .i64 a) (.int .i64 b)=some (.int .i64 (a*b)):=by
 simp[aC,arith,bL h1 h2]
theorem ru{base:Nat}:∀{m l:List Nat},eE base m→aB base l m=l
 |[],_,_=>rfl
 |b::m,l,h=>by
  have hb:=h b (List.mem_cons_self ..)
  simp only[aB,pn (show¬b<base by omega),cond_false]
  exact ru fun x hx=>h x (List.mem_cons_of_mem _ hx)
theorem FW.gs0{base:Nat}{Q:XQ}{e:Env}{ds:Dfs}{h:Heap}{f:Nat}{args:List Value}{S:Nat→Prop}{Q':Value→Heap→Prop}{K:Env→Dfs→Heap→Prop}{dst:Option Nat}(H:Gs T f args {h with log:=[]} S Q')(hlog:∀v (h':Heap) l,Q' v h'→Q' v {h' with log:=l})(hS:∀z,S z→base≤z)(hK:∀v h',h.next≤h'.next→h'.log=h.log→(∀z,z<h.next→¬S z→h'.get z=h.get z)→(WF h→WF h')→Q' v h'→K (bZ e dst v) ds h'):
 FW T (.func f) args {h with log:=[]} (KO K Q base dst e ds h.log):=by
 refine .func (CW.mono H ?_)
 rintro r h2 ⟨hx,v,rfl,hq⟩
 exact⟨hK v _ hx.next (ru fun z hz=>hS z ((hx.log z hz).elim (fun q=>by cases q) id)) hx.old (fun w=>(hx.wf (w.log [])).log _) (hlog v h2 _ hq)⟩
theorem mu{base:Nat}{h:Heap}{e:Env}{size b o n i j:Nat}{x:Operand}{lo hi:Option Operand}(hx:ev h e x=some (.pointer (some ⟨b,o,none⟩)))(hl:bnd h e 0 lo=some i)(hh:bnd h e n hi=some j)(h1:i≤j)(h2:j≤n)(h3:i<n)(h4:n<1000000):
 aop h base e (.slice (.arr n size) x lo hi none)=some (.val (.slice (some ⟨b,o+i*size,none⟩) (j-i) (n-i)) h):=by
 simp only[aop,hx,gZ,hl,hh,tK (show n≠UNK by unfold UNK;omega),gY h1,gY h2,tK (show n≠i by omega),Bool.and_self,cond_true,cond_false,fG]
theorem lE{base:Nat}{h:Heap}{e:Env}{ops:List bk}{bf:List Nat}{rs rs':List Rec}{Q:Env→Heap→Prop}{i mask:Nat}{is:List Nat}{dst:Option Nat}{g:Option (Nat×Bool)}{er:Env}{x y:Operand}{b o sz:Nat}{vs:List Value}{v:Value}
 (ho:cE ops i=some ⟨dst, .store 1 x y,g⟩)(hm:cE bf i=some mask)(he:bQ e (cF ⟨dst, .store 1 x y,g⟩)=er)(hwt:bW er g=some true)(hx:ev {h with log:=[]} er x=some (.pointer (some ⟨b,o,none⟩)))(hy:ev {h with log:=[]} er y=some v)(hb:h.get b=some (.cells vs true sz))
 (hc:cellsOf v=[v])(h1:eM [v]=true)(ho':o<vs.length)(hlt:b<h.next)(hbb:base≤b)(hrs:bI (h.wr base b (.cells (vs.set o v) true sz)) base [b] mask rs=some rs')
 (H:WD T base ops bf Q is rs' (bZ e dst (.tuple #[])) (h.wr base b (.cells (vs.set o v) true sz))):WD T base ops bf Q (i::is) rs e h:=
 rQ ho hm he hwt rfl (EW (h:={h with log:=[]}) hx hy hb hc h1 ho') (DM hlt hbb _) (vj hlt _) hrs H
theorem yq{base:Nat}{h:Heap}{e:Env}{ops:List bk}{bf:List Nat}{rs rs':List Rec}{Q:Env→Heap→Prop}{i mask:Nat}{is:List Nat}{dst:Option Nat}{g:Option (Nat×Bool)}{er:Env}{x y:Operand}{b n sz:Nat}{vs cs:List Value}
 (ho:cE ops i=some ⟨dst, .store n x y,g⟩)(hm:cE bf i=some mask)(he:bQ e (cF ⟨dst, .store n x y,g⟩)=er)(hwt:bW er g=some true)(hx:ev {h with log:=[]} er x=some (.pointer (some ⟨b,0,none⟩)))(hy:ev {h with log:=[]} er y=some (.agg cs.toArray))(hb:h.get b=some (.cells vs true sz))
 (hn:cs.length=n)(hv:vs.length=n)(h1:eM cs=true)(hlt:b<h.next)(hbb:base≤b)(hrs:bI (h.wr base b (.cells cs true sz)) base [b] mask rs=some rs')
 (H:WD T base ops bf Q is rs' (bZ e dst (.tuple #[])) (h.wr base b (.cells cs true sz))):WD T base ops bf Q (i::is) rs e h:=
 rQ ho hm he hwt rfl (dx (h:={h with log:=[]}) hx hy hb hn hv h1) (DM hlt hbb _) (vj hlt _) hrs H
theorem iJ{base:Nat}{e:Env}{h:Heap}{ops:List bk}{bf:List Nat}{rs rs':List Rec}{Q:Env→Heap→Prop}{i mask:Nat}{is:List Nat}{dst:Option Nat}{x y:Operand}{n b o sz:Nat}{vs ws:List Value}{v:Value}{g:Option (Nat×Bool)}{er:Env}(ho:cE ops i=some ⟨dst, .store n x y,g⟩)(hm:cE bf i=some mask)
 (he:bQ e (cF ⟨dst, .store n x y,g⟩)=er)(hw:bW er g=some true)(hx:ev {h with log:=[]} er x=some (.pointer (some ⟨b,o,none⟩)))(hy:ev {h with log:=[]} er y=some v)(hb:h.get b=some (.cells vs true sz))
 (hc:(Nat.beq (bR (cellsOf v)) n&&Nat.ble (o+n) (bR vs)&&eM (cellsOf v))=true)(hws:cD vs o (cellsOf v)=ws)(hlt:b<h.next)(hrs:bI (h.wr base b (.cells ws true sz)) base [b] mask rs=some rs')
 (H:WD T base ops bf Q is rs' (bZ e dst (.tuple #[])) (h.wr base b (.cells ws true sz))):WD T base ops bf Q (i::is) rs e h:=
 rQ ho hm he hw rfl (iA (h:={h with log:=[]}) hx hy hb hc hws) (KG hlt _) (vj hlt _) hrs H
theorem ff{base:Nat}{rnd:Option Nat}{Q:XQ}{e:Env}{E0:Env}{ds:Dfs}{h:Heap}{a b:aX}{P:Heap→Prop}(H1:WE T base rnd a (fun x e' ds' h'=>x= .normal∧e'=E0∧ds'=[]∧P h') e ds h)(H2:∀h',P h'→WE T base rnd b Q E0 [] h'):WE T base rnd (.seq a b) Q e ds h:=by
 refine aq (H1.mono ?_)
 rintro x e' ds' h' ⟨rfl,rfl,rfl,hp⟩
 exact br (H2 h' hp)
theorem WF.iH{h:Heap}(w:WF h){x:Nat}{o:bJ}(hx:h.get x=some o):x<h.next:=by
 refine w.lt x (Classical.byContradiction fun hn=> ?_)
 have:=Cc hn
 rw[show eZ h.bM x=h.get x from rfl,hx]at this
 cases this
theorem Rdy.self{h:Heap}(hr:Rdy h):({h with log:=[]}:Heap)=h:=by
 have:=hr.log
 cases h
 cases this
 rfl
end Go.A
end
