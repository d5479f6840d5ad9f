/- How a run is reckoned. -/
import Derived.Test.YtgffeapobcfigaaGreatDoorQC
import Derived.Test.YtgffeapobcfigaaGreatDoorQA
import Derived.Lib.Bytealg
import Derived.Below
import Derived.Test.YtgffeapobcfigaaGreatDoorQE
set_option linter.all false
section
namespace Go.A
variable {P:Program}
def Tr.all(Q:Nat→AFunc→Prop):Tr→Prop
 | .nil=>True
 | .node l k v r=>l.all Q∧Q k v∧r.all Q
theorem Tr.all_nil{Q:Nat→AFunc→Prop}:Tr.all Q .nil:=trivial
theorem Tr.all_node{Q:Nat→AFunc→Prop}{l r:Tr}{k:Nat}{v:AFunc}(h1:l.all Q)(h2:Q k v)(h3:r.all Q):Tr.all Q (.node l k v r):=⟨h1,h2,h3⟩
theorem Tr.get_all{Q:Nat→AFunc→Prop}:∀{t:Tr} {n:Nat} {v:AFunc},t.all Q→t.get n=some v→Q n v
 | .nil,_,_,_,h=>by cases h
 | .node l k v r,n,u,ha,h=>by
   simp only[Tr.get,cond_eq_ite,beq_eq,decide_eq_true_eq]at h
   split at h
   ·rename_i e;subst e;cases h;exact ha.2.1
   ·split at h
    ·exact Tr.get_all ha.1 h
    ·exact Tr.get_all ha.2.2 h
def PrimOk(P:Program)(f:Nat)(p:List Value→Heap→Option (Value×Heap)):Prop:=∀args h v h',p args h=some (v,h')→h.log=[]→AS h.next h h'∧∀μ w args',R P μ h w→LR μ args args'→NextR P (CallRes P μ h w (.ret v) h') ((callFunc f args'.toArray).run P w)
inductive Entry (P:Program) (k:Nat):AFunc→Prop
 |code {c rs fn ks}:P.funcs[k]? =some fn→compF P fn ks=some (.code c rs)→Entry P k (.code c rs)
 |prim {p}:PrimOk P k p→Entry P k (.prim p)
theorem Entry.of{k:Nat}{fn:Func}{a:AFunc}{ks:List (List Nat)}(h1:P.funcs[k]? =some fn)(h2:compF P fn ks=some a):Entry P k a:=by
 have h3:=h2
 unfold compF at h3
 split at h3
 ·split at h3
  ·cases h3
  ·split at h3
   ·cases h3;exact .code h1 h2
   ·cases h3
 ·cases h3
theorem soundT_of{t:Tr}(hm:P.follows .mixedOrders=true)(h:t.all (Entry P)):SoundT P t.get where
 mixed:=hm
 code:=fun f c rs hf=>by
  have:=Tr.get_all h hf
  cases this with
  |code h1 h2=>exact⟨_,_,h1,h2⟩
 prim:=fun f p args h0 v h' hf hp hl=>by
  have:=Tr.get_all h hf
  cases this with
  |prim h1=>exact h1 args h0 v h' hp hl
theorem R.grow{μ:Mu}{h:Heap}{w w':World}(hR:R P μ h w)(hs:w.heap.size≤w'.heap.size)(hk:∀r,r<w.heap.size→w'.heap[r]? =w.heap[r]?)(hsm:Same w w'):R P μ h w'∧St μ h w μ h w':=
 ⟨⟨hR.big,fun g o h1 h2=>let⟨k,a,b,c,x⟩:=hR.glob g o h1 h2;⟨k,a,b,c,x.get (hk _ (hR.dom _ _ a).2)⟩,fun b o hb=>OR.mono (fun _ _ h=>h) rfl (fun k hk'=>hk _ (hR.dom _ _ hk').2) (hR.obj b o hb),hR.lt,fun b k hb=>⟨(hR.dom b k hb).1,Nat.lt_of_lt_of_le (hR.dom b k hb).2 hs⟩,hR.excl⟩,
   ⟨fun _ _=>rfl,hs,fun r hr _=>hk r hr,fun _ _ h=>h,fun r L h=>⟨L,(hk r (Array.getElem?_eq_some_iff.1 h).1).trans h, .refl L⟩,hsm⟩⟩
theorem run_enter{f:Nat}{fn:Func}(hf:P.funcs[f]? =some fn)(hn:fn.name≠ "runtime.NumGoroutine")(hb:fn.body.isSome=true)(args:Array Value)(w:World):(callFunc f args).run P w= .ok (.enter f args) w:=by
 cases hb':fn.body with
 |none=>rw[hb']at hb;cases hb
 |some b=>simp[callFunc,program,Sem.run,hf,hb',hn]
theorem next_of_calls{μ:Mu}{h:Heap}{w:World}{f:Nat}{fn:Func}(hf:P.funcs[f]? =some fn)(hn:fn.name≠ "runtime.NumGoroutine")(hb:fn.body.isSome=true){args:Array Value}{Q:Ending→World→Prop}(hc:Calls P f args w Q)
 {res:Res}{h':Heap}(hq:∀e w',Q e w'→CallRes P μ h w res h' e w'):NextR P (CallRes P μ h w res h') ((callFunc f args).run P w):=by
 rw[run_enter hf hn hb]
 exact callsIn_wide.2 (hc.mono hq)
theorem LR.one{μ:Mu}{x:Value}{l:List Value}(h:LR μ [x] l):∃x',l=[x']∧VR μ x x':=by
 cases h with
 |cons h1 h2=>cases h2;exact⟨_,rfl,h1⟩
end Go.A
end
section
namespace Go.A
variable {T:Nat→Option AFunc}
def Ev(T:Nat→Option AFunc)(base:Nat)(rnd:Option Nat)(c:ACode)(e:Env)(ds:Dfs)(h:Heap)(r:AExit×Env×Dfs×Heap):Prop:=∃m,∀n,m≤n→aexec T n base rnd c e ds h=some r
def EvO(T:Nat→Option AFunc)(base:Nat)(rnd:Option Nat)(ops:List AOper)(e:Env)(ds:Dfs)(h:Heap)(r:AExit×Env×Dfs×Heap):Prop:=∃m,∀n,m≤n→aops T n base rnd ops e ds h=some r
def EvD(T:Nat→Option AFunc)(base:Nat)(ops:List AOper)(is bf:List Nat)(rs:List Rec)(e:Env)(h:Heap)(r:AExit×Env×Heap):Prop:=∃m,∀n,m≤n→adraw T n base ops is bf rs e h=some r
def EvF(T:Nat→Option AFunc)(fn:Fn)(args:List Value)(h:Heap)(r:Res×Heap):Prop:=∃m,∀n,m≤n→acallF T n fn args h=some r
def EvC(T:Nat→Option AFunc)(f:Nat)(args:List Value)(h:Heap)(r:Res×Heap):Prop:=∃m,∀n,m≤n→acall T n f args h=some r
def XW(T:Nat→Option AFunc)(base:Nat)(rnd:Option Nat)(c:ACode)(e:Env)(ds:Dfs)(h:Heap)(Q:AExit→Env→Dfs→Heap→Prop):Prop:=∃x e' ds' h',Ev T base rnd c e ds h (x,e',ds',h')∧Q x e' ds' h'
def FW(T:Nat→Option AFunc)(fn:Fn)(args:List Value)(h:Heap)(Q:Res→Heap→Prop):Prop:=∃r h',EvF T fn args h (r,h')∧Q r h'
def CW(T:Nat→Option AFunc)(f:Nat)(args:List Value)(h:Heap)(Q:Res→Heap→Prop):Prop:=∃r h',EvC T f args h (r,h')∧Q r h'
theorem XW.mono{base:Nat}{rnd:Option Nat}{c:ACode}{e:Env}{ds:Dfs}{h:Heap}{Q Q':AExit→Env→Dfs→Heap→Prop}(H:XW T base rnd c e ds h Q)(hq:∀x e ds h,Q x e ds h→Q' x e ds h):XW T base rnd c e ds h Q':=
 let⟨x,e',ds',h',h1,h2⟩:=H;⟨x,e',ds',h',h1,hq _ _ _ _ h2⟩
theorem FW.mono{fn:Fn}{args:List Value}{h:Heap}{Q Q':Res→Heap→Prop}(H:FW T fn args h Q)(hq:∀r h,Q r h→Q' r h):FW T fn args h Q':=
 let⟨r,h',h1,h2⟩:=H;⟨r,h',h1,hq _ _ h2⟩
theorem CW.mono{f:Nat}{args:List Value}{h:Heap}{Q Q':Res→Heap→Prop}(H:CW T f args h Q)(hq:∀r h,Q r h→Q' r h):CW T f args h Q':=
 let⟨r,h',h1,h2⟩:=H;⟨r,h',h1,hq _ _ h2⟩
abbrev XQ:=AExit→Env→Dfs→Heap→Prop
def kR(keep:List Nat)(Q:XQ):XQ:=fun x e ds h=>match x with
 | .normal=>Q .normal (keepE e keep) ds h
 |x=>Q x e ds h
def kB(id:Nat)(Q:XQ):XQ:=fun x e ds h=>match x with
 | .exit i=>(i=id→Q .normal e ds h)∧(i≠id→Q (.exit i) e ds h)
 |x=>Q x e ds h
def kS(K:Env→Dfs→Heap→Prop)(Q:XQ):XQ:=fun x e ds h=>match x with
 | .normal=>K e ds h
 |x=>Q x e ds h
def kO(K:Env→Dfs→Heap→Prop)(Q:XQ)(base:Nat)(dst:Option Nat)(e:Env)(ds:Dfs)(log:List Nat):Res→Heap→Prop:=fun r h2=>match r with
 | .ret v=>K (dstE e dst v) ds {h2 with log:=mergeLog base log h2.log}
 | .panic v=>Q (.panic v) e ds {h2 with log:=mergeLog base log h2.log}
def kD(K:List Rec→Env→Heap→Prop)(base:Nat)(mask:Nat)(rs:List Rec)(dst:Option Nat)(e:Env)(log:List Nat):Res→Heap→Prop:=fun r h2=>match r with
 | .ret v=>match recsAfter {h2 with log:=mergeLog base log h2.log} base h2.log mask rs with
   |some rs'=>K rs' (dstE e dst v) {h2 with log:=mergeLog base log h2.log}
   |none=>False
 | .panic _=>False
def wpA(T:Nat→Option AFunc)(base:Nat)(rnd:Option Nat)(wpO:Env→Dfs→Heap→Prop)(Q:XQ)(dst:Option Nat)(e:Env)(ds:Dfs)(h:Heap):Option AOut→Prop
 |some (.val v h')=>wpO (dstE e dst v) ds h'
 |some (.call fn args h')=>FW T fn args {h' with log:=[]} (kO wpO Q base dst e ds h'.log)
 |some (.dfer f args)=>rnd=none∧wpO (dstE e dst (.tuple #[])) ((f,args)::ds) h
 |some (.panic v h')=>Q (.panic v) e ds h'
 |_=>False
def wpG(A:Prop)(B:Prop):Option Bool→Prop
 |some c=>(c=false→B)∧(c=true→A)
 |none=>False
def wpO(T:Nat→Option AFunc)(base:Nat)(rnd:Option Nat)(Q:XQ):List AOper→Env→Dfs→Heap→Prop
 |[],e,ds,h=>Q .normal e ds h
 |o::os,e,ds,h=>wpG (wpA T base rnd (wpO T base rnd Q os) Q o.dst e ds h (aop h base e o.op)) (wpO T base rnd Q os (dstE e o.dst (.tuple #[])) ds h) (wantedA e o.guard)
def wpDA(T:Nat→Option AFunc)(base:Nat)(wpD:List Rec→Env→Heap→Prop)(i:Nat)(o:AOper)(mask:Nat)(rs:List Rec)(er e:Env)(h:Heap):Prop:=
 match eagerA o.op with
 |true=>
  match aop h base er o.op with
  |some (.val v h')=>
   match isNew o.op with
   |true=>recsQ h' base rs=true∧wpD (⟨i,o,er,v, .made h.next⟩::rs) (dstE e o.dst v) h'
   |false=>h'.next=h.next∧wpD (⟨i,o,er,v, .quiet⟩::rs) (dstE e o.dst v) h
  |_=>False
 |false=>
  match aop {h with log:=[]} h.next er o.op with
  |some (.val v h2)=>match recsAfter {h2 with log:=mergeLog base h.log h2.log} base h2.log mask rs with
   |some rs'=>wpD rs' (dstE e o.dst v) {h2 with log:=mergeLog base h.log h2.log}
   |none=>False
  |some (.call fn args _)=>FW T fn args {h with log:=[]} (kD wpD base mask rs o.dst e h.log)
  |_=>False
def wpD(T:Nat→Option AFunc)(base:Nat)(ops:List AOper)(bf:List Nat)(Q:Env→Heap→Prop):List Nat→List Rec→Env→Heap→Prop
 |[],_,e,h=>Q e h
 |i::is,rs,e,h=>
  match lget ops i,lget bf i with
  |some o,some mask=>wpG (wpDA T base (wpD T base ops bf Q is) i o mask rs (keepE e (slotsA o)) e h) (wpD T base ops bf Q is (⟨i,o,keepE e (slotsA o), .tuple #[], .skip⟩::rs) (dstE e o.dst (.tuple #[])) h) (wantedA (keepE e (slotsA o)) o.guard)
  |_,_=>False
def wpC(A B:Prop):Option Value→Prop
 |some (.bool t)=>(t=true→A)∧(t=false→B)
 |_=>False
def wpE(T:Nat→Option AFunc)(base:Nat)(rnd:Option Nat):ACode→XQ→Env→Dfs→Heap→Prop
 | .skip,Q,e,ds,h=>Q .normal e ds h
 | .region ops keep,Q,e,ds,h=>wpO T base rnd (kR keep Q) ops e ds h
 | .draw ops order bf keep,Q,e,ds,h=>wpD T base ops bf (fun e' h'=>Q .normal (keepE e' keep) ds h') order [] e h
 | .seq a b,Q,e,ds,h=>wpE T base rnd a (kS (wpE T base rnd b Q) Q) e ds h
 | .cond c a b,Q,e,ds,h=>wpC (wpE T base rnd a Q e ds h) (wpE T base rnd b Q e ds h) (ev h e c)
 | .block id b,Q,e,ds,h=>wpE T base rnd b (kB id Q) e ds h
 | .loop b,Q,e,ds,h=>XW T base rnd (.loop b) e ds h Q
 | .rangeFunc f ps a b,Q,e,ds,h=>XW T base rnd (.rangeFunc f ps a b) e ds h Q
 | .scope b,Q,e,ds,h=>wpE T base rnd b Q e ds h
 | .rangeMap o i x k ou nx pr o2 k2 b,Q,e,ds,h=>XW T base rnd (.rangeMap o i x k ou nx pr o2 k2 b) e ds h Q
 | .exit id,Q,e,ds,h=>Q (.exit id) e ds h
 | .ret,Q,e,ds,h=>Q .ret e ds h
theorem wpO_ok{base:Nat}{rnd:Option Nat}{Q:XQ}:∀{ops:List AOper} {e:Env} {ds:Dfs} {h:Heap},wpO T base rnd Q ops e ds h→∃x e' ds' h',EvO T base rnd ops e ds h (x,e',ds',h')∧Q x e' ds' h'
 |[],e,ds,h,H=>⟨.normal,e,ds,h,⟨1,fun n hn=>by obtain⟨k,rfl⟩:∃k,n=k+1:=⟨n-1,by omega⟩;simp only[aops]⟩,H⟩
 |o::os,e,ds,h,H=>by
  simp only[wpO]at H
  unfold wpG at H
  split at H
  ·rename_i c hc
   cases c with
   |false=>
    obtain⟨x,e',ds',h',⟨m,h1⟩,h2⟩:=wpO_ok (H.1 rfl)
    exact⟨x,e',ds',h',⟨m+1,fun n hn=>by
     obtain⟨k,rfl⟩:∃k,n=k+1:=⟨n-1,by omega⟩
     simp only[aops,hc];exact h1 k (by omega)⟩,h2⟩
   |true=>
    have H:=H.2 rfl
    unfold wpA at H
    split at H
    ·rename_i v h3 ho
     obtain⟨x,e',ds',h',⟨m,h1⟩,h2⟩:=wpO_ok H
     exact⟨x,e',ds',h',⟨m+1,fun n hn=>by
      obtain⟨k,rfl⟩:∃k,n=k+1:=⟨n-1,by omega⟩
      simp only[aops,hc,ho];exact h1 k (by omega)⟩,h2⟩
    ·rename_i fn args h3 ho
     obtain⟨r,h4,⟨m1,hf⟩,H⟩:=H
     cases r with
     |ret v=>
      obtain⟨x,e',ds',h',⟨m,h1⟩,h2⟩:=wpO_ok H
      exact⟨x,e',ds',h',⟨m+m1+1,fun n hn=>by
       obtain⟨k,rfl⟩:∃k,n=k+1:=⟨n-1,by omega⟩
       simp only[aops,hc,ho,hf k (by omega)];exact h1 k (by omega)⟩,h2⟩
     |panic v=>
      exact⟨_,_,_,_,⟨m1+1,fun n hn=>by
       obtain⟨k,rfl⟩:∃k,n=k+1:=⟨n-1,by omega⟩
       simp only[aops,hc,ho,hf k (by omega)]⟩,H⟩
    ·rename_i f args ho
     obtain⟨hr,H⟩:=H
     subst hr
     obtain⟨x,e',ds',h',⟨m,h1⟩,h2⟩:=wpO_ok H
     exact⟨x,e',ds',h',⟨m+1,fun n hn=>by
      obtain⟨k,rfl⟩:∃k,n=k+1:=⟨n-1,by omega⟩
      simp only[aops,hc,ho];exact h1 k (by omega)⟩,h2⟩
    ·rename_i v h3 ho
     exact⟨_,_,_,_,⟨1,fun n hn=>by
      obtain⟨k,rfl⟩:∃k,n=k+1:=⟨n-1,by omega⟩
      simp only[aops,hc,ho]⟩,H⟩
    ·exact H.elim
  ·exact H.elim
theorem wpD_ok{base:Nat}{ops:List AOper}{bf:List Nat}{Q:Env→Heap→Prop}:∀{is:List Nat} {rs:List Rec} {e:Env} {h:Heap},wpD T base ops bf Q is rs e h→∃e' h',EvD T base ops is bf rs e h (.normal,e',h')∧Q e' h'
 |[],rs,e,h,H=>⟨e,h,⟨1,fun n hn=>by obtain⟨k,rfl⟩:∃k,n=k+1:=⟨n-1,by omega⟩;simp only[adraw]⟩,H⟩
 |i::is,rs,e,h,H=>by
  simp only[wpD]at H
  split at H
  ·rename_i o mask ho hm
   unfold wpG at H
   split at H
   ·rename_i c hc
    have fin:∀{rs':List Rec} {e1:Env} {h1:Heap},wpD T base ops bf Q is rs' e1 h1→(∃m,∀n,m≤n→∀r,adraw T n base ops is bf rs' e1 h1=some r→adraw T (n+1) base ops (i::is) bf rs e h=some r)→∃e' h',EvD T base ops (i::is) bf rs e h (.normal,e',h')∧Q e' h':=fun hw ⟨m0,hs⟩=>by
     obtain⟨e',h',⟨m,h1⟩,h2⟩:=wpD_ok hw
     exact⟨e',h',⟨m+m0+1,fun n hn=>by
      obtain⟨k,rfl⟩:∃k,n=k+1:=⟨n-1,by omega⟩
      exact hs k (by omega) _ (h1 k (by omega))⟩,h2⟩
    cases c with
    |false=>
     exact fin (H.1 rfl) ⟨0,fun n _ r hr=>by simp only[adraw,ho,hm,hc];exact hr⟩
    |true=>
     have H:=H.2 rfl
     unfold wpDA at H
     split at H
     ·rename_i he
      split at H
      ·rename_i v h3 hop
       split at H
       ·rename_i hnw
        exact fin H.2 ⟨0,fun n _ r hr=>by simp only[adraw,ho,hm,hc,he,hop,hnw,H.1,cond_true];exact hr⟩
       ·rename_i hnw
        exact fin H.2 ⟨0,fun n _ r hr=>by
         have hb:Nat.beq h3.next h.next=true:=by rw[beq_eq];simpa using H.1
         simp only[adraw,ho,hm,hc,he,hop,hnw,hb,cond_true,cond_false];exact hr⟩
      ·exact H.elim
     ·rename_i he
      split at H
      ·rename_i v h3 hop
       split at H
       ·rename_i rs' hrs
        exact fin H ⟨0,fun n _ r hr=>by simp only[adraw,ho,hm,hc,he,hop,hrs,cond_false];exact hr⟩
       ·exact H.elim
      ·rename_i fn args h3 hop
       obtain⟨r,h4,⟨m1,hf⟩,H⟩:=H
       unfold kD at H
       split at H
       ·rename_i v
        split at H
        ·rename_i rs' hrs
         exact fin H ⟨m1,fun n hn r hr=>by simp only[adraw,ho,hm,hc,he,hop,hf n hn,hrs,cond_false];exact hr⟩
        ·exact H.elim
       ·exact H.elim
      ·exact H.elim
   ·exact H.elim
  ·exact H.elim
theorem wpE_ok{base:Nat}{rnd:Option Nat}:∀{c:ACode} {Q:XQ} {e:Env} {ds:Dfs} {h:Heap},wpE T base rnd c Q e ds h→XW T base rnd c e ds h Q
 | .skip,Q,e,ds,h,H=>⟨_,_,_,_,⟨1,fun n hn=>by obtain⟨k,rfl⟩:∃k,n=k+1:=⟨n-1,by omega⟩;simp only[aexec]⟩,H⟩
 | .exit i,Q,e,ds,h,H=>⟨_,_,_,_,⟨1,fun n hn=>by obtain⟨k,rfl⟩:∃k,n=k+1:=⟨n-1,by omega⟩;simp only[aexec]⟩,H⟩
 | .ret,Q,e,ds,h,H=>⟨_,_,_,_,⟨1,fun n hn=>by obtain⟨k,rfl⟩:∃k,n=k+1:=⟨n-1,by omega⟩;simp only[aexec]⟩,H⟩
 | .loop b,Q,e,ds,h,H=>H
 | .rangeFunc f ps a b,Q,e,ds,h,H=>H
 | .rangeMap o i x k ou nx pr o2 k2 b,Q,e,ds,h,H=>H
 | .scope b,Q,e,ds,h,H=>by
   obtain⟨x,e',ds',h',⟨m,h1⟩,h2⟩:=wpE_ok (c:=b) H
   exact⟨_,_,_,_,⟨m+1,fun n hn=>by
    obtain⟨k,rfl⟩:∃k,n=k+1:=⟨n-1,by omega⟩
    simp only[aexec,h1 k (by omega)]⟩,h2⟩
 | .region ops keep,Q,e,ds,h,H=>by
   obtain⟨x,e',ds',h',⟨m,h1⟩,h2⟩:=wpO_ok H
   cases x with
   |normal=>exact⟨_,_,_,_,⟨m+1,fun n hn=>by
    obtain⟨k,rfl⟩:∃k,n=k+1:=⟨n-1,by omega⟩
    simp only[aexec,h1 k (by omega)]⟩,h2⟩
   |_=>exact⟨_,_,_,_,⟨m+1,fun n hn=>by
     obtain⟨k,rfl⟩:∃k,n=k+1:=⟨n-1,by omega⟩
     simp only[aexec,h1 k (by omega)]⟩,h2⟩
 | .draw ops order bf keep,Q,e,ds,h,H=>by
   obtain⟨e',h',⟨m,h1⟩,h2⟩:=wpD_ok H
   exact⟨_,_,_,_,⟨m+1,fun n hn=>by
    obtain⟨k,rfl⟩:∃k,n=k+1:=⟨n-1,by omega⟩
    simp only[aexec,h1 k (by omega)]⟩,h2⟩
 | .seq a b,Q,e,ds,h,H=>by
   obtain⟨x,e',ds',h',⟨m,h1⟩,h2⟩:=wpE_ok (c:=a) H
   cases x with
   |normal=>
    obtain⟨x2,e2,ds2,h3,⟨m2,h4⟩,h5⟩:=wpE_ok (c:=b) h2
    exact⟨_,_,_,_,⟨m+m2+1,fun n hn=>by
     obtain⟨k,rfl⟩:∃k,n=k+1:=⟨n-1,by omega⟩
     simp only[aexec,h1 k (by omega)];exact h4 k (by omega)⟩,h5⟩
   |_=>exact⟨_,_,_,_,⟨m+1,fun n hn=>by
     obtain⟨k,rfl⟩:∃k,n=k+1:=⟨n-1,by omega⟩
     simp only[aexec,h1 k (by omega)]⟩,h2⟩
 | .cond c a b,Q,e,ds,h,H=>by
   simp only[wpE]at H
   unfold wpC at H
   split at H
   ·rename_i t ht
    cases t with
    |true=>
     obtain⟨x,e',ds',h',⟨m,h1⟩,h2⟩:=wpE_ok (c:=a) (H.1 rfl)
     exact⟨_,_,_,_,⟨m+1,fun n hn=>by
      obtain⟨k,rfl⟩:∃k,n=k+1:=⟨n-1,by omega⟩
      simp only[aexec,ht];exact h1 k (by omega)⟩,h2⟩
    |false=>
     obtain⟨x,e',ds',h',⟨m,h1⟩,h2⟩:=wpE_ok (c:=b) (H.2 rfl)
     exact⟨_,_,_,_,⟨m+1,fun n hn=>by
      obtain⟨k,rfl⟩:∃k,n=k+1:=⟨n-1,by omega⟩
      simp only[aexec,ht];exact h1 k (by omega)⟩,h2⟩
   ·exact H.elim
 | .block id b,Q,e,ds,h,H=>by
   obtain⟨x,e',ds',h',⟨m,h1⟩,h2⟩:=wpE_ok (c:=b) H
   cases x with
   |exit i=>
    by_cases hi:i=id
    ·exact⟨_,_,_,_,⟨m+1,fun n hn=>by
      obtain⟨k,rfl⟩:∃k,n=k+1:=⟨n-1,by omega⟩
      have hb:Nat.beq i id=true:=by rw[beq_eq];simpa using hi
      simp only[aexec,h1 k (by omega),hb,cond_true]⟩,h2.1 hi⟩
    ·exact⟨_,_,_,_,⟨m+1,fun n hn=>by
      obtain⟨k,rfl⟩:∃k,n=k+1:=⟨n-1,by omega⟩
      have hb:Nat.beq i id=false:=by rw[beq_eq];simpa using hi
      simp only[aexec,h1 k (by omega),hb,cond_false]⟩,h2.2 hi⟩
   |_=>exact⟨_,_,_,_,⟨m+1,fun n hn=>by
     obtain⟨k,rfl⟩:∃k,n=k+1:=⟨n-1,by omega⟩
     simp only[aexec,h1 k (by omega)]⟩,h2⟩
theorem XW.loop{base:Nat}{rnd:Option Nat}{b:ACode}{Q:AExit→Env→Dfs→Heap→Prop}(I:Nat→Env→Dfs→Heap→Prop)
 (hr:∀k e ds h,I k e ds h→XW T base rnd b e ds h fun x e' ds' h'=>match x with| .normal=>∃k',k'<k∧I k' e' ds' h'|x=>Q x e' ds' h'):
 ∀{k:Nat} {e:Env} {ds:Dfs} {h:Heap},I k e ds h→XW T base rnd (.loop b) e ds h Q:=by
 intro k
 induction k using Nat.strongRecOn with
 |ind k ih=>
  intro e ds h hI
  obtain⟨x,e',ds',h',⟨m,h1⟩,h2⟩:=hr k e ds h hI
  cases x with
  |normal=>
   obtain⟨k',hk,hI'⟩:=h2
   obtain⟨x2,e2,ds2,h3,⟨m2,h4⟩,h5⟩:=ih k' hk hI'
   exact⟨_,_,_,_,⟨m+m2+1,fun n hn=>by
    obtain⟨k,rfl⟩:∃k,n=k+1:=⟨n-1,by omega⟩
    simp only[aexec,h1 k (by omega)];exact h4 k (by omega)⟩,h5⟩
  |_=>exact⟨_,_,_,_,⟨m+1,fun n hn=>by
    obtain⟨k,rfl⟩:∃k,n=k+1:=⟨n-1,by omega⟩
    simp only[aexec,h1 k (by omega)]⟩,h2⟩
theorem XW.seqX{base:Nat}{rnd:Option Nat}{a b:ACode}{e:Env}{ds:Dfs}{h:Heap}{Q:AExit→Env→Dfs→Heap→Prop}
 (H:XW T base rnd a e ds h fun x e' ds' h'=>match x with| .normal=>XW T base rnd b e' ds' h' Q|x=>Q x e' ds' h'):XW T base rnd (.seq a b) e ds h Q:=by
 obtain⟨x,e',ds',h',⟨m,h1⟩,h2⟩:=H
 cases x with
 |normal=>
  obtain⟨x2,e2,ds2,h3,⟨m2,h4⟩,h5⟩:=h2
  exact⟨_,_,_,_,⟨m+m2+1,fun n hn=>by
   obtain⟨k,rfl⟩:∃k,n=k+1:=⟨n-1,by omega⟩
   simp only[aexec,h1 k (by omega)];exact h4 k (by omega)⟩,h5⟩
 |_=>exact⟨_,_,_,_,⟨m+1,fun n hn=>by
   obtain⟨k,rfl⟩:∃k,n=k+1:=⟨n-1,by omega⟩
   simp only[aexec,h1 k (by omega)]⟩,h2⟩
theorem FW.func{f:Nat}{args:List Value}{h:Heap}{Q:Res→Heap→Prop}(H:CW T f args h Q):FW T (.func f) args h Q:=by
 obtain⟨r,h',⟨m,h1⟩,h2⟩:=H
 exact⟨r,h',⟨m+1,fun n hn=>by
  obtain⟨k,rfl⟩:∃k,n=k+1:=⟨n-1,by omega⟩
  simp only[acallF];exact h1 k (by omega)⟩,h2⟩
theorem CW.prim{f:Nat}{args:List Value}{h h':Heap}{Q:Res→Heap→Prop}{p:List Value→Heap→Option (Value×Heap)}{v:Value}(hf:T f=some (.prim p))(hp:p args h=some (v,h'))(H:Q (.ret v) h'):CW T f args h Q:=
 ⟨.ret v,h',⟨1,fun n hn=>by
  obtain⟨k,rfl⟩:∃k,n=k+1:=⟨n-1,by omega⟩
  simp only[acall,hf,hp]⟩,H⟩
def endQ(rs:List (Nat×Option (Option Nat)))(h:Heap)(Q:Res→Heap→Prop):AExit→Env→Dfs→Heap→Prop:=fun x e ds h1=>
 match x with
 | .exit _=>False
 | .panic v=>match ds with
   |[]=>Q (.panic v) h1
   |_=>False
 |_=>match ds with
  |[]=>match resultsA h1 e rs with
   |some vs=>Q (.ret (oneV vs)) (gcA h h1 (oneV vs))
   |none=>False
  |_=>False
theorem CW.code{f:Nat}{args:List Value}{h:Heap}{Q:Res→Heap→Prop}{c:ACode}{rs:List (Nat×Option (Option Nat))}(hf:T f=some (.code c rs))
 (H:XW T h.next none c (paramsE 0 args) [] h (endQ rs h Q)):CW T f args h Q:=by
 obtain⟨x,e,ds,h1,⟨m,he⟩,H⟩:=H
 unfold endQ at H
 cases x with
 |exit _=>exact H.elim
 |panic v=>
  dsimp only at H
  split at H
  ·refine⟨_,_,⟨m+2,fun n hn=> ?_⟩,H⟩
   obtain⟨k,rfl⟩:∃k,n=k+2:=⟨n-2,by omega⟩
   have:=he (k+1) (by omega)
   simp only[acall,this,aunw,hf]
  ·exact H.elim
 |normal=>
  dsimp only at H
  split at H
  ·split at H
   ·rename_i vs hvs
    refine⟨_,_,⟨m+2,fun n hn=> ?_⟩,H⟩
    obtain⟨k,rfl⟩:∃k,n=k+2:=⟨n-2,by omega⟩
    have:=he (k+1) (by omega)
    simp only[acall,this,aunw,hf,hvs]
   ·exact H.elim
  ·exact H.elim
 |ret=>
  dsimp only at H
  split at H
  ·split at H
   ·rename_i vs hvs
    refine⟨_,_,⟨m+2,fun n hn=> ?_⟩,H⟩
    obtain⟨k,rfl⟩:∃k,n=k+2:=⟨n-2,by omega⟩
    have:=he (k+1) (by omega)
    simp only[acall,this,aunw,hf,hvs]
   ·exact H.elim
  ·exact H.elim
end Go.A
end
section
namespace Go.A
variable {T:Nat→Option AFunc} {base:Nat} {rnd:Option Nat} {Q:XQ} {e:Env} {ds:Dfs} {h:Heap} {c:ACode}
structure WE (T:Nat→Option AFunc) (base:Nat) (rnd:Option Nat) (c:ACode) (Q:XQ) (e:Env) (ds:Dfs) (h:Heap):Prop where
 ok:XW T base rnd c e ds h Q
structure WO (T:Nat→Option AFunc) (base:Nat) (rnd:Option Nat) (Q:XQ) (ops:List AOper) (e:Env) (ds:Dfs) (h:Heap):Prop where
 ok:∃x e' ds' h',EvO T base rnd ops e ds h (x,e',ds',h')∧Q x e' ds' h'
structure WD (T:Nat→Option AFunc) (base:Nat) (ops:List AOper) (bf:List Nat) (Q:Env→Heap→Prop) (is:List Nat) (rs:List Rec) (e:Env) (h:Heap):Prop where
 ok:∃e' h',EvD T base ops is bf rs e h (.normal,e',h')∧Q e' h'
structure KR (keep:List Nat) (Q:XQ) (x:AExit) (e:Env) (ds:Dfs) (h:Heap):Prop where
 ok:kR keep Q x e ds h
structure KS (K:Env→Dfs→Heap→Prop) (Q:XQ) (x:AExit) (e:Env) (ds:Dfs) (h:Heap):Prop where
 ok:kS K Q x e ds h
structure KB (i:Nat) (Q:XQ) (x:AExit) (e:Env) (ds:Dfs) (h:Heap):Prop where
 ok:kB i Q x e ds h
structure KO (K:Env→Dfs→Heap→Prop) (Q:XQ) (base:Nat) (dst:Option Nat) (e:Env) (ds:Dfs) (log:List Nat) (r:Res) (h:Heap):Prop where
 ok:kO K Q base dst e ds log r h
structure KD (K:List Rec→Env→Heap→Prop) (base:Nat) (mask:Nat) (rs:List Rec) (dst:Option Nat) (e:Env) (log:List Nat) (r:Res) (h:Heap):Prop where
 ok:kD K base mask rs dst e log r h
theorem WE.of(H:wpE T base rnd c Q e ds h):WE T base rnd c Q e ds h:=⟨wpE_ok H⟩
theorem wE_skip(H:Q .normal e ds h):WE T base rnd .skip Q e ds h:= .of H
theorem wE_exit{i:Nat}(H:Q (.exit i) e ds h):WE T base rnd (.exit i) Q e ds h:= .of H
theorem wE_ret(H:Q .ret e ds h):WE T base rnd .ret Q e ds h:= .of H
theorem wE_seq{a b:ACode}(H:WE T base rnd a (KS (WE T base rnd b Q) Q) e ds h):WE T base rnd (.seq a b) Q e ds h:=by
 refine⟨XW.seqX (H.ok.mono fun x e ds h hq=> ?_)⟩
 cases x<;>first|exact hq.ok.ok|exact hq.ok
theorem wE_region{ops:List AOper}{keep:List Nat}(H:WO T base rnd (KR keep Q) ops e ds h):WE T base rnd (.region ops keep) Q e ds h:=by
 obtain⟨x,e',ds',h',⟨m,h1⟩,⟨h2⟩⟩:=H.ok
 cases x with
 |normal=>exact⟨_,_,_,_,⟨m+1,fun n hn=>by
  obtain⟨k,rfl⟩:∃k,n=k+1:=⟨n-1,by omega⟩
  simp only[aexec,h1 k (by omega)]⟩,h2⟩
 |_=>exact⟨_,_,_,_,⟨m+1,fun n hn=>by
   obtain⟨k,rfl⟩:∃k,n=k+1:=⟨n-1,by omega⟩
   simp only[aexec,h1 k (by omega)]⟩,h2⟩
theorem wE_block{i:Nat}{b:ACode}(H:WE T base rnd b (KB i Q) e ds h):WE T base rnd (.block i b) Q e ds h:=by
 obtain⟨x,e',ds',h',⟨m,h1⟩,⟨h2⟩⟩:=H.ok
 cases x with
 |exit j=>
  by_cases hi:j=i
  ·exact⟨_,_,_,_,⟨m+1,fun n hn=>by
    obtain⟨k,rfl⟩:∃k,n=k+1:=⟨n-1,by omega⟩
    have hb:Nat.beq j i=true:=by rw[beq_eq];simpa using hi
    simp only[aexec,h1 k (by omega),hb,cond_true]⟩,h2.1 hi⟩
  ·exact⟨_,_,_,_,⟨m+1,fun n hn=>by
    obtain⟨k,rfl⟩:∃k,n=k+1:=⟨n-1,by omega⟩
    have hb:Nat.beq j i=false:=by rw[beq_eq];simpa using hi
    simp only[aexec,h1 k (by omega),hb,cond_false]⟩,h2.2 hi⟩
 |_=>exact⟨_,_,_,_,⟨m+1,fun n hn=>by
   obtain⟨k,rfl⟩:∃k,n=k+1:=⟨n-1,by omega⟩
   simp only[aexec,h1 k (by omega)]⟩,h2⟩
theorem wE_cond{c:Operand}{a b:ACode}{t:Bool}(hc:ev h e c=some (.bool t))(h1:t=true→WE T base rnd a Q e ds h)(h2:t=false→WE T base rnd b Q e ds h):WE T base rnd (.cond c a b) Q e ds h:=by
 cases t with
 |true=>
  obtain⟨x,e',ds',h',⟨m,q1⟩,q2⟩:=(h1 rfl).ok
  exact⟨_,_,_,_,⟨m+1,fun n hn=>by
   obtain⟨k,rfl⟩:∃k,n=k+1:=⟨n-1,by omega⟩
   simp only[aexec,hc];exact q1 k (by omega)⟩,q2⟩
 |false=>
  obtain⟨x,e',ds',h',⟨m,q1⟩,q2⟩:=(h2 rfl).ok
  exact⟨_,_,_,_,⟨m+1,fun n hn=>by
   obtain⟨k,rfl⟩:∃k,n=k+1:=⟨n-1,by omega⟩
   simp only[aexec,hc];exact q1 k (by omega)⟩,q2⟩
theorem wE_true{c:Operand}{a b:ACode}(hc:ev h e c=some (.bool true))(h1:WE T base rnd a Q e ds h):WE T base rnd (.cond c a b) Q e ds h:=wE_cond hc (fun _=>h1) (fun h=>by cases h)
theorem wE_false{c:Operand}{a b:ACode}(hc:ev h e c=some (.bool false))(h1:WE T base rnd b Q e ds h):WE T base rnd (.cond c a b) Q e ds h:=wE_cond hc (fun h=>by cases h) (fun _=>h1)
theorem wE_draw{ops:List AOper}{is bf keep:List Nat}(H:WD T base ops bf (fun e' h'=>KR keep Q .normal e' ds h') is [] e h):WE T base rnd (.draw ops is bf keep) Q e ds h:=by
 obtain⟨e',h',⟨m,h1⟩,⟨h2⟩⟩:=H.ok
 exact⟨_,_,_,_,⟨m+1,fun n hn=>by
  obtain⟨k,rfl⟩:∃k,n=k+1:=⟨n-1,by omega⟩
  simp only[aexec,h1 k (by omega)]⟩,h2⟩
theorem wE_loop{b:ACode}(I:Nat→Env→Dfs→Heap→Prop){k:Nat}(hI:I k e ds h)
 (hr:∀k e ds h,I k e ds h→WE T base rnd b (KS (fun e' ds' h'=>∃k',k'<k∧I k' e' ds' h') Q) e ds h):WE T base rnd (.loop b) Q e ds h:=
 ⟨XW.loop I (fun k e ds h hI=>((hr k e ds h hI).ok.mono fun x e ds h hq=>by cases x<;>exact hq.ok)) hI⟩
theorem WE.mono{c:ACode}{Q':XQ}(H:WE T base rnd c Q' e ds h)(hq:∀x e ds h,Q' x e ds h→Q x e ds h):WE T base rnd c Q e ds h:=⟨H.ok.mono hq⟩
theorem kR_k{keep:List Nat}{e2:Env}(he:keepE e keep=e2)(H:Q .normal e2 ds h):KR keep Q .normal e ds h:=by subst he;exact⟨H⟩
theorem kS_n{K:Env→Dfs→Heap→Prop}(H:K e ds h):KS K Q .normal e ds h:=⟨H⟩
theorem kS_r{K:Env→Dfs→Heap→Prop}(H:Q .ret e ds h):KS K Q .ret e ds h:=⟨H⟩
theorem kS_e{K:Env→Dfs→Heap→Prop}{i:Nat}(H:Q (.exit i) e ds h):KS K Q (.exit i) e ds h:=⟨H⟩
theorem kB_n{i:Nat}(H:Q .normal e ds h):KB i Q .normal e ds h:=⟨H⟩
theorem kB_r{i:Nat}(H:Q .ret e ds h):KB i Q .ret e ds h:=⟨H⟩
theorem kB_e{i:Nat}(H:Q .normal e ds h):KB i Q (.exit i) e ds h:=⟨⟨fun _=>H,fun h=>(h rfl).elim⟩⟩
theorem kB_x{i j:Nat}(hn:Nat.beq j i=false)(H:Q (.exit j) e ds h):KB i Q (.exit j) e ds h:=by
 rw[beq_eq]at hn
 simp only[decide_eq_false_iff_not]at hn
 exact⟨⟨fun h=>(hn h).elim,fun _=>H⟩⟩
theorem wO_nil(H:Q .normal e ds h):WO T base rnd Q [] e ds h:=⟨wpO_ok (T:=T) (base:=base) (rnd:=rnd) (ops:=[]) H⟩
theorem wO_val{dst:Option Nat}{op:AOp}{os:List AOper}{v:Value}{h':Heap}(ho:aop h base e op=some (.val v h'))(H:WO T base rnd Q os (dstE e dst v) ds h'):WO T base rnd Q (⟨dst,op,none⟩::os) e ds h:=by
 obtain⟨x,e',ds',h',⟨m,h1⟩,h2⟩:=H.ok
 exact⟨x,e',ds',h',⟨m+1,fun n hn=>by
  obtain⟨k,rfl⟩:∃k,n=k+1:=⟨n-1,by omega⟩
  simp only[aops,wantedA,ho];exact h1 k (by omega)⟩,h2⟩
theorem wO_call{dst:Option Nat}{op:AOp}{os:List AOper}{fn:Fn}{args:List Value}{h':Heap}(ho:aop h base e op=some (.call fn args h'))(H:FW T fn args {h' with log:=[]} (KO (WO T base rnd Q os) Q base dst e ds h'.log)):WO T base rnd Q (⟨dst,op,none⟩::os) e ds h:=by
 obtain⟨r,h4,⟨m1,hf⟩,⟨H⟩⟩:=H
 cases r with
 |ret v=>
  obtain⟨x,e',ds',h',⟨m,h1⟩,h2⟩:=WO.ok H
  exact⟨x,e',ds',h',⟨m+m1+1,fun n hn=>by
   obtain⟨k,rfl⟩:∃k,n=k+1:=⟨n-1,by omega⟩
   simp only[aops,wantedA,ho,hf k (by omega)];exact h1 k (by omega)⟩,h2⟩
 |panic v=>
  exact⟨_,_,_,_,⟨m1+1,fun n hn=>by
   obtain⟨k,rfl⟩:∃k,n=k+1:=⟨n-1,by omega⟩
   simp only[aops,wantedA,ho,hf k (by omega)]⟩,H⟩
theorem wO_on{dst:Option Nat}{op:AOp}{os:List AOper}{t:Nat}{b:Bool}(hg:geT e t=some (.bool b))(H:WO T base rnd Q (⟨dst,op,none⟩::os) e ds h):WO T base rnd Q (⟨dst,op,some (t,b)⟩::os) e ds h:=by
 obtain⟨x,e',ds',h',⟨m,h1⟩,h2⟩:=H.ok
 exact⟨x,e',ds',h',⟨m+1,fun n hn=>by
  obtain⟨k,rfl⟩:∃k,n=k+1:=⟨n-1,by omega⟩
  have:=h1 (k+1) (by omega)
  have hb:(b==b)=true:=by simp
  simp only[aops,wantedA]at this
  simp only[aops,wantedA,hg,hb];exact this⟩,h2⟩
theorem wO_off{dst:Option Nat}{op:AOp}{os:List AOper}{t:Nat}{b x:Bool}(hg:geT e t=some (.bool x))(hx:x= !b)(H:WO T base rnd Q os (dstE e dst (.tuple #[])) ds h):WO T base rnd Q (⟨dst,op,some (t,b)⟩::os) e ds h:=by
 obtain⟨x',e',ds',h',⟨m,h1⟩,h2⟩:=H.ok
 exact⟨x',e',ds',h',⟨m+1,fun n hn=>by
  obtain⟨k,rfl⟩:∃k,n=k+1:=⟨n-1,by omega⟩
  have hb:(x==b)=false:=by subst hx;cases b<;>rfl
  simp only[aops,wantedA,hg,hb];exact h1 k (by omega)⟩,h2⟩
theorem wD_nil{ops:List AOper}{bf:List Nat}{rs:List Rec}{Q:Env→Heap→Prop}(H:Q e h):WD T base ops bf Q [] rs e h:=⟨wpD_ok (T:=T) (base:=base) (ops:=ops) (bf:=bf) (is:=[]) (rs:=rs) H⟩
theorem wD_step{ops:List AOper}{bf:List Nat}{rs rs':List Rec}{Q:Env→Heap→Prop}{i:Nat}{is:List Nat}{e1:Env}{h1:Heap}(hs:∃m,∀n,m≤n→∀r,adraw T n base ops is bf rs' e1 h1=some r→adraw T (n+1) base ops (i::is) bf rs e h=some r)
 (H:WD T base ops bf Q is rs' e1 h1):WD T base ops bf Q (i::is) rs e h:=by
 obtain⟨e',h',⟨m,q1⟩,q2⟩:=H.ok
 obtain⟨m0,hs⟩:=hs
 exact⟨e',h',⟨m+m0+1,fun n hn=>by
  obtain⟨k,rfl⟩:∃k,n=k+1:=⟨n-1,by omega⟩
  exact hs k (by omega) _ (q1 k (by omega))⟩,q2⟩
theorem wD_off{ops:List AOper}{bf:List Nat}{rs:List Rec}{Q:Env→Heap→Prop}{i mask:Nat}{is:List Nat}{dst:Option Nat}{op:AOp}{g:Option (Nat×Bool)}{er:Env}(ho:lget ops i=some ⟨dst,op,g⟩)(hm:lget bf i=some mask)(he:keepE e (slotsA ⟨dst,op,g⟩)=er)(hw:wantedA er g=some false)
 (H:WD T base ops bf Q is (⟨i,⟨dst,op,g⟩,er, .tuple #[], .skip⟩::rs) (dstE e dst (.tuple #[])) h):WD T base ops bf Q (i::is) rs e h:=by
 subst he
 exact wD_step ⟨0,fun n _ r hr=>by simp only[adraw,ho,hm,hw];exact hr⟩ H
theorem wD_quiet{ops:List AOper}{bf:List Nat}{rs:List Rec}{Q:Env→Heap→Prop}{i mask:Nat}{is:List Nat}{dst:Option Nat}{op:AOp}{g:Option (Nat×Bool)}{er:Env}{v:Value}(ho:lget ops i=some ⟨dst,op,g⟩)(hm:lget bf i=some mask)(he:keepE e (slotsA ⟨dst,op,g⟩)=er)(hw:wantedA er g=some true)
 (hq:eagerA op=true)(hn:isNew op=false)(hop:aop h base er op=some (.val v h))(H:WD T base ops bf Q is (⟨i,⟨dst,op,g⟩,er,v, .quiet⟩::rs) (dstE e dst v) h):WD T base ops bf Q (i::is) rs e h:=by
 subst he
 have hb:Nat.beq h.next h.next=true:=by rw[beq_eq];simp
 exact wD_step ⟨0,fun n _ r hr=>by simp only[adraw,ho,hm,hw,hq,hop,hn,hb,cond_true,cond_false];exact hr⟩ H
theorem wD_new{ops:List AOper}{bf:List Nat}{rs:List Rec}{Q:Env→Heap→Prop}{i mask:Nat}{is:List Nat}{dst:Option Nat}{op:AOp}{g:Option (Nat×Bool)}{er:Env}{v:Value}{h':Heap}(ho:lget ops i=some ⟨dst,op,g⟩)(hm:lget bf i=some mask)(he:keepE e (slotsA ⟨dst,op,g⟩)=er)(hw:wantedA er g=some true)
 (hq:eagerA op=true)(hn:isNew op=true)(hop:aop h base er op=some (.val v h'))(hrs:recsQ h' base rs=true)(H:WD T base ops bf Q is (⟨i,⟨dst,op,g⟩,er,v, .made h.next⟩::rs) (dstE e dst v) h'):WD T base ops bf Q (i::is) rs e h:=by
 subst he
 exact wD_step ⟨0,fun n _ r hr=>by simp only[adraw,ho,hm,hw,hq,hop,hn,hrs,cond_true];exact hr⟩ H
theorem wD_act{ops:List AOper}{bf:List Nat}{rs rs':List Rec}{Q:Env→Heap→Prop}{i mask:Nat}{is:List Nat}{dst:Option Nat}{op:AOp}{g:Option (Nat×Bool)}{er:Env}{v:Value}{h2:Heap}(ho:lget ops i=some ⟨dst,op,g⟩)(hm:lget bf i=some mask)(he:keepE e (slotsA ⟨dst,op,g⟩)=er)(hw:wantedA er g=some true)
 (hq:eagerA op=false)(hop:aop {h with log:=[]} h.next er op=some (.val v h2))(hrs:recsAfter {h2 with log:=mergeLog base h.log h2.log} base h2.log mask rs=some rs')
 (H:WD T base ops bf Q is rs' (dstE e dst v) {h2 with log:=mergeLog base h.log h2.log}):WD T base ops bf Q (i::is) rs e h:=by
 subst he
 exact wD_step ⟨0,fun n _ r hr=>by simp only[adraw,ho,hm,hw,hq,hop,hrs,cond_false];exact hr⟩ H
theorem wD_call{ops:List AOper}{bf:List Nat}{rs:List Rec}{Q:Env→Heap→Prop}{i mask:Nat}{is:List Nat}{dst:Option Nat}{op:AOp}{g:Option (Nat×Bool)}{er:Env}{fn:Fn}{args:List Value}{h3:Heap}(ho:lget ops i=some ⟨dst,op,g⟩)(hm:lget bf i=some mask)(he:keepE e (slotsA ⟨dst,op,g⟩)=er)(hw:wantedA er g=some true)
 (hq:eagerA op=false)(hop:aop {h with log:=[]} h.next er op=some (.call fn args h3))(H:FW T fn args {h with log:=[]} (KD (WD T base ops bf Q is) base mask rs dst e h.log)):WD T base ops bf Q (i::is) rs e h:=by
 subst he
 obtain⟨r,h4,⟨m1,hf⟩,⟨H⟩⟩:=H
 unfold kD at H
 split at H
 ·split at H
  ·rename_i rs' hrs
   exact wD_step ⟨m1,fun n hn r hr=>by simp only[adraw,ho,hm,hw,hq,hop,hf n hn,hrs,cond_false];exact hr⟩ H
  ·exact H.elim
 ·exact H.elim
end Go.A
end
section
namespace Go.A
variable {T:Nat→Option AFunc}
theorem ev_ran{base N:Nat}{rnd:Option Nat}{c:ACode}{e:Env}{ds:Dfs}{h:Heap}{r:AExit×Env×Dfs×Heap}(H:∀n,(famQ T (n+N)).exec base rnd c e ds h=some r):Ev T base rnd c e ds h r:=
 ⟨N,fun n hn=>by
  have:=H (n-N)
  rw[famQ_eq,fam_eq,show n-N+N=n by omega]at this
  exact this⟩
theorem ev_seq{base:Nat}{rnd:Option Nat}{c:ACode}{e e1:Env}{ds ds1:Dfs}{h h1:Heap}{r:AExit×Env×Dfs×Heap}(hc:c= .seq (cL c) (cR c))(H1:Ev T base rnd (cL c) e ds h (.normal,e1,ds1,h1))(H2:Ev T base rnd (cR c) e1 ds1 h1 r):Ev T base rnd c e ds h r:=by
 obtain⟨m1,q1⟩:=H1
 obtain⟨m2,q2⟩:=H2
 refine⟨m1+m2+1,fun n hn=> ?_⟩
 obtain⟨k,rfl⟩:∃k,n=k+1:=⟨n-1,by omega⟩
 rw[hc]
 simp only[aexec,q1 k (by omega)]
 exact q2 k (by omega)
theorem CW.ofEv{f:Nat}{args:List Value}{h:Heap}{Q:Res→Heap→Prop}{c:ACode}{rs:List (Nat×Option (Option Nat))}{x:AExit}{e:Env}{ds:Dfs}{h1:Heap}(hf:T f=some (.code c rs))(H:Ev T h.next none c (paramsE 0 args) [] h (x,e,ds,h1))(hq:endQ rs h Q x e ds h1):CW T f args h Q:=
 CW.code hf ⟨x,e,ds,h1,H,hq⟩
theorem R.none{P:Program}{w:World}{n:Nat}(hn:P.globals.size≤n):R P (fun _=>none) ⟨[],n,[]⟩ w:=
 {big:=hn
  glob:=fun g o _ h=>by cases h
  obj:=fun b o h=>by cases h
  lt:=fun b o h=>by cases h
  dom:=fun b k h=>by cases h
  excl:=fun b b' o o' k k' _ h=>by cases h}
end Go.A
end
section
namespace Go.A
variable {T:Nat→Option AFunc} {base:Nat} {rnd:Option Nat} {Q:XQ} {e:Env} {ds:Dfs} {h:Heap}
theorem Heap.get_push_new(h:Heap)(o:AObj):(h.push o).get h.next=some o:=by rw[Heap.get_push,if_pos rfl]
theorem Heap.get_push_old{h:Heap}{o:AObj}{x:Nat}(hx:x<h.next):(h.push o).get x=h.get x:=by rw[Heap.get_push,if_neg (by omega)]
theorem Heap.get_wr_new{h:Heap}{base b:Nat}{o o':AObj}(hb:h.get b=some o'):(h.wr base b o).get b=some o:=by rw[Heap.get_wr,if_pos rfl,hb];rfl
theorem Heap.get_wr_self(h:Heap)(base b:Nat)(o:AObj):(h.wr base b o).get b=(h.get b).map fun _=>o:=by rw[Heap.get_wr,if_pos rfl]
theorem Heap.get_wr_old{h:Heap}{base b:Nat}{o:AObj}{x:Nat}(hx:x≠b):(h.wr base b o).get x=h.get x:=by rw[Heap.get_wr,if_neg hx]
theorem Heap.log_push(h:Heap)(o:AObj):(h.push o).log=h.log:=rfl
theorem Heap.log_wr_new{h:Heap}{base b:Nat}{o:AObj}(hb:base≤b):(h.wr base b o).log=h.log:=by
 simp only[Heap.wr,blt_eq]
 rw[decide_eq_false (by omega)];rfl
theorem a_mov{x:Operand}{v:Value}(hx:ev h e x=some v):aop h base e (.mov x)=some (.val v h):=by simp only[aop,hx,bindV]
theorem a_pickT{c a b:Operand}{v:Value}(hc:ev h e c=some (.bool true))(hx:ev h e a=some v):aop h base e (.pick c a b)=some (.val v h):=by simp only[aop,hc,hx,bindV]
theorem a_pickF{c a b:Operand}{v:Value}(hc:ev h e c=some (.bool false))(hx:ev h e b=some v):aop h base e (.pick c a b)=some (.val v h):=by simp only[aop,hc,hx,bindV]
theorem a_new{z:List Value}:aop h base e (.new z)=some (.val (.pointer (some ⟨h.next,0,none⟩)) (h.push (.cells z true 1))):=rfl
theorem a_box{x:Operand}{v:Value}{vs:List Value}(hx:ev h e x=some v)(hc:cellsOf v=vs):aop h base e (.box x)=some (.val (.pointer (some ⟨h.next,0,none⟩)) (h.push (.cells vs true 1))):=by simp only[aop,hx,bindV,hc]
theorem a_build{z cs:List Value}{ps:List (Nat×Nat×Operand)}(hf:fillA h e z ps=some cs):aop h base e (.build z ps)=some (.val (.agg cs.toArray) h):=by simp only[aop,hf]
theorem a_bslice{z cs:List Value}{n m:Nat}{ps:List (Nat×Nat×Operand)}(hf:fillA h e (lrow n z) ps=some cs)(hm:llen z=m):aop h base e (.bslice z n ps)=some (.val (.slice (some ⟨h.next,0,none⟩) n n) (h.push (.cells cs true m))):=by simp only[aop,hf,hm]
theorem a_load{x:Operand}{b o sz:Nat}{vs:List Value}{own:Bool}{v:Value}(hx:ev h e x=some (.pointer (some ⟨b,o,none⟩)))(hb:h.get b=some (.cells vs own sz))(hv:lget vs o=some v):aop h base e (.load none x)=some (.val v h):=by
 simp only[aop,hx,bindV,loadA,hb,hv]
theorem a_loadN{x:Operand}{n b o sz:Nat}{vs l:List Value}{own:Bool}(hx:ev h e x=some (.pointer (some ⟨b,o,none⟩)))(hb:h.get b=some (.cells vs own sz))(hv:ltake n (ldrop o vs)=l)(hl:Nat.beq (llen l) n=true):
 aop h base e (.load (some n) x)=some (.val (.agg l.toArray) h):=by
 simp only[aop,hx,bindV,loadA,hb,hv,hl,cond_true]
theorem a_store{x y:Operand}{n b o sz:Nat}{vs ws:List Value}{v:Value}(hx:ev h e x=some (.pointer (some ⟨b,o,none⟩)))(hy:ev h e y=some v)(hb:h.get b=some (.cells vs true sz))
 (hc:(Nat.beq (llen (cellsOf v)) n&&Nat.ble (o+n) (llen vs)&&ones (cellsOf v))=true)(hw:lputs vs o (cellsOf v)=ws):aop h base e (.store n x y)=some (.val (.tuple #[]) (h.wr base b (.cells ws true sz))):=by
 simp only[aop,hx,hy,bindV,storeA,hb,hc,hw,cond_true]
theorem a_num{op:BinOp}{x y:Operand}{a b v:Value}(hx:ev h e x=some a)(hy:ev h e y=some b)(hv:numOp op a b=some v):aop h base e (.bin (.num op) x y)=some (.val v h):=by simp only[aop,hx,hy,bindV,hv]
theorem a_beq{neq:Bool}{x y:Operand}{a b:Bool}(hx:ev h e x=some (.bool a))(hy:ev h e y=some (.bool b)):aop h base e (.bin (.beq neq) x y)=some (.val (.bool (bif neq then !(a==b)else a==b)) h):=by simp only[aop,hx,hy]
theorem a_agg{neq b:Bool}{ls:List Leaf}{x y:Operand}{xs ys:Array Value}(hx:ev h e x=some (.agg xs))(hy:ev h e y=some (.agg ys))(hn:leavesEq ls xs.toList ys.toList=some b):aop h base e (.bin (.agg neq ls) x y)=some (.val (.bool (bif neq then !b else b)) h):=by
 simp only[aop,hx,hy,bindV,hn]
theorem a_not{x:Operand}{b:Bool}(hx:ev h e x=some (.bool b)):aop h base e (.un .not x)=some (.val (.bool !b) h):=by simp only[aop,hx,bindV,unOpA]
theorem a_faddr{off b o:Nat}{x:Operand}(hx:ev h e x=some (.pointer (some ⟨b,o,none⟩))):aop h base e (.faddr off x)=some (.val (.pointer (some ⟨b,o+off,none⟩)) h):=by simp only[aop,hx]
theorem a_iaddrS{size b o len cap i:Nat}{k:IntKind}{x y:Operand}(hx:ev h e x=some (.slice (some ⟨b,o,none⟩) len cap))(hy:ev h e y=some (.int k (i:Nat)))(hi:i<len):aop h base e (.iaddrS size x y)=some (.val (.pointer (some ⟨b,o+i*size,none⟩)) h):=by
 have:(.int k (i:Nat):Value)= .int k (Int.ofNat i):=rfl
 rw[this]at hy
 simp only[aop,hx,hy,blt_eq,decide_eq_true hi,cond_true]
theorem a_extract{x:Operand}{i:Nat}{vs:Array Value}{v:Value}(hx:ev h e x=some (.tuple vs))(hv:lget vs.toList i=some v):aop h base e (.extract x i)=some (.val v h):=by simp only[aop,hx,bindV,hv]
theorem a_len1{x:Operand}{a:Option Addr}{n c:Nat}(hx:ev h e x=some (.slice a n c)):aop h base e (.len 1 x)=some (.val (.int .i64 n) h):=by simp only[aop,hx]
theorem a_mkFunc{fn:Fn}{fs cs:List Operand}{as bs:List Value}(h1:evs h e fs=some as)(h2:evs h e cs=some bs):aop h base e (.mkFunc fn fs cs)=some (.val (.func fn as.toArray bs.toArray) h):=by simp only[aop,h1,h2]
theorem a_nilchk{x:Operand}{b o:Nat}(hx:ev h e x=some (.pointer (some ⟨b,o,none⟩))):aop h base e (.nilchk x)=some (.val (.pointer (some ⟨b,o,none⟩)) h):=by simp only[aop,hx,bindV]
theorem a_call{f:Operand}{args:List Operand}{fv:Value}{as:List Value}{g:Nat}{first cap:Array Value}{all:List Value}(hf:ev h e f=some fv)(ha:evs h e args=some as)(hv:fv= .func (.func g) first cap)(hl:lcat first.toList (lcat as cap.toList)=all):
 aop h base e (.call f args)=some (.call (.func g) all h):=by subst hv;simp only[aop,hf,ha,fnCall,hl]
theorem wrapA_i64{n:Int}(h1: -9223372036854775808≤n)(h2:n<9223372036854775808):wrapA .i64 n=n:=by
 rw[wrapA_eq,IntKind.wrap_i64];omega
theorem m_lss{k:IntKind}{a b:Int}:numOp .lss (.int k a) (.int k b)=some (.bool (decide (a<b))):=by simp[numOp,arith,cmpInt]
theorem m_leq{k:IntKind}{a b:Int}:numOp .leq (.int k a) (.int k b)=some (.bool (decide (a≤b))):=by simp[numOp,arith,cmpInt]
theorem m_gtr{k:IntKind}{a b:Int}:numOp .gtr (.int k a) (.int k b)=some (.bool (decide (b<a))):=by simp[numOp,arith,cmpInt]
theorem m_geq{k:IntKind}{a b:Int}:numOp .geq (.int k a) (.int k b)=some (.bool (decide (b≤a))):=by simp[numOp,arith,cmpInt]
theorem m_eql{k:IntKind}{a b:Int}:numOp .eql (.int k a) (.int k b)=some (.bool (a==b)):=by simp[numOp,arith,cmpInt]
theorem m_neq{k:IntKind}{a b:Int}:numOp .neq (.int k a) (.int k b)=some (.bool (a !=b)):=by simp[numOp,arith,cmpInt]
theorem m_add{k:IntKind}{a b c:Int}(hc:wrapA k (a+b)=c):numOp .add (.int k a) (.int k b)=some (.int k c):=by simp[numOp,arith,hc]
theorem m_sub{k:IntKind}{a b c:Int}(hc:wrapA k (a-b)=c):numOp .sub (.int k a) (.int k b)=some (.int k c):=by simp[numOp,arith,hc]
theorem m_inc{n:Nat}(hn:n<9223372036854775807):numOp .add (.int .i64 n) (.int .i64 1)=some (.int .i64 (n+1:Nat)):=m_add (by rw[wrapA_i64]<;>omega)
theorem WFkeys{l m:List (Nat×AObj)}(hk:l.map (·.1)=m.map (·.1))(hn:(m.map (·.1)).Nodup)(hg:∀b,b∈m.map (·.1)→getO l b=getO m b):l=m:=by
 induction m generalizing l with
 |nil=>simpa using hk
 |cons p m ih=>
  obtain⟨k,o⟩:=p
  cases l with
  |nil=>simp at hk
  |cons q l=>
   obtain⟨k',o'⟩:=q
   simp only[List.map_cons,List.cons.injEq]at hk
   obtain⟨h1,h2⟩:=hk
   subst h1
   simp only[List.map_cons,List.nodup_cons]at hn
   have h3:=hg k' (by simp)
   simp only[getO,cond_eq_ite,beq_eq,decide_true,if_true]at h3
   cases h3
   congr 1
   refine ih h2 hn.2 fun b hb=> ?_
   have h4:=hg b (by simp[hb])
   have hne:k'≠b:=fun e=>hn.1 (e▸hb)
   simpa only[getO,cond_eq_ite,beq_eq,decide_eq_true_eq,if_neg hne]using h4
structure WF (h:Heap):Prop where
 nodup:(h.objs.map (·.1)).Nodup
 lt:∀b,b∈h.objs.map (·.1)→b<h.next
theorem downTo_mem{a n b:Nat}:b∈downTo a n↔a≤b∧b<a+n:=by
 induction n with
 |zero=>simp[downTo]
 |succ n ih=>simp[downTo,ih];omega
theorem downTo_nodup(a n:Nat):(downTo a n).Nodup:=by
 induction n with
 |zero=>simp[downTo]
 |succ n ih=>simp only[downTo,List.nodup_cons,downTo_mem];exact⟨by omega,ih⟩
theorem WF.as{base:Nat}{h h':Heap}(hw:WF h)(hA:AS base h h'):WF h' where
 nodup:=by
  rw[hA.keys,List.nodup_append]
  refine⟨downTo_nodup _ _,hw.nodup,fun a ha b hb=> ?_⟩
  rw[downTo_mem]at ha
  have:=hw.lt b hb
  omega
 lt:=fun b hb=>by
  rw[hA.keys,List.mem_append]at hb
  have:=hA.next
  rcases hb with hb|hb
  ·rw[downTo_mem]at hb;omega
  ·have:=hw.lt b hb;omega
theorem WF.log{h:Heap}(hw:WF h)(l:List Nat):WF {h with log:=l}:=⟨hw.nodup,hw.lt⟩
theorem WF.push{h:Heap}(hw:WF h)(o:AObj):WF (h.push o):=hw.as (AS.push 0 h o)
structure Ext (h h':Heap):Prop where
 next:h.next≤h'.next
 log:h'.log=h.log
 old:∀b,b<h.next→h'.get b=h.get b
 wf:WF h→WF h'
theorem Ext.refl(h:Heap):Ext h h:=⟨Nat.le_refl _,rfl,fun _ _=>rfl,id⟩
theorem Ext.trans{a b c:Heap}(h:Ext a b)(g:Ext b c):Ext a c:=⟨Nat.le_trans h.next g.next,g.log.trans h.log,fun x hx=>(g.old x (Nat.lt_of_lt_of_le hx h.next)).trans (h.old x hx),fun w=>g.wf (h.wf w)⟩
theorem Ext.push{a b:Heap}(h:Ext a b)(o:AObj):Ext a (b.push o):=⟨Nat.le_succ_of_le h.next,h.log,fun x hx=>(Heap.get_push_old (Nat.lt_of_lt_of_le hx h.next)).trans (h.old x hx),fun w=>(h.wf w).push o⟩
theorem Ext.wr{a b:Heap}(h:Ext a b){base x:Nat}{o:AObj}(hx:a.next≤x)(hb:base≤x):Ext a (b.wr base x o):=⟨h.next,(Heap.log_wr_new hb).trans h.log,fun y hy=>(Heap.get_wr_old (by omega)).trans (h.old y hy),fun w=>(h.wf w).as (AS.wr base b x o)⟩
theorem getO_none{l:List (Nat×AObj)}{b:Nat}(hb:b ∉ l.map (·.1)):getO l b=none:=by
 induction l with
 |nil=>rfl
 |cons p l ih=>
  obtain⟨k,o⟩:=p
  simp only[List.map_cons,List.mem_cons,not_or]at hb
  simp only[getO,cond_eq_ite,beq_eq,decide_eq_true_eq]
  rw[if_neg (Ne.symm hb.1)];exact ih hb.2
theorem gc_pure{h h1:Heap}{v:Value}(hw:WF h)(hA:AS h.next h h1)(hl:h1.log=h.log)(h0:h.log=[])(hv:noRef v=true):gcA h h1 v=h:=by
 have hA':=hA.keys
 have e:ldrop (h1.next-h.next) h1.objs=h.objs:=by
  rw[ldrop_eq]
  have hlen:(downTo h.next (h1.next-h.next)).length=h1.next-h.next:=by
   generalize h1.next-h.next=n
   induction n with
   |zero=>rfl
   |succ n ih=>simp[downTo,ih]
  have hk:(h1.objs.drop (h1.next-h.next)).map (·.1)=h.objs.map (·.1):=by
   rw[List.map_drop,hA',List.drop_append_of_le_length (by omega),List.drop_of_length_le (by omega),List.nil_append]
  refine WFkeys hk hw.nodup fun b hb=> ?_
  have hbl:=hw.lt b hb
  have hs:=hA.same b hbl hbl (by rw[hl,h0];rfl)
  have hsplit:h1.objs=h1.objs.take (h1.next-h.next)++h1.objs.drop (h1.next-h.next):=(List.take_append_drop _ _).symm
  have hkt:(h1.objs.take (h1.next-h.next)).map (·.1)=downTo h.next (h1.next-h.next):=by
   rw[List.map_take,hA',List.take_append_of_le_length (by omega),List.take_of_length_le (by omega)]
  have:=getO_drop _ h.next _ (h1.objs.drop (h1.next-h.next)) hkt b hbl
  rw[←hsplit]at this
  exact this.symm.trans hs
 simp only[gcA,hv,hl,h0,cleanA,Bool.and_true,cond_true,dropA,e]
 cases h;simp at h0⊢;exact h0
end Go.A
end
section
namespace Go.A
variable {T:Nat→Option AFunc} {base:Nat} {rnd:Option Nat} {Q:XQ} {e:Env} {ds:Dfs} {h:Heap}
structure Rdy (h:Heap):Prop where
 wf:WF h
 log:h.log=[]
def Pu(T:Nat→Option AFunc)(f:Nat)(args:List Value)(h:Heap)(v:Value):Prop:=CW T f args h fun r h'=>r= .ret v∧h'=h
structure endP (rs:List (Nat×Option (Option Nat))) (v0:Value) (x:AExit) (e:Env) (ds:Dfs) (h1:Heap):Prop where
 ok:(x= .normal∨x= .ret)∧ds=[]∧h1.log=[]∧∃vs,resultsA h1 e rs=some vs∧oneV vs=v0
theorem endP_ret{rs:List (Nat×Option (Option Nat))}{v0:Value}{vs:List Value}(hl:h.log=[])(hr:resultsA h e rs=some vs)(hv:oneV vs=v0):endP rs v0 .ret e [] h:=⟨⟨.inr rfl,rfl,hl,vs,hr,hv⟩⟩
theorem Pu.of(hp:primAS T){f:Nat}{args:List Value}{c:ACode}{rs:List (Nat×Option (Option Nat))}{v0:Value}(hf:T f=some (.code c rs))(hr:Rdy h)(hv:noRef v0=true)(H:WE T h.next none c (endP rs v0) (paramsE 0 args) [] h):Pu T f args h v0:=by
 obtain⟨x,e,ds,h1,⟨m,hm⟩,⟨hx,rfl,hl,vs,hvs,rfl⟩⟩:=H.ok
 have hA:=(ASall.all hp m).exec _ _ _ _ _ _ _ _ _ _ (hm m (Nat.le_refl _)) (Nat.le_refl _)
 refine CW.code hf ⟨x,e,[],h1,⟨m,hm⟩,?_⟩
 unfold endQ
 have hg:=gc_pure hr.wf hA (hl.trans hr.log.symm) hr.log hv
 rcases hx with rfl|rfl
 ·simp only[hvs,hg];exact⟨trivial,trivial⟩
 ·simp only[hvs,hg];exact⟨trivial,trivial⟩
theorem FW.pu{f:Nat}{args:List Value}{v:Value}{K:Env→Dfs→Heap→Prop}{dst:Option Nat}(H:Pu T f args {h with log:=[]} v)(hK:K (dstE e dst v) ds h):FW T (.func f) args {h with log:=[]} (KO K Q base dst e ds h.log):=by
 refine .func (CW.mono H ?_)
 rintro r h' ⟨rfl,rfl⟩
 exact⟨hK⟩
theorem Rdy.of{h:Heap}(hw:WF h):Rdy {h with log:=[]}:=⟨hw.log [],rfl⟩
theorem FW.puD{f:Nat}{args:List Value}{v:Value}{K:List Rec→Env→Heap→Prop}{mask:Nat}{rs rs':List Rec}{dst:Option Nat}(H:Pu T f args {h with log:=[]} v)(hrs:recsAfter h base [] mask rs=some rs')(hK:K rs' (dstE e dst v) h):
 FW T (.func f) args {h with log:=[]} (KD K base mask rs dst e h.log):=by
 refine .func (CW.mono H ?_)
 rintro r h' ⟨rfl,rfl⟩
 refine⟨?_⟩
 show(match recsAfter {h with log:=mergeLog base h.log []} base [] mask rs with
  |some rs'=>K rs' (dstE e dst v) {h with log:=mergeLog base h.log []}
  |none=>False)
 have:({h with log:=mergeLog base h.log []}:Heap)=h:=rfl
 rw[this,hrs]
 exact hK
structure SliceAt (h:Heap) (b o n sz:Nat) (cs:List Value):Prop where
 lt:b<h.next
 obj:∃vs own s,h.get b=some (.cells vs own s)∧ltake (n*sz) (ldrop o vs)=cs
 len:cs.length=n*sz
inductive SliceOf (h:Heap) (sz:Nat):Value→Nat→List Value→Prop
 |nil {c}:SliceOf h sz (.slice none 0 c) 0 []
 |mem {b o n cap cs}:SliceAt h b o n sz cs→n≤cap→SliceOf h sz (.slice (some ⟨b,o,none⟩) n cap) n cs
theorem SliceAt.ext{h h':Heap}{b o n sz:Nat}{cs:List Value}(s:SliceAt h b o n sz cs)(x:Ext h h'):SliceAt h' b o n sz cs:=by
 obtain⟨vs,own,t,h1,h2⟩:=s.obj
 exact⟨Nat.lt_of_lt_of_le s.lt x.next,⟨vs,own,t,(x.old _ s.lt).trans h1,h2⟩,s.len⟩
theorem SliceOf.ext{h h':Heap}{sz n:Nat}{v:Value}{cs:List Value}(s:SliceOf h sz v n cs)(x:Ext h h'):SliceOf h' sz v n cs:=by
 cases s with
 |nil=>exact .nil
 |mem s hc=>exact .mem (s.ext x) hc
theorem SliceOf.form{h:Heap}{sz n:Nat}{v:Value}{cs:List Value}(s:SliceOf h sz v n cs):∃a c,v= .slice a n c:=by
 cases s<;>exact⟨_,_,rfl⟩
theorem SliceOf.log{h:Heap}{sz n:Nat}{v:Value}{cs:List Value}(s:SliceOf h sz v n cs)(l:List Nat):SliceOf {h with log:=l} sz v n cs:=by
 cases s with
 |nil=>exact .nil
 |mem s hc=>exact .mem ⟨s.lt,s.obj,s.len⟩ hc
theorem SliceOf.inv{h:Heap}{sz n:Nat}{v:Value}{cs:List Value}(s:SliceOf h sz v n cs):(∃c,v= .slice none 0 c∧n=0∧cs=[])∨∃b o cap,v= .slice (some ⟨b,o,none⟩) n cap∧SliceAt h b o n sz cs∧n≤cap:=by
 cases s with
 |nil=>exact .inl ⟨_,rfl,rfl,rfl⟩
 |mem s hc=>exact .inr ⟨_,_,_,rfl,s,hc⟩
theorem SliceOf.take{h:Heap}{sz n i c:Nat}{a:Option Addr}{cs:List Value}(s:SliceOf h sz (.slice a n c) n cs)(hi:i≤n):SliceOf h sz (.slice a i i) i (cs.take (i*sz)):=by
 rcases s.inv with⟨_,hv,h0,rfl⟩|⟨b,o,cap,hv,s1,hc⟩
 ·cases hv
  obtain rfl:i=0:=by omega
  simp
  exact .nil
 ·cases hv
  refine .mem ⟨s1.lt,?_,?_⟩ (Nat.le_refl _)
  ·obtain⟨vs,own,t,h1,h2⟩:=s1.obj
   refine⟨vs,own,t,h1,?_⟩
   rw[←h2]
   simp only[ltake_eq,List.take_take]
   rw[Nat.min_eq_left (Nat.mul_le_mul_right _ hi)]
  ·rw[List.length_take,s1.len,Nat.min_eq_left (Nat.mul_le_mul_right _ hi)]
theorem SliceOf.len{h:Heap}{sz n:Nat}{v:Value}{cs:List Value}(s:SliceOf h sz v n cs):cs.length=n*sz:=by
 cases s with
 |nil=>simp
 |mem s _=>exact s.len
end Go.A
end
section
namespace Go.A
variable {T:Nat→Option AFunc} {base:Nat} {rnd:Option Nat} {Q:XQ} {e:Env} {ds:Dfs} {h:Heap}
theorem m_geqT{k:IntKind}{a b:Int}(h:b≤a):numOp .geq (.int k a) (.int k b)=some (.bool true):=by rw[m_geq,decide_eq_true h]
theorem m_geqF{k:IntKind}{a b:Int}(h:a<b):numOp .geq (.int k a) (.int k b)=some (.bool false):=by rw[m_geq,decide_eq_false (by omega)]
theorem m_leqT{k:IntKind}{a b:Int}(h:a≤b):numOp .leq (.int k a) (.int k b)=some (.bool true):=by rw[m_leq,decide_eq_true h]
theorem m_leqF{k:IntKind}{a b:Int}(h:b<a):numOp .leq (.int k a) (.int k b)=some (.bool false):=by rw[m_leq,decide_eq_false (by omega)]
theorem m_lssT{k:IntKind}{a b:Int}(h:a<b):numOp .lss (.int k a) (.int k b)=some (.bool true):=by rw[m_lss,decide_eq_true h]
theorem m_lssF{k:IntKind}{a b:Int}(h:b≤a):numOp .lss (.int k a) (.int k b)=some (.bool false):=by rw[m_lss,decide_eq_false (by omega)]
theorem m_gtrT{k:IntKind}{a b:Int}(h:b<a):numOp .gtr (.int k a) (.int k b)=some (.bool true):=by rw[m_gtr,decide_eq_true h]
theorem m_gtrF{k:IntKind}{a b:Int}(h:a≤b):numOp .gtr (.int k a) (.int k b)=some (.bool false):=by rw[m_gtr,decide_eq_false (by omega)]
theorem m_eqlT{k:IntKind}{a b:Int}(h:a=b):numOp .eql (.int k a) (.int k b)=some (.bool true):=by rw[m_eql];simp[h]
theorem m_eqlF{k:IntKind}{a b:Int}(h:a≠b):numOp .eql (.int k a) (.int k b)=some (.bool false):=by rw[m_eql];simp[h]
theorem m_neqT{k:IntKind}{a b:Int}(h:a≠b):numOp .neq (.int k a) (.int k b)=some (.bool true):=by rw[m_neq];simp[h]
theorem m_neqF{k:IntKind}{a b:Int}(h:a=b):numOp .neq (.int k a) (.int k b)=some (.bool false):=by rw[m_neq];simp[h]
end Go.A
end
section
namespace Go.A
variable {T:Nat→Option AFunc} {base:Nat} {rnd:Option Nat} {Q:XQ} {e:Env} {ds:Dfs} {h:Heap}
def Al(T:Nat→Option AFunc)(f:Nat)(args:List Value)(h:Heap)(Q:Value→Heap→Prop):Prop:=CW T f args h fun r h'=>Ext h h'∧∃v,r= .ret v∧Q v h'
structure endA (rs:List (Nat×Option (Option Nat))) (Q:Value→Heap→Prop) (x:AExit) (e:Env) (ds:Dfs) (h1:Heap):Prop where
 ok:(x= .normal∨x= .ret)∧ds=[]∧h1.log=[]∧∃vs,resultsA h1 e rs=some vs∧Q (oneV vs) h1
theorem endA_ret{rs:List (Nat×Option (Option Nat))}{Q:Value→Heap→Prop}{vs:List Value}(hl:h.log=[])(hr:resultsA h e rs=some vs)(hq:Q (oneV vs) h):endA rs Q .ret e [] h:=⟨⟨.inr rfl,rfl,hl,vs,hr,hq⟩⟩
theorem Ext.of_as{h h1:Heap}(hr:Rdy h)(hA:AS h.next h h1)(hl:h1.log=[]):Ext h h1:=
 ⟨hA.next,hl.trans hr.log.symm,fun b hb=>hA.same b hb hb (by rw[hl];rfl),fun w=>w.as hA⟩
theorem Al.of(hp:primAS T){f:Nat}{args:List Value}{c:ACode}{rs:List (Nat×Option (Option Nat))}{Q:Value→Heap→Prop}(hf:T f=some (.code c rs))(hr:Rdy h)(hQ:∀v h1,noRef v=true→Q v h1→Q v h)(H:WE T h.next none c (endA rs Q) (paramsE 0 args) [] h):Al T f args h Q:=by
 obtain⟨x,e,ds,h1,⟨m,hm⟩,⟨hx,rfl,hl,vs,hvs,hq⟩⟩:=H.ok
 have hA:=(ASall.all hp m).exec _ _ _ _ _ _ _ _ _ _ (hm m (Nat.le_refl _)) (Nat.le_refl _)
 refine CW.code hf ⟨x,e,[],h1,⟨m,hm⟩,?_⟩
 have key:Ext h (gcA h h1 (oneV vs))∧Q (oneV vs) (gcA h h1 (oneV vs)):=by
  cases hv:noRef (oneV vs)with
  |true=>
   rw[gc_pure hr.wf hA (hl.trans hr.log.symm) hr.log hv]
   exact⟨.refl _,hQ _ _ hv hq⟩
  |false=>
   have:gcA h h1 (oneV vs)=h1:=by simp[gcA,hv]
   rw[this]
   exact⟨.of_as hr hA hl,hq⟩
 unfold endQ
 rcases hx with rfl|rfl
 ·simp only[hvs];exact⟨key.1,_,rfl,key.2⟩
 ·simp only[hvs];exact⟨key.1,_,rfl,key.2⟩
theorem Ext.log_of{h h':Heap}(x:Ext {h with log:=[]} h'):Ext h {h' with log:=mergeLog base h.log h'.log}:=by
 have:h'.log=[]:=x.log
 refine⟨x.next,by rw[this];rfl,x.old,fun w=>(x.wf (w.log [])).log _⟩
theorem FW.al{f:Nat}{args:List Value}{Q':Value→Heap→Prop}{K:Env→Dfs→Heap→Prop}{dst:Option Nat}(H:Al T f args {h with log:=[]} Q')(hlog:∀v (h':Heap) l,Q' v h'→Q' v {h' with log:=l})
 (hK:∀v h',Ext h h'→Q' v h'→K (dstE e dst v) ds h'):FW T (.func f) args {h with log:=[]} (KO K Q base dst e ds h.log):=by
 refine .func (CW.mono H ?_)
 rintro r h' ⟨hx,v,rfl,hq⟩
 exact⟨hK v _ hx.log_of (hlog v h' _ hq)⟩
theorem res_cells{t n b o s:Nat}{own:Bool}{ws l:List Value}{rs:List (Nat×Option (Option Nat))}{vs:List Value}(ht:geT e t=some (.pointer (some ⟨b,o,none⟩)))(hb:h.get b=some (.cells ws own s))(hl:ltake n (ldrop o ws)=l)(hn:Nat.beq (llen l) n=true)(hr:resultsA h e rs=some vs):
 resultsA h e ((t,some (some n))::rs)=some (.agg l.toArray::vs):=by simp only[resultsA,ht,loadA,hb,hl,hn,cond_true,hr]
theorem res_cell{t b o s:Nat}{own:Bool}{ws:List Value}{v:Value}{rs:List (Nat×Option (Option Nat))}{vs:List Value}(ht:geT e t=some (.pointer (some ⟨b,o,none⟩)))(hb:h.get b=some (.cells ws own s))(hl:lget ws o=some v)(hr:resultsA h e rs=some vs):
 resultsA h e ((t,some none)::rs)=some (v::vs):=by simp only[resultsA,ht,loadA,hb,hl,hr]
theorem ra_nil{log:List Nat}{mask:Nat}:recsAfter h base log mask []=some []:=rfl
theorem ra_drop{log:List Nat}{mask:Nat}{r:Rec}{rs rs':List Rec}(hb:Nat.testBit mask r.i=true)(H:recsAfter h base log mask rs=some rs'):recsAfter h base log mask (r::rs)=some rs':=by
 simp only[recsAfter,hb,cond_true,H]
theorem ra_keep{log:List Nat}{mask:Nat}{r:Rec}{rs rs':List Rec}(hb:Nat.testBit mask r.i=false)(hq:recQ h base r=true)(hm:recM log r=true)(H:recsAfter h base log mask rs=some rs'):recsAfter h base log mask (r::rs)=some (r::rs'):=by
 simp only[recsAfter,hb,hq,hm,Bool.and_true,cond_true,cond_false,H]
theorem rq_made{r:Rec}{b:Nat}(hk:r.k= .made b):recQ h base r=true:=by simp only[recQ,hk]
theorem rq_quiet{r:Rec}(hk:r.k= .quiet)(hv:aop h base r.e r.o.op=some (.val r.v h))(hs:sameV r.v r.v=true):recQ h base r=true:=by
 have hb:Nat.beq h.next h.next=true:=by rw[beq_eq];simp
 simp only[recQ,hk,hv,hs,hb,Bool.and_self]
theorem rs_nil:recsQ h base []=true:=rfl
theorem rs_cons{r:Rec}{rs:List Rec}(h1:recQ h base r=true)(h2:recsQ h base rs=true):recsQ h base (r::rs)=true:=by simp only[recsQ,h1,cond_true,h2]
theorem sv_ptr(a:Option Addr):sameV (.pointer a) (.pointer a)=true:=by simp[sameV,same1]
theorem sv_int(k:IntKind)(n:Int):sameV (.int k n) (.int k n)=true:=by simp[sameV,same1]
theorem sv_bool(b:Bool):sameV (.bool b) (.bool b)=true:=by simp[sameV,same1]
theorem sv_slice(a:Option Addr)(n c:Nat):sameV (.slice a n c) (.slice a n c)=true:=by simp[sameV,same1]
theorem sv_agg{c:Array Value}(h:sameL c.toList c.toList=true):sameV (.agg c) (.agg c)=true:=h
theorem sl_nil:sameL [] []=true:=rfl
theorem sl_cons{v:Value}{l:List Value}(h1:same1 v v=true)(h2:sameL l l=true):sameL (v::l) (v::l)=true:=by simp only[sameL,h1,cond_true,h2]
theorem s1_int(k:IntKind)(n:Int):same1 (.int k n) (.int k n)=true:=by simp[same1]
theorem src_slice{b o n c size:Nat}{vs cs:List Value}{own:Bool}{s:Nat}(hb:h.get b=some (.cells vs own s))(hc:ltake (n*size) (ldrop o vs)=cs)(hl:cs.length=n*size):srcCells h size (.slice (some ⟨b,o,none⟩) n c)=some (cs,n):=by
 simp only[srcCells,hb,hc,llen_eq,hl,beq_eq,decide_true,cond_true]
theorem a_app_nil{size bytes n c:Nat}{x y:Operand}{v:Value}{cs:List Value}(hx:ev h e x=some (.slice none 0 0))(hy:ev h e y=some v)(hs:srcCells h size v=some (cs,n))(hn:n≠0)(hb:(2*(0+n)+768)*bytes≤281474976710656)(hc:c=UNK):
 aop h base e (.append size bytes x y)=some (.val (.slice (some ⟨h.next,0,none⟩) n c) (h.push (.cells cs true size))):=by
 have h0:Nat.beq n 0=false:=by rw[beq_eq];simpa using hn
 have h1:Nat.ble ((2*(0+n)+768)*bytes) 281474976710656=true:=by rw[ble_eq];simpa using hb
 subst hc
 simp only[aop,hx,hy,hs,appendA,h0,h1,cond_true,cond_false,Nat.beq,Bool.and_self,asPair]
theorem a_app_open{size bytes len n q:Nat}{x y:Operand}{v:Value}{vs cs ws:List Value}(hx:ev h e x=some (.slice (some ⟨q,0,none⟩) len UNK))(hy:ev h e y=some v)(hs:srcCells h size v=some (cs,n))(hn:n≠0)(hq:h.get q=some (.cells vs true size))(hl:vs.length=len*size)
 (hsz:0<size)(h1:ones cs=true)(hb:(2*(len+n)+768)*bytes≤281474976710656)(hw:lcat vs cs=ws):
 aop h base e (.append size bytes x y)=some (.val (.slice (some ⟨h.next,0,none⟩) (len+n) UNK) ((h.wr base q .dead).push (.cells ws true size))):=by
 have h0:Nat.beq n 0=false:=by rw[beq_eq];simpa using hn
 have h2:Nat.ble ((2*(len+n)+768)*bytes) 281474976710656=true:=by rw[ble_eq];simpa using hb
 have h3:Nat.beq UNK UNK=true:=by rw[beq_eq];simp
 have h4:Nat.beq size size=true:=by rw[beq_eq];simp
 have h5:Nat.ble (0+(len+n)*size) (llen vs)=false:=by
  rw[ble_eq,llen_eq,hl,Nat.add_mul]
  have:0<n*size:=Nat.mul_pos (Nat.pos_of_ne_zero hn) hsz
  simp;omega
 have h6:Nat.beq (len*size) (llen vs)=true:=by rw[beq_eq,llen_eq,hl];simp
 simp only[aop,hx,hy,hs,appendA,h0,h2,hq,h3,h4,h5,h6,h1,Bool.and_true,Bool.false_and,cond_true,cond_false,hw,asPair,Nat.beq]
end Go.A
end
section
namespace Go.A
variable {T:Nat→Option AFunc} {base:Nat} {rnd:Option Nat} {Q:XQ} {e:Env} {ds:Dfs} {h:Heap}
theorem wD_actH{ops:List AOper}{bf:List Nat}{rs rs':List Rec}{Q:Env→Heap→Prop}{i mask:Nat}{is:List Nat}{dst:Option Nat}{op:AOp}{g:Option (Nat×Bool)}{er:Env}{v:Value}{h2 h3:Heap}{lg:List Nat}(ho:lget ops i=some ⟨dst,op,g⟩)(hm:lget bf i=some mask)
 (he:keepE e (slotsA ⟨dst,op,g⟩)=er)(hw:wantedA er g=some true)(hq:eagerA op=false)(hop:aop {h with log:=[]} h.next er op=some (.val v h2))(h3e:({h2 with log:=mergeLog base h.log h2.log}:Heap)=h3)(hlg:h2.log=lg)
 (hrs:recsAfter h3 base lg mask rs=some rs')(H:WD T base ops bf Q is rs' (dstE e dst v) h3):WD T base ops bf Q (i::is) rs e h:=by
 subst h3e;subst hlg
 exact wD_act ho hm he hw hq hop hrs H
theorem lg_wr{b:Nat}(hb:b<h.next)(o:AObj):(({h with log:=[]}:Heap).wr h.next b o).log=[b]:=by
 simp[Heap.wr,blt_eq,hb,lhas]
theorem eq_wr{b:Nat}(hb:b<h.next)(hbb:base≤b)(o:AObj):({({h with log:=[]}:Heap).wr h.next b o with log:=mergeLog base h.log (({h with log:=[]}:Heap).wr h.next b o).log}:Heap)=h.wr base b o:=by
 rw[lg_wr hb]
 have h1:Nat.blt b base=false:=by rw[blt_eq];simp;omega
 simp only[Heap.wr,mergeLog,h1,cond_false]
theorem wD_store{ops:List AOper}{bf:List Nat}{rs rs':List Rec}{Q:Env→Heap→Prop}{i mask:Nat}{is:List Nat}{dst:Option Nat}{x y:Operand}{n b o sz:Nat}{vs ws:List Value}{v:Value}{g:Option (Nat×Bool)}{er:Env}(ho:lget ops i=some ⟨dst, .store n x y,g⟩)(hm:lget bf i=some mask)
 (he:keepE e (slotsA ⟨dst, .store n x y,g⟩)=er)(hw:wantedA er g=some true)(hx:ev {h with log:=[]} er x=some (.pointer (some ⟨b,o,none⟩)))(hy:ev {h with log:=[]} er y=some v)(hb:h.get b=some (.cells vs true sz))
 (hc:(Nat.beq (llen (cellsOf v)) n&&Nat.ble (o+n) (llen vs)&&ones (cellsOf v))=true)(hws:lputs vs o (cellsOf v)=ws)(hlt:b<h.next)(hbb:base≤b)(hrs:recsAfter (h.wr base b (.cells ws true sz)) base [b] mask rs=some rs')
 (H:WD T base ops bf Q is rs' (dstE e dst (.tuple #[])) (h.wr base b (.cells ws true sz))):WD T base ops bf Q (i::is) rs e h:=
 wD_actH ho hm he hw rfl (a_store (h:={h with log:=[]}) hx hy hb hc hws) (eq_wr hlt hbb _) (lg_wr hlt _) hrs H
theorem Heap.get_push_at{h:Heap}{o:AObj}{x:Nat}(h1:x≤h.next)(h2:h.next≤x):(h.push o).get x=some o:=by rw[Heap.get_push,if_pos (Nat.le_antisymm h1 h2)]
theorem Heap.get_wr_at{h:Heap}{base b:Nat}{o:AObj}{x:Nat}(h1:x≤b)(h2:b≤x):(h.wr base b o).get x=(h.get x).map fun _=>o:=by rw[Heap.get_wr,if_pos (Nat.le_antisymm h1 h2),Nat.le_antisymm h1 h2]
theorem ra_dropC{log:List Nat}{mask i:Nat}{o:AOper}{e:Env}{v:Value}{k:Rk}{rs rs':List Rec}(hb:Nat.testBit mask i=true)(H:recsAfter h base log mask rs=some rs'):recsAfter h base log mask (⟨i,o,e,v,k⟩::rs)=some rs':=ra_drop hb H
theorem ra_keepC{log:List Nat}{mask i:Nat}{o:AOper}{e:Env}{v:Value}{k:Rk}{rs rs':List Rec}(hb:Nat.testBit mask i=false)(hq:recQ h base ⟨i,o,e,v,k⟩=true)(hm:recM log ⟨i,o,e,v,k⟩=true)(H:recsAfter h base log mask rs=some rs'):
 recsAfter h base log mask (⟨i,o,e,v,k⟩::rs)=some (⟨i,o,e,v,k⟩::rs'):=ra_keep hb hq hm H
end Go.A
end
section
namespace Go.A
variable {T:Nat→Option AFunc} {base:Nat} {rnd:Option Nat} {Q:XQ} {e:Env} {ds:Dfs} {h:Heap}
theorem nbeq_self(n:Nat):Nat.beq n n=true:=by rw[beq_eq];simp
theorem nble_of{a b:Nat}(h:a≤b):Nat.ble a b=true:=by rw[ble_eq];simpa using h
theorem nblt_of{a b:Nat}(h:a<b):Nat.blt a b=true:=by rw[blt_eq];simpa using h
theorem nblt_not{a b:Nat}(h:¬a<b):Nat.blt a b=false:=by rw[blt_eq];simpa using h
theorem eq_wrA{b:Nat}(hb:b<h.next)(o:AObj):({({h with log:=[]}:Heap).wr h.next b o with log:=mergeLog base h.log (({h with log:=[]}:Heap).wr h.next b o).log}:Heap)=h.wr base b o:=by
 rw[lg_wr hb]
 rfl
theorem lputs_mid{α:Type}{l m:List α}{o:Nat}(ho:o+m.length≤l.length):lputs l o m=l.take o++m++l.drop (o+m.length):=by
 apply List.ext_getElem?
 intro i
 rw[lputs_get m l o i ho]
 by_cases h1:o≤i∧i<o+m.length
 ·rw[if_pos h1,List.getElem?_append_left (by simp;omega),List.getElem?_append_right (by simp;omega)]
  congr 1;simp;omega
 ·rw[if_neg h1]
  by_cases h2:i<o
  ·rw[List.getElem?_append_left (by simp;omega),List.getElem?_append_left (by simp;omega),List.getElem?_take_of_lt h2]
  ·rw[List.getElem?_append_right (by simp;omega),List.getElem?_drop]
   congr 1;simp;omega
structure Upd (h h':Heap) (b:Nat) (o:AObj):Prop where
 next:h.next≤h'.next
 log:h'.log=[b]
 old:∀x,x<h.next→x≠b→h'.get x=h.get x
 obj:h'.get b=some o
 wf:WF h→WF h'
theorem Upd.wr{h h':Heap}{b:Nat}{o:AObj}(hb:b<h.next)(hl:h'.log=[]∨h'.log=[b])(hn:h.next≤h'.next)(ho:∀x,x<h.next→x≠b→h'.get x=h.get x){o':AObj}(hg:h'.get b=some o')(hw:WF h→WF h'):Upd h (h'.wr h.next b o) b o where
 next:=hn
 log:=by
  have h1:Nat.blt b h.next=true:=nblt_of hb
  rcases hl with hl|hl
  ·simp only[Heap.wr,h1,hl,lhas,cond_true,cond_false]
  ·simp only[Heap.wr,h1,hl,lhas,nbeq_self,cond_true]
 old:=fun x hx hne=>(Heap.get_wr_old hne).trans (ho x hx hne)
 obj:=Heap.get_wr_new hg
 wf:=fun w=>(hw w).as (AS.wr _ _ _ _)
theorem Ext.upd{a h h':Heap}{b:Nat}(x:Ext a h)(hb:a.next≤b)(hn:h.next≤h'.next)(hl:h'.log=h.log)(ho:∀x,x<h.next→x≠b→h'.get x=h.get x)(hw:WF h→WF h'):Ext a h':=
 ⟨Nat.le_trans x.next hn,hl.trans x.log,fun y hy=>(ho y (Nat.lt_of_lt_of_le hy x.next) (by omega)).trans (x.old y hy),fun w=>hw (x.wf w)⟩
theorem FW.upd{f b:Nat}{args:List Value}{v:Value}{P:List Value→Prop}{sz:Nat}{K:Env→Dfs→Heap→Prop}{dst:Option Nat}(H:CW T f args {h with log:=[]} fun r h'=>∃u,r= .ret u∧u=v∧∃cs,P cs∧Upd {h with log:=[]} h' b (.cells cs true sz))(hb:base≤b)
 (hK:∀h' cs,P cs→h.next≤h'.next→h'.log=h.log→(∀x,x<h.next→x≠b→h'.get x=h.get x)→h'.get b=some (.cells cs true sz)→(WF h→WF h')→K (dstE e dst v) ds h'):FW T (.func f) args {h with log:=[]} (KO K Q base dst e ds h.log):=by
 refine .func (CW.mono H ?_)
 rintro r h' ⟨u,rfl,rfl,cs,hP,q⟩
 refine⟨hK _ cs hP q.next ?_ q.old q.obj fun w=>(q.wf (w.log [])).log _⟩
 show mergeLog base h.log h'.log=h.log
 rw[q.log]
 simp only[mergeLog,nblt_not (show¬b<base by omega),cond_false]
end Go.A
end
section
namespace Go.A
theorem z1(h:Heap)(o:AObj):(h.push o).next=h.next+1:=rfl
theorem z2(h:Heap)(base b:Nat)(o:AObj):(h.wr base b o).next=h.next:=rfl
theorem z3(h:Heap)(o:AObj):(h.push o).get h.next=some o:=Heap.get_push_new h o
theorem z4{h:Heap}{o:AObj}{x:Nat}(hx:x<h.next):(h.push o).get x=h.get x:=Heap.get_push_old hx
theorem z5{h:Heap}{base b:Nat}{o:AObj}{x:Nat}(hx:x≠b):(h.wr base b o).get x=h.get x:=Heap.get_wr_old hx
theorem z6(h:Heap)(base b:Nat)(o:AObj):(h.wr base b o).get b=(h.get b).map fun _=>o:=Heap.get_wr_self h base b o
theorem z7{α β:Type}(f:α→β)(a:α):Option.map f (some a)=some (f a):=rfl
theorem z8{h:Heap}{o:AObj}{x:Nat}(h1:x≤h.next)(h2:h.next≤x):(h.push o).get x=some o:=Heap.get_push_at h1 h2
theorem z9{h:Heap}{base b:Nat}{o:AObj}{x:Nat}(h1:x≤b)(h2:b≤x):(h.wr base b o).get x=(h.get x).map fun _=>o:=Heap.get_wr_at h1 h2
end Go.A
end
section
namespace Go.A
variable {T:Nat→Option AFunc} {base:Nat} {rnd:Option Nat} {Q:XQ} {e:Env} {ds:Dfs} {h:Heap}
def LogGe(lo:Nat)(l:List Nat):Prop:=∀x∈l,lo≤x
theorem LogGe.nil(lo:Nat):LogGe lo []:=fun x hx=>by cases hx
theorem LogGe.merge{lo base:Nat}:∀{m l:List Nat},LogGe lo l→LogGe lo m→LogGe lo (mergeLog base l m)
 |[],l,h1,_=>h1
 |b::m,l,h1,h2=>by
  simp only[mergeLog]
  refine LogGe.merge ?_ fun x hx=>h2 x (List.mem_cons_of_mem _ hx)
  have hb:=h2 b (List.mem_cons_self ..)
  simp only[cond_eq_ite]
  split
  ·split
   ·exact h1
   ·intro x hx
    rcases List.mem_cons.1 hx with rfl|hx
    ·exact hb
    ·exact h1 x hx
  ·exact h1
structure Lk (lo:Nat) (h h':Heap):Prop where
 next:h.next≤h'.next
 log:LogGe lo h.log→LogGe lo h'.log
 old:∀x,x<lo→h'.get x=h.get x
 wf:WF h→WF h'
theorem Lk.refl(lo:Nat)(h:Heap):Lk lo h h:=⟨Nat.le_refl _,id,fun _ _=>rfl,id⟩
theorem Lk.trans{lo:Nat}{a b c:Heap}(x:Lk lo a b)(y:Lk lo b c):Lk lo a c:=⟨Nat.le_trans x.next y.next,fun h=>y.log (x.log h),fun z hz=>(y.old z hz).trans (x.old z hz),fun w=>y.wf (x.wf w)⟩
theorem Lk.push{lo:Nat}{a b:Heap}(x:Lk lo a b)(hlo:lo≤b.next)(o:AObj):Lk lo a (b.push o):=x.trans ⟨Nat.le_succ _,id,fun z hz=>Heap.get_push_old (by omega),fun w=>w.push o⟩
theorem Lk.wr{lo:Nat}{a b:Heap}(x:Lk lo a b){base y:Nat}{o:AObj}(hy:lo≤y):Lk lo a (b.wr base y o):=
 x.trans ⟨Nat.le_refl _,fun hl=>by
  simp only[Heap.wr,cond_eq_ite]
  split
  ·split
   ·exact hl
   ·intro z hz
    rcases List.mem_cons.1 hz with rfl|hz
    ·exact hy
    ·exact hl z hz
  ·exact hl,fun z hz=>Heap.get_wr_old (by omega),fun w=>w.as (AS.wr _ _ _ _)⟩
theorem Lk.mono{lo lo':Nat}{a b:Heap}(x:Lk lo a b)(h:lo'≤lo)(hl:LogGe lo a.log):Lk lo' a b:=⟨x.next,fun _ z hz=>Nat.le_trans h (x.log hl z hz),fun z hz=>x.old z (by omega),x.wf⟩
theorem Ext.lk{lo:Nat}{a b:Heap}(x:Ext a b)(hlo:lo≤a.next):Lk lo a b:=⟨x.next,fun h=>by rw[x.log];exact h,fun z hz=>x.old z (by omega),x.wf⟩
theorem lhas_false{l:List Nat}{x:Nat}(h:x ∉ l):lhas l x=false:=by
 cases e:lhas l x with
 |false=>rfl
 |true=>exact(h (lhas_mem.1 e)).elim
theorem Lk.of_as{lo:Nat}{h h':Heap}(hA:AS h.next h h')(hlo:lo≤h.next)(hl:LogGe lo h'.log):Lk lo h h':=
 ⟨hA.next,fun _=>hl,fun x hx=>hA.same x (by omega) (by omega) (lhas_false fun hm=>by have:=hl x hm;omega),fun w=>w.as hA⟩
theorem Lk.call{lo:Nat}{h h2:Heap}(x:Lk lo {h with log:=[]} h2):Lk lo h {h2 with log:=mergeLog base h.log h2.log}:=
 ⟨x.next,fun hl=>hl.merge (x.log (LogGe.nil _)),x.old,fun w=>(x.wf (w.log [])).log _⟩
def Gr(T:Nat→Option AFunc)(f:Nat)(args:List Value)(h:Heap)(lo:Nat)(Q:Value→Heap→Prop):Prop:=CW T f args h fun r h'=>Lk lo h h'∧∃v,r= .ret v∧Q v h'
structure endG (rs:List (Nat×Option (Option Nat))) (lo:Nat) (Q:Value→Heap→Prop) (x:AExit) (e:Env) (ds:Dfs) (h1:Heap):Prop where
 ok:(x= .normal∨x= .ret)∧ds=[]∧LogGe lo h1.log∧∃vs,resultsA h1 e rs=some vs∧Q (oneV vs) h1
theorem gc_agree{h h1:Heap}{v:Value}(hA:AS h.next h h1):(∀x,x<h.next→(gcA h h1 v).get x=h1.get x)∧h.next≤(gcA h h1 v).next∧(gcA h h1 v).log=h1.log∧(noRef v=false→gcA h h1 v=h1):=by
 unfold gcA
 cases hc:(noRef v&&cleanA h1 h.next h1.log)with
 |false=>exact⟨fun _ _=>rfl,hA.next,rfl,fun _=>rfl⟩
 |true=>
  refine⟨fun x hx=> ?_,Nat.le_refl _,rfl,fun hn=>by rw[hn]at hc;cases hc⟩
  have hA':=hA.keys
  have hlen:(downTo h.next (h1.next-h.next)).length=h1.next-h.next:=by
   generalize h1.next-h.next=n
   induction n with
   |zero=>rfl
   |succ n ih=>simp[downTo,ih]
  have hkt:(h1.objs.take (h1.next-h.next)).map (·.1)=downTo h.next (h1.next-h.next):=by
   rw[List.map_take,hA',List.take_append_of_le_length (by omega),List.take_of_length_le (by omega)]
  have:=getO_drop _ h.next _ (h1.objs.drop (h1.next-h.next)) hkt x hx
  rw[List.take_append_drop]at this
  show getO (ldrop (h1.next-h.next) h1.objs) x=getO h1.objs x
  rw[ldrop_eq]
  exact this.symm
theorem Gr.of(hp:primAS T){f:Nat}{args:List Value}{c:ACode}{rs:List (Nat×Option (Option Nat))}{lo:Nat}{Q:Value→Heap→Prop}(hf:T f=some (.code c rs))(hlo:lo≤h.next)
 (hQ:∀v h1 h2,noRef v=true→h.next≤h2.next→(∀x,x<h.next→h2.get x=h1.get x)→Q v h1→Q v h2)(H:WE T h.next none c (endG rs lo Q) (paramsE 0 args) [] h):Gr T f args h lo Q:=by
 obtain⟨x,e,ds,h1,⟨m,hm⟩,⟨hx,rfl,hl,vs,hvs,hq⟩⟩:=H.ok
 have hA:=(ASall.all hp m).exec _ _ _ _ _ _ _ _ _ _ (hm m (Nat.le_refl _)) (Nat.le_refl _)
 obtain⟨g1,g2,g3,g4⟩:=gc_agree (v:=oneV vs) hA
 have key:Lk lo h (gcA h h1 (oneV vs))∧∃v,Res.ret (oneV vs)= .ret v∧Q v (gcA h h1 (oneV vs)):=by
  refine⟨Lk.of_as (hA.gc' _) hlo (by rw[g3];exact hl),_,rfl,?_⟩
  cases hv:noRef (oneV vs)with
  |true=>exact hQ _ _ _ hv g2 g1 hq
  |false=>rw[g4 hv];exact hq
 refine CW.code hf ⟨x,e,[],h1,⟨m,hm⟩,?_⟩
 unfold endQ
 rcases hx with rfl|rfl<;>(simp only[hvs];exact key)
theorem wr0(l:Nat)(o:AObj):({h with objs:=setO h.objs l o}:Heap)=h.wr 0 l o:=rfl
def busy:AObj→Bool
 | .loop _ _ _ _ 1 _=>true
 |_=>false
def yEnd(h:Heap)(l:Nat)(e:Env)(ps:List Nat)(asg body:ACode):AExit→Heap→Option (Res×Heap)
 | .normal,h3=>some (.ret (.bool true),gcA h (h3.wr 0 l (.loop e ps asg body 0 .normal)) (.bool true))
 | .exit i,h3=>some (.ret (.bool false),h3.wr h.next l (.loop e ps asg body 2 (.exit i)))
 | .ret,h3=>some (.ret (.bool false),h3.wr h.next l (.loop e ps asg body 2 .ret))
 | .panic _,_=>none
theorem FW.yield{l:Nat}{e e1:Env}{ps:List Nat}{asg body:ACode}{args:List Value}{Q:Res→Heap→Prop}(hl:h.get l=some (.loop e ps asg body 0 .normal))(he:setParams e ps args=some e1)
 (H:WE T h.next (some l) asg (fun x e2 ds2 h2=>x= .normal∧h2.get l=some (.loop e ps asg body 0 .normal)∧WE T h.next (some l) body (fun x e3 ds3 h3=>(∃o,h3.get l=some o∧busy o=true)∧∃r h4,yEnd h l e ps asg body x h3=some (r,h4)∧Q r h4) e2 ds2 (h2.wr 0 l (.loop e ps asg body 1 .normal))) e1 [] h):
 FW T (.yield l) args h Q:=by
 obtain⟨x,e2,ds2,h2,⟨m,hm⟩,rfl,hl2,H2⟩:=H.ok
 obtain⟨x3,e3,ds3,h3,⟨m3,hm3⟩,⟨o,ho,hb⟩,r,h4,hy,hq⟩:=H2.ok
 have hnr:notReady (h2.get l)=false:=by rw[hl2];rfl
 have hloop:∃a b c d p,o= .loop a b c d 1 p:=by
  unfold busy at hb
  split at hb
  ·exact⟨_,_,_,_,_,rfl⟩
  ·cases hb
 obtain⟨oa,ob,oc,od,op,rfl⟩:=hloop
 refine⟨r,h4,⟨m+m3+1,fun n hn=> ?_⟩,hq⟩
 obtain⟨k,rfl⟩:∃k,n=k+1:=⟨n-1,by omega⟩
 have q1:=hm k (by omega)
 have q2:=hm3 k (by omega)
 rw[←wr0]at q2
 simp only[acallF,hl,he,q1,hnr,cond_false,q2]
 cases x3 with
 |normal=>simp only[yEnd]at hy;cases hy;simp only[ho];rfl
 |exit i=>simp only[yEnd]at hy;cases hy;simp only[ho]
 |ret=>simp only[yEnd]at hy;cases hy;simp only[ho]
 |panic v=>cases hy
theorem wE_range{f:Operand}{ps:List Nat}{asg body:ACode}{g:Nat}{first cap:Array Value}(hr:roundA h rnd=true)(hf:ev h e f=some (.func (.func g) first cap))(hnc:notCode (T g)=false)
 (H:CW T g (lcat first.toList (lcat [.func (.yield h.next) #[] #[]] cap.toList)) {h.push (.loop e ps asg body 0 .normal)with log:=[]} fun r h2=>∃v,r= .ret v∧∃e' ps' a' b' st pend,h2.get h.next=some (.loop e' ps' a' b' st pend)∧Nat.beq st 1=false∧
   Q pend e ds (({h2 with log:=mergeLog base h.log h2.log}:Heap).wr base h.next .dead)):WE T base rnd (.rangeFunc f ps asg body) Q e ds h:=by
 obtain⟨r,h2,⟨m,hm⟩,v,rfl,e',ps',a',b',st,pend,hl,hst,hq⟩:=H
 refine⟨⟨pend,e,ds,_,⟨m+1,fun n hn=> ?_⟩,hq⟩⟩
 obtain⟨k,rfl⟩:∃k,n=k+1:=⟨n-1,by omega⟩
 simp only[aexec,hr,hf,hnc,cond_true,cond_false,hm k (by omega),hl,hst]
theorem FW.withAS(hp:primAS T){fn:Fn}{args:List Value}{Q:Res→Heap→Prop}(H:FW T fn args h Q)(hl:h.log=[]):FW T fn args h fun r h'=>AS h.next h h'∧Q r h':=by
 obtain⟨r,h',⟨m,hm⟩,hq⟩:=H
 exact⟨r,h',⟨m,hm⟩,(ASall.all hp m).callF _ _ _ _ _ (hm m (Nat.le_refl _)) hl,hq⟩
theorem FW.mono'{fn:Fn}{args:List Value}{Q Q':Res→Heap→Prop}(H:FW T fn args h Q)(hq:∀r h',Q r h'→Q' r h'):FW T fn args h Q':=
 let⟨r,h',h1,h2⟩:=H;⟨r,h',h1,hq _ _ h2⟩
end Go.A
end
section
namespace Go.A
variable {T:Nat→Option AFunc} {base:Nat} {rnd:Option Nat} {Q:XQ} {e:Env} {ds:Dfs} {h:Heap}
theorem AS.zero{base:Nat}{h h':Heap}(a:AS base h h'):AS 0 h h':=⟨a.next,a.keys,fun b hb=>by omega,fun b hb=>by omega⟩
theorem gc_agree0{h h1:Heap}{v:Value}(hA:AS 0 h h1):(∀x,x<h.next→(gcA h h1 v).get x=h1.get x)∧h.next≤(gcA h h1 v).next∧(gcA h h1 v).log=h1.log:=by
 unfold gcA
 cases hc:(noRef v&&cleanA h1 h.next h1.log)with
 |false=>exact⟨fun _ _=>rfl,hA.next,rfl⟩
 |true=>
  refine⟨fun x hx=> ?_,Nat.le_refl _,rfl⟩
  have hA':=hA.keys
  have hlen:(downTo h.next (h1.next-h.next)).length=h1.next-h.next:=by
   generalize h1.next-h.next=n
   induction n with
   |zero=>rfl
   |succ n ih=>simp[downTo,ih]
  have hkt:(h1.objs.take (h1.next-h.next)).map (·.1)=downTo h.next (h1.next-h.next):=by
   rw[List.map_take,hA',List.take_append_of_le_length (by omega),List.take_of_length_le (by omega)]
  have:=getO_drop _ h.next _ (h1.objs.drop (h1.next-h.next)) hkt x hx
  rw[List.take_append_drop]at this
  show getO (ldrop (h1.next-h.next) h1.objs) x=getO h1.objs x
  rw[ldrop_eq]
  exact this.symm
structure PW (l wb:Nat) (H0:Heap) (L:AObj) (O:List (Nat×Nat)→AObj) (done:List (Nat×Nat)) (H:Heap):Prop where
 old:∀x,x<l→x≠wb→H.get x=H0.get x
 obj:H.get wb=some (O done)
 loop:H.get l=some L
 nx:l<H.next
theorem PW.stable{l wb:Nat}{H0:Heap}{L:AObj}{O:List (Nat×Nat)→AObj}(hwb:wb<l)(done:List (Nat×Nat))(H H':Heap)(p:PW l wb H0 L O done H)(hn:l+1≤H'.next)(h:∀x,x<l+1→H'.get x=H.get x):PW l wb H0 L O done H':=
 ⟨fun x hx hne=>(h x (by omega)).trans (p.old x hx hne),(h wb (by omega)).trans p.obj,(h l (by omega)).trans p.loop,hn⟩
end Go.A
end
section
namespace Go.A
variable {T:Nat→Option AFunc} {base:Nat} {rnd:Option Nat} {Q:XQ} {e:Env} {ds:Dfs} {h:Heap}
inductive Own (lo:Nat) (h:Heap) (sz:Nat):Value→Nat→List Value→Prop
 |nil:Own lo h sz (.slice none 0 0) 0 []
 |full {q n cs}:lo≤q→q<h.next→h.get q=some (.cells cs true sz)→cs.length=n*sz→n≠0→Own lo h sz (.slice (some ⟨q,0,none⟩) n UNK) n cs
theorem Own.slice{lo sz n:Nat}{v:Value}{cs:List Value}(s:Own lo h sz v n cs)(hn:n<4000000):SliceOf h sz v n cs:=by
 cases s with
 |nil=>exact .nil
 |full h1 h2 h3 h4 h5=>
  refine .mem ⟨h2,⟨_,_,_,h3,?_⟩,h4⟩ (by unfold UNK;omega)
  rw[ltake_eq,ldrop_eq,List.drop_zero,List.take_of_length_le (by omega)]
theorem Own.keep{lo sz n:Nat}{h':Heap}{v:Value}{cs:List Value}(s:Own lo h sz v n cs)(hn:h.next≤h'.next)(ha:∀z,lo≤z→z<h.next→h'.get z=h.get z):Own lo h' sz v n cs:=by
 cases s with
 |nil=>exact .nil
 |full h1 h2 h3 h4 h5=>exact .full h1 (by omega) ((ha _ h1 h2).trans h3) h4 h5
theorem Own.ext{lo sz n:Nat}{h':Heap}{v:Value}{cs:List Value}(s:Own lo h sz v n cs)(x:Ext h h'):Own lo h' sz v n cs:=s.keep x.next fun z _ hz=>x.old z hz
theorem Own.log{lo sz n:Nat}{v:Value}{cs:List Value}(s:Own lo h sz v n cs)(m:List Nat):Own lo {h with log:=m} sz v n cs:=s.keep (h':={h with log:=m}) (Nat.le_refl _) fun _ _ _=>rfl
theorem Own.low{lo lo' sz n:Nat}{v:Value}{cs:List Value}(s:Own lo h sz v n cs)(hl:lo'≤lo):Own lo' h sz v n cs:=by
 cases s with
 |nil=>exact .nil
 |full h1 h2 h3 h4 h5=>exact .full (by omega) h2 h3 h4 h5
structure Lx (lo:Nat) (h h':Heap):Prop where
 next:h.next≤h'.next
 log:h'.log=h.log
 old:∀z,z<lo→h'.get z=h.get z
 wf:WF h→WF h'
theorem Lx.refl(lo:Nat)(h:Heap):Lx lo h h:=⟨Nat.le_refl _,rfl,fun _ _=>rfl,id⟩
theorem Lx.trans{lo:Nat}{a b c:Heap}(x:Lx lo a b)(y:Lx lo b c):Lx lo a c:=⟨Nat.le_trans x.next y.next,y.log.trans x.log,fun z hz=>(y.old z hz).trans (x.old z hz),fun w=>y.wf (x.wf w)⟩
theorem Lx.push{lo:Nat}{a b:Heap}(x:Lx lo a b)(hlo:lo≤b.next)(o:AObj):Lx lo a (b.push o):=x.trans ⟨Nat.le_succ _,rfl,fun z hz=>Heap.get_push_old (by omega),fun w=>w.push o⟩
theorem Lx.wr{lo:Nat}{a b:Heap}(x:Lx lo a b){base y:Nat}{o:AObj}(hy:lo≤y)(hb:base≤y):Lx lo a (b.wr base y o):=x.trans ⟨Nat.le_refl _,Heap.log_wr_new hb,fun z hz=>Heap.get_wr_old (by omega),fun w=>w.as (AS.wr _ _ _ _)⟩
theorem Ext.lx{lo:Nat}{a b:Heap}(x:Ext a b)(hlo:lo≤a.next):Lx lo a b:=⟨x.next,x.log,fun z hz=>x.old z (by omega),x.wf⟩
theorem Lx.ext{a b:Heap}(x:Lx a.next a b):Ext a b:=⟨x.next,x.log,x.old,x.wf⟩
theorem Lx.mono{lo lo':Nat}{a b:Heap}(x:Lx lo a b)(h:lo'≤lo):Lx lo' a b:=⟨x.next,x.log,fun z hz=>x.old z (by omega),x.wf⟩
theorem wO_app1{lo sz bytes n:Nat}{dst:Option Nat}{os:List AOper}{x y:Operand}{v u:Value}{cs c1:List Value}(s:Own lo h sz v n cs)(hn:n<1000000)(hsz:0<sz)(hb:bytes≤100000)(hlo:lo≤h.next)(hbase:base≤lo)
 (hx:ev h e x=some v)(hy:ev h e y=some u)(hs:srcCells h sz u=some (c1,1))(hl1:c1.length=sz)(h1:ones c1=true)
 (hK:∀v' h',Own lo h' sz v' (n+1) (cs++c1)→Lx lo h h'→WO T base rnd Q os (dstE e dst v') ds h'):WO T base rnd Q (⟨dst, .append sz bytes x y,none⟩::os) e ds h:=by
 have hbd:(2*(n+1)+768)*bytes≤281474976710656:=by
  have:(2*(n+1)+768)*bytes≤2000768*100000:=Nat.mul_le_mul (by omega) hb
  omega
 cases s with
 |nil=>
  refine wO_val (a_app_nil (n:=1) hx hy hs (by omega) (by simpa using hbd) rfl) ?_
  refine hK _ _ ?_ ((Lx.refl lo h).push hlo _)
  have:=Own.full (lo:=lo) (h:=h.push (.cells c1 true sz)) (sz:=sz) (q:=h.next) (n:=1) (cs:=c1) hlo (Nat.lt_succ_self _) (Heap.get_push_new _ _) (by omega) (by omega)
  exact this
 | @full q _ _ q1 q2 q3 q4 q5=>
   refine wO_val (a_app_open (n:=1) (vs:=cs) (ws:=cs++c1) hx hy hs (by omega) q3 q4 hsz h1 hbd (lcat_eq _ _)) ?_
   refine hK _ _ ?_ (((Lx.refl lo h).wr q1 (by omega)).push hlo _)
   refine .full hlo (Nat.lt_succ_self _) ?_ (by rw[List.length_append,q4,hl1,Nat.add_mul,Nat.one_mul]) (by omega)
   exact Heap.get_push_new _ _
theorem wO_off2{base:Nat}{rnd:Option Nat}{Q:XQ}{e:Env}{ds:Dfs}{h:Heap}{dst:Option Nat}{op:AOp}{os:List AOper}{t:Nat}{b:Bool}{vs:Array Value}(hg:geT e t=some (.tuple vs))(H:WO T base rnd Q os (dstE e dst (.tuple #[])) ds h):WO T base rnd Q (⟨dst,op,some (t,b)⟩::os) e ds h:=by
 obtain⟨x',e',ds',h',⟨m,h1⟩,h2⟩:=H.ok
 exact⟨x',e',ds',h',⟨m+1,fun n hn=>by
  obtain⟨k,rfl⟩:∃k,n=k+1:=⟨n-1,by omega⟩
  simp only[aops,wantedA,hg];exact h1 k (by omega)⟩,h2⟩
end Go.A
end
section
namespace Go.A
variable {T:Nat→Option AFunc} {base:Nat} {rnd:Option Nat} {Q:XQ} {e:Env} {ds:Dfs} {h:Heap}
structure Ws (S:Nat→Prop) (h h':Heap):Prop where
 next:h.next≤h'.next
 log:∀z∈h'.log,z∈h.log∨S z
 old:∀z,z<h.next→¬S z→h'.get z=h.get z
 wf:WF h→WF h'
theorem Ws.of_as{S:Nat→Prop}{h h':Heap}(hA:AS h.next h h')(hl:∀z∈h'.log,S z):Ws S h h':=
 ⟨hA.next,fun z hz=> .inr (hl z hz),fun z hz hn=>hA.same z hz hz (lhas_false fun hm=>hn (hl z hm)),fun w=>w.as hA⟩
theorem merge_mem{base z:Nat}:∀{m l:List Nat},z∈mergeLog base l m→z∈l∨z∈m
 |[],l,h=> .inl h
 |b::m,l,h=>by
  simp only[mergeLog]at h
  rcases merge_mem (m:=m) h with h|h
  ·revert h
   rw[cond_eq_ite,cond_eq_ite]
   split
   ·split
    ·exact .inl
    ·intro h
     rcases List.mem_cons.1 h with rfl|h
     ·exact .inr (List.mem_cons_self ..)
     ·exact .inl h
   ·exact .inl
  ·exact .inr (List.mem_cons_of_mem _ h)
theorem Ws.call{S:Nat→Prop}{h h2:Heap}(x:Ws S {h with log:=[]} h2):Ws S h {h2 with log:=mergeLog base h.log h2.log}:=
 ⟨x.next,fun z hz=>(merge_mem hz).imp id fun q=>(x.log z q).elim (fun q=>by cases q) id,x.old,fun w=>(x.wf (w.log [])).log _⟩
def Gs(T:Nat→Option AFunc)(f:Nat)(args:List Value)(h:Heap)(S:Nat→Prop)(Q:Value→Heap→Prop):Prop:=CW T f args h fun r h'=>Ws S h h'∧∃v,r= .ret v∧Q v h'
structure endS (rs:List (Nat×Option (Option Nat))) (S:Nat→Prop) (Q:Value→Heap→Prop) (x:AExit) (e:Env) (ds:Dfs) (h1:Heap):Prop where
 ok:(x= .normal∨x= .ret)∧ds=[]∧(∀z∈h1.log,S z)∧∃vs,resultsA h1 e rs=some vs∧Q (oneV vs) h1
theorem Gs.of(hp:primAS T){f:Nat}{args:List Value}{c:ACode}{rs:List (Nat×Option (Option Nat))}{S:Nat→Prop}{Q:Value→Heap→Prop}(hf:T f=some (.code c rs))
 (hQ:∀v h1 h2,noRef v=true→h.next≤h2.next→(∀x,x<h.next→h2.get x=h1.get x)→Q v h1→Q v h2)(H:WE T h.next none c (endS rs S Q) (paramsE 0 args) [] h):Gs T f args h S Q:=by
 obtain⟨x,e,ds,h1,⟨m,hm⟩,⟨hx,rfl,hl,vs,hvs,hq⟩⟩:=H.ok
 have hA:=(ASall.all hp m).exec _ _ _ _ _ _ _ _ _ _ (hm m (Nat.le_refl _)) (Nat.le_refl _)
 obtain⟨g1,g2,g3,g4⟩:=gc_agree (v:=oneV vs) hA
 have key:Ws S h (gcA h h1 (oneV vs))∧∃v,Res.ret (oneV vs)= .ret v∧Q v (gcA h h1 (oneV vs)):=by
  refine⟨Ws.of_as (hA.gc' _) (by rw[g3];exact hl),_,rfl,?_⟩
  cases hv:noRef (oneV vs)with
  |true=>exact hQ _ _ _ hv g2 g1 hq
  |false=>rw[g4 hv];exact hq
 refine CW.code hf ⟨x,e,[],h1,⟨m,hm⟩,?_⟩
 unfold endQ
 rcases hx with rfl|rfl<;>(simp only[hvs];exact key)
theorem FW.gs{f:Nat}{args:List Value}{S:Nat→Prop}{Q':Value→Heap→Prop}{K:Env→Dfs→Heap→Prop}{dst:Option Nat}(H:Gs T f args {h with log:=[]} S Q')(hlog:∀v (h':Heap) l,Q' v h'→Q' v {h' with log:=l})(hK:∀v h',Ws S h h'→Q' v h'→K (dstE e dst v) ds h'):
 FW T (.func f) args {h with log:=[]} (KO K Q base dst e ds h.log):=by
 refine .func (CW.mono H ?_)
 rintro r h2 ⟨hx,v,rfl,hq⟩
 exact⟨hK v _ hx.call (hlog v h2 _ hq)⟩
theorem Ws.trans{S:Nat→Prop}{a b c:Heap}(x:Ws S a b)(y:Ws S b c):Ws S a c:=
 ⟨Nat.le_trans x.next y.next,fun z hz=>(y.log z hz).elim (x.log z) .inr,fun z hz hn=>(y.old z (Nat.lt_of_lt_of_le hz x.next) hn).trans (x.old z hz hn),fun w=>y.wf (x.wf w)⟩
theorem Ext.ws{S:Nat→Prop}{a b:Heap}(x:Ext a b):Ws S a b:=⟨x.next,fun z hz=> .inl (x.log▸hz),fun z hz _=>x.old z hz,x.wf⟩
end Go.A
end
section
namespace Go.A
variable {T:Nat→Option AFunc} {base:Nat} {rnd:Option Nat} {Q:XQ} {e:Env} {ds:Dfs} {h:Heap}
theorem a_conv{k k':IntKind}{n m:Int}{x:Operand}(hx:ev h e x=some (.int k' n))(hm:wrapA k n=m):aop h base e (.conv (.int k) x)=some (.val (.int k m) h):=by
 subst hm;simp only[aop,hx,bindV,convA,asPair]
theorem a_idxA{len size i:Nat}{k:IntKind}{x y:Operand}{cs:Array Value}{v:Value}(hx:ev h e x=some (.agg cs))(hy:ev h e y=some (.int k (i:Nat)))(hi:i<len)(hv:lget cs.toList (i*size)=some v):aop h base e (.idxA len size none x y)=some (.val v h):=by
 have:(.int k (i:Nat):Value)= .int k (Int.ofNat i):=rfl
 rw[this]at hy
 simp only[aop,hx,hy,nblt_of hi,cond_true,hv,bindV]
def mi(a b:Int):Int:=if b<a then b else a
theorem a_minI{x y:Operand}{a b:Int}(hx:ev h e x=some (.int .i64 a))(hy:ev h e y=some (.int .i64 b)):aop h base e (.minmax false [x,y])=some (.val (.int .i64 (mi a b)) h):=by
 simp only[aop,evs,hx,hy,mmA,if_true,bindV,mi];rfl
theorem wrapA_u64{n:Nat}(h2:n<18446744073709551616):wrapA .u64 (n:Int)=n:=by
 have e1:((n:Nat):Int)=Int.ofNat n:=rfl
 rw[e1]
 simp only[wrapA,nblt_of h2,cond_true]
theorem m_or{a b:Nat}(ha:a<18446744073709551616)(hb:b<18446744073709551616):numOp .or (.int .u64 a) (.int .u64 b)=some (.int .u64 ((Nat.lor a b:Nat):Int)):=by
 have e1:((a:Nat):Int)=Int.ofNat a:=rfl
 have e2:((b:Nat):Int)=Int.ofNat b:=rfl
 rw[e1,e2]
 simp only[numOp,arith,bitsInt,nblt_of ha,nblt_of hb,Bool.and_self,cond_true,if_true]
 rfl
theorem m_and{a b:Nat}(ha:a<18446744073709551616)(hb:b<18446744073709551616):numOp .and (.int .u64 a) (.int .u64 b)=some (.int .u64 ((Nat.land a b:Nat):Int)):=by
 have e1:((a:Nat):Int)=Int.ofNat a:=rfl
 have e2:((b:Nat):Int)=Int.ofNat b:=rfl
 rw[e1,e2]
 simp only[numOp,arith,bitsInt,nblt_of ha,nblt_of hb,Bool.and_self,cond_true,if_true]
 rfl
theorem m_shr{a n:Nat}{k:IntKind}(hn:n≤64):numOp .shr (.int .u64 a) (.int k n)=some (.int .u64 ((Nat.shiftRight a n:Nat):Int)):=by
 have e1:((a:Nat):Int)=Int.ofNat a:=rfl
 have e2:((n:Nat):Int)=Int.ofNat n:=rfl
 rw[e1,e2]
 simp only[numOp,shiftA,Nat.min_eq_left hn]
 rfl
theorem m_addU{a b:Nat}(h:a+b<18446744073709551616):numOp .add (.int .u64 a) (.int .u64 b)=some (.int .u64 ((a+b:Nat):Int)):=m_add (by rw[←Int.natCast_add];exact wrapA_u64 h)
theorem m_rem8{a:Nat}:numOp .rem (.int .i64 a) (.int .i64 8)=some (.int .i64 ((a % 8:Nat):Int)):=by
 have e:(a:Int).tmod 8=((a % 8:Nat):Int):=by rw[Int.tmod_eq_emod_of_nonneg (by omega)];omega
 simp[numOp,arith,e]
theorem m_quo8{a:Nat}(h1:a<9223372036854775808):numOp .quo (.int .i64 a) (.int .i64 8)=some (.int .i64 ((a / 8:Nat):Int)):=by
 have e:wrapA .i64 ((a:Int).tdiv 8)=((a / 8:Nat):Int):=by
  rw[Int.tdiv_eq_ediv_of_nonneg (by omega),wrapA_i64 (by omega) (by omega)];omega
 have e2:numOp .quo (.int .i64 a) (.int .i64 8)=some (.int .i64 (wrapA .i64 ((a:Int).tdiv 8))):=rfl
 rw[e2,e]
end Go.A
end
section
namespace Go.A
variable {T:Nat→Option AFunc} {base:Nat} {rnd:Option Nat} {Q:XQ} {e:Env} {ds:Dfs} {h:Heap}
theorem mem_mergeL{z:Nat}:∀{m l:List Nat},z∈l→z∈mergeLog base l m
 |[],l,h=>h
 |b::m,l,h=>by
  simp only[mergeLog]
  refine mem_mergeL (m:=m) ?_
  rw[cond_eq_ite,cond_eq_ite]
  split
  ·split
   ·exact h
   ·exact List.mem_cons_of_mem _ h
  ·exact h
theorem mem_merge{z:Nat}(hz:z<base):∀{m l:List Nat},z∈m→z∈mergeLog base l m
 |b::m,l,h=>by
  simp only[mergeLog]
  rcases List.mem_cons.1 h with rfl|h
  ·refine mem_mergeL ?_
   rw[nblt_of hz,cond_true,cond_eq_ite]
   split
   ·rename_i hh;exact lhas_mem.1 hh
   ·exact List.mem_cons_self ..
  ·exact mem_merge hz h
theorem clean_loop{l:Nat}{a:Env}{b:List Nat}{c d:ACode}{st:Nat}{p:AExit}(hl:h.get l=some (.loop a b c d st p))(hb:l<base):∀{lg:List Nat},l∈lg→cleanA h base lg=false
 |x::lg,hm=>by
  have ih:l∈lg→cleanA h base lg=false:=clean_loop hl hb
  by_cases hx:x=l
  ·subst hx
   simp only[cleanA,nblt_of hb,cond_true,hl]
  ·have hm':l∈lg:=by rcases List.mem_cons.1 hm with h1|h1;exact absurd h1.symm hx;exact h1
   simp only[cleanA,cond_eq_ite,ih hm']
   split
   ·split<;>simp
   ·rfl
theorem gc_loop{h1:Heap}{v:Value}{l:Nat}{a:Env}{b:List Nat}{c d:ACode}{st:Nat}{p:AExit}(hl:h1.get l=some (.loop a b c d st p))(hb:l<h.next)(hm:l∈h1.log):gcA h h1 v=h1:=by
 unfold gcA
 rw[clean_loop hl hb hm,Bool.and_false,cond_false]
theorem wr_log_eq{b:Nat}{o:AObj}(hb:b<base):(h.wr base b o).log=if lhas h.log b=true then h.log else b::h.log:=by
 unfold Heap.wr
 rw[nblt_of hb]
 simp only[cond_eq_ite,if_true]
theorem wr_log_old{b z:Nat}{o:AObj}(hz:z∈(h.wr base b o).log):z=b∨z∈h.log:=by
 by_cases hb:b<base
 ·rw[wr_log_eq hb]at hz
  by_cases hh:lhas h.log b=true
  ·rw[if_pos hh]at hz;exact .inr hz
  ·rw[if_neg hh]at hz;exact List.mem_cons.1 hz
 ·rw[Heap.log_wr_new (by omega)]at hz;exact .inr hz
theorem wr_log_has{b:Nat}{o:AObj}(hb:b<base):b∈(h.wr base b o).log:=by
 rw[wr_log_eq hb]
 by_cases hh:lhas h.log b=true
 ·rw[if_pos hh];exact lhas_mem.1 hh
 ·rw[if_neg hh];exact List.mem_cons_self ..
structure YQX (l:Nat) (L LX:AObj) (lo N n:Nat) (R S:Heap→Prop) (x:AExit) (e:Env) (ds:Dfs) (h3:Heap):Prop where
 busy:∃o,h3.get l=some o∧busy o=true
 log:∀z∈h3.log,lo≤z∧z<N
 rel:(x= .normal∧∀h5:Heap,n≤h5.next→(∀z,z<n→z≠l→h5.get z=h3.get z)→h5.get l=some L→R h5)∨(x= .ret∧∀h5:Heap,h5.next=h3.next→(∀z,z≠l→h5.get z=h3.get z)→h5.get l=some LX→S h5)
structure YAX (T:Nat→Option AFunc) (l:Nat) (e:Env) (ps:List Nat) (asg body:ACode) (lo N n:Nat) (R S:Heap→Prop) (x:AExit) (e2:Env) (ds2:Dfs) (h2:Heap):Prop where
 x:x= .normal
 loop:h2.get l=some (.loop e ps asg body 0 .normal)
 body:WE T n (some l) body (YQX l (.loop e ps asg body 0 .normal) (.loop e ps asg body 2 .ret) lo N n R S) e2 ds2 (h2.wr 0 l (.loop e ps asg body 1 .normal))
theorem FW.yieldX(hp:primAS T){l lo N:Nat}{e e1:Env}{ps:List Nat}{asg body:ACode}{args:List Value}{R S:Heap→Prop}(hl:h.get l=some (.loop e ps asg body 0 .normal))(he:setParams e ps args=some e1)(hlN:l<h.next)(hlo:lo≤l∧l<N)
 (H:WE T h.next (some l) asg (YAX T l e ps asg body lo N h.next R S) e1 [] h):
 FW T (.yield l) args h fun r h'=>(∀z∈h'.log,lo≤z∧z<N)∧(r= .ret (.bool true)∧R h'∨r= .ret (.bool false)∧l∈h'.log∧S h'):=by
 obtain⟨x,e2,ds2,h2,⟨m,hm⟩,⟨rfl,hl2,H2⟩⟩:=H.ok
 obtain⟨x3,e3,ds3,h3,⟨m3,hm3⟩,⟨⟨o,ho,hb⟩,hlog,hrel⟩⟩:=H2.ok
 have hnr:notReady (h2.get l)=false:=by rw[hl2];rfl
 have hloop:∃a b c d p,o= .loop a b c d 1 p:=by
  unfold A.busy at hb
  split at hb
  ·exact⟨_,_,_,_,_,rfl⟩
  ·cases hb
 obtain⟨oa,ob,oc,od,op,rfl⟩:=hloop
 rcases hrel with⟨rfl,hrel⟩|⟨rfl,hrel⟩
 ·have A1:=(ASall.all hp m).exec _ _ _ _ _ _ _ _ _ _ (hm m (Nat.le_refl _)) (Nat.le_refl _)
  have A2:=(ASall.all hp m3).exec _ _ _ _ _ _ _ _ _ _ (hm3 m3 (Nat.le_refl _)) A1.next
  have A3:AS 0 h (h3.wr 0 l (.loop e ps asg body 0 .normal)):=((A1.zero.trans (AS.wr 0 h2 l _)).trans A2.zero).trans (AS.wr 0 h3 l _)
  obtain⟨g1,g2,g3⟩:=gc_agree0 (v:= .bool true) A3
  refine⟨.ret (.bool true),gcA h (h3.wr 0 l (.loop e ps asg body 0 .normal)) (.bool true),⟨m+m3+1,fun n hn=> ?_⟩,?_, .inl ⟨rfl,?_⟩⟩
  ·obtain⟨k,rfl⟩:∃k,n=k+1:=⟨n-1,by omega⟩
   have q1:=hm k (by omega)
   have q2:=hm3 k (by omega)
   rw[←wr0]at q2
   simp only[acallF,hl,he,q1,hnr,cond_false,q2,ho]
   rfl
  ·rw[g3];exact hlog
  ·refine hrel _ g2 (fun z hz hne=>(g1 z hz).trans (Heap.get_wr_old hne)) ((g1 l hlN).trans ?_)
   exact Heap.get_wr_new ho
 ·refine⟨.ret (.bool false),h3.wr h.next l (.loop e ps asg body 2 .ret),⟨m+m3+1,fun n hn=> ?_⟩,?_, .inr ⟨rfl,wr_log_has hlN,?_⟩⟩
  ·obtain⟨k,rfl⟩:∃k,n=k+1:=⟨n-1,by omega⟩
   have q1:=hm k (by omega)
   have q2:=hm3 k (by omega)
   rw[←wr0]at q2
   simp only[acallF,hl,he,q1,hnr,cond_false,q2,ho]
  ·intro z hz
   rcases wr_log_old hz with rfl|hz
   ·exact hlo
   ·exact hlog z hz
  ·exact hrel _ rfl (fun z hne=>Heap.get_wr_old hne) (Heap.get_wr_new ho)
structure YldX {α:Type} (T:Nat→Option AFunc) (lo N l:Nat) (V:α→Value) (all:List α) (P:List α→Heap→Prop) (S:Heap→Prop):Prop where
 yields:∀done x H,x∈all→Rdy H→N≤H.next→P done H→FW T (.yield l) [V x] H fun r H'=>(∀z∈H'.log,lo≤z∧z<N)∧(r= .ret (.bool true)∧P (done++[x]) H'∨r= .ret (.bool false)∧l∈H'.log∧S H')
 stable:∀done H H',P done H→N≤H'.next→(∀x,x<N→H'.get x=H.get x)→P done H'
 slog:∀H m,S H→S {H with log:=m}
 sloop:∀H,S H→∃a b c d,H.get l=some (.loop a b c d 2 .ret)
theorem YldX.call(hp:primAS T){α:Type}{lo N l:Nat}{V:α→Value}{all:List α}{P:List α→Heap→Prop}{S:Heap→Prop}(Y:YldX T lo N l V all P S){K:Env→Dfs→Heap→Prop}{dst:Option Nat}{done:List α}{x:α}(hx:x∈all)(hw:WF h)(hlo:lo≤h.next)(hN:N≤h.next)(hlb:l<base)(hP:P done h)
 (hK:∀h',Lk lo h h'→(∀z,N≤z→z<h.next→h'.get z=h.get z)→P (done++[x]) h'→K (dstE e dst (.bool true)) ds h')
 (hX:∀h',Lk lo h h'→l∈h'.log→S h'→K (dstE e dst (.bool false)) ds h'):FW T (.yield l) [V x] {h with log:=[]} (KO K Q base dst e ds h.log):=by
 refine FW.mono' (FW.withAS hp (Y.yields done x _ hx (.of hw) hN (Y.stable _ _ _ hP hN fun _ _=>rfl)) rfl) ?_
 rintro r h2 ⟨hA,hl,hq⟩
 have hk:Lk lo {h with log:=[]} h2:=Lk.of_as hA hlo fun z hz=>(hl z hz).1
 rcases hq with⟨rfl,hq⟩|⟨rfl,hm,hq⟩
 ·refine⟨hK _ hk.call (fun z h1 h3=> ?_) (Y.stable _ _ _ hq (Nat.le_trans hN hA.next) fun _ _=>rfl)⟩
  exact hA.same z h3 h3 (lhas_false fun hm=>by have:=(hl z hm).2;omega)
 ·exact⟨hX _ hk.call (mem_merge hlb hm) (Y.slog _ _ hq)⟩
def GrX(T:Nat→Option AFunc)(f:Nat)(args:List Value)(h:Heap)(lo:Nat)(P S:Heap→Prop):Prop:=CW T f args h fun r h'=>Lk lo h h'∧∃v,r= .ret v∧(P h'∨S h')
structure endX (rs:List (Nat×Option (Option Nat))) (lo l:Nat) (P S:Heap→Prop) (x:AExit) (e:Env) (ds:Dfs) (h1:Heap):Prop where
 ok:(x= .normal∨x= .ret)∧ds=[]∧LogGe lo h1.log∧(∃vs,resultsA h1 e rs=some vs)∧(P h1∨l∈h1.log∧S h1)
theorem endX_ret{rs:List (Nat×Option (Option Nat))}{lo l:Nat}{P S:Heap→Prop}{vs:List Value}(hl:LogGe lo h.log)(hr:resultsA h e rs=some vs)(hm:l∈h.log)(hq:S h):endX rs lo l P S .ret e [] h:=⟨⟨.inr rfl,rfl,hl,⟨vs,hr⟩, .inr ⟨hm,hq⟩⟩⟩
theorem endX_end{rs:List (Nat×Option (Option Nat))}{lo l:Nat}{P S:Heap→Prop}{vs:List Value}(hl:LogGe lo h.log)(hr:resultsA h e rs=some vs)(hq:P h):endX rs lo l P S .normal e [] h:=⟨⟨.inl rfl,rfl,hl,⟨vs,hr⟩, .inl hq⟩⟩
theorem GrX.of(hp:primAS T){f:Nat}{args:List Value}{c:ACode}{rs:List (Nat×Option (Option Nat))}{lo l:Nat}{P S:Heap→Prop}(hf:T f=some (.code c rs))(hlo:lo≤h.next)(hlN:l<h.next)
 (hP:∀h1 h2:Heap,h.next≤h2.next→(∀x,x<h.next→h2.get x=h1.get x)→P h1→P h2)(hS:∀H,S H→∃a b c d,H.get l=some (.loop a b c d 2 .ret))(H:WE T h.next none c (endX rs lo l P S) (paramsE 0 args) [] h):GrX T f args h lo P S:=by
 obtain⟨x,e,ds,h1,⟨m,hm⟩,⟨hx,rfl,hl,⟨vs,hvs⟩,hq⟩⟩:=H.ok
 have hA:=(ASall.all hp m).exec _ _ _ _ _ _ _ _ _ _ (hm m (Nat.le_refl _)) (Nat.le_refl _)
 obtain⟨g1,g2,g3,g4⟩:=gc_agree (v:=oneV vs) hA
 have key:Lk lo h (gcA h h1 (oneV vs))∧∃v,Res.ret (oneV vs)= .ret v∧(P (gcA h h1 (oneV vs))∨S (gcA h h1 (oneV vs))):=by
  refine⟨Lk.of_as (hA.gc' _) hlo (by rw[g3];exact hl),_,rfl,?_⟩
  rcases hq with hq|⟨hml,hq⟩
  ·exact .inl (hP _ _ g2 g1 hq)
  ·obtain⟨a,b,c,d,hlp⟩:=hS _ hq
   rw[gc_loop hlp hlN hml]
   exact .inr hq
 refine CW.code hf ⟨x,e,[],h1,⟨m,hm⟩,?_⟩
 unfold endQ
 rcases hx with rfl|rfl<;>(simp only[hvs];exact key)
theorem merge_ge{base:Nat}:∀{m l:List Nat},LogGe base m→mergeLog base l m=l
 |[],_,_=>rfl
 |b::m,l,h=>by
  have hb:=h b (List.mem_cons_self ..)
  simp only[mergeLog,nblt_not (show¬b<base by omega),cond_false]
  exact merge_ge fun x hx=>h x (List.mem_cons_of_mem _ hx)
theorem wE_rangeX{h1:Heap}{f:Operand}{g lo:Nat}{first cap:Array Value}{ps:List Nat}{asg body:ACode}{P S:Heap→Prop}(hr:roundA h1 rnd=true)(hf:ev h1 e f=some (.func (.func g) first cap))(hnc:notCode (T g)=false)
 (hlo:base≤lo)(hlo2:lo≤h1.next)(hlog:h1.log=[])(w1:WF h1)
 (HG:GrX T g (lcat first.toList (lcat [.func (.yield h1.next) #[] #[]] cap.toList)) {h1.push (.loop e ps asg body 0 .normal)with log:=[]} lo P S)
 (hP:∀H,P H→∃a b c d,H.get h1.next=some (.loop a b c d 0 .normal))(hS:∀H,S H→∃a b c d,H.get h1.next=some (.loop a b c d 2 .ret))
 (K1:∀h2 h3:Heap,h3.log=[]→WF h3→h1.next<h3.next→h3.next=h2.next→(∀z,z≠h1.next→h3.get z=h2.get z)→P h2→Q .normal e ds h3)
 (K2:∀h2 h3:Heap,h3.log=[]→WF h3→h1.next<h3.next→h3.next=h2.next→(∀z,z≠h1.next→h3.get z=h2.get z)→S h2→Q .ret e ds h3):WE T base rnd (.rangeFunc f ps asg body) Q e ds h1:=by
 refine wE_range hr hf hnc (CW.mono HG ?_)
 rintro r h2 ⟨hk,v,rfl,hq⟩
 have hl2:LogGe base h2.log:=fun z hz=>Nat.le_trans hlo (hk.log (LogGe.nil _) z hz)
 have q1:(({h2 with log:=mergeLog base h1.log h2.log}:Heap).wr base h1.next .dead).log=[]:=by
  rw[Heap.log_wr_new (by omega)]
  show mergeLog base h1.log h2.log=[]
  rw[merge_ge hl2,hlog]
 have q2:WF (({h2 with log:=mergeLog base h1.log h2.log}:Heap).wr base h1.next .dead):=((hk.wf ((w1.push _).log _)).log _).as (AS.wr _ _ _ _)
 have q3:h1.next<h2.next:=hk.next
 have q4:∀z,z≠h1.next→(({h2 with log:=mergeLog base h1.log h2.log}:Heap).wr base h1.next .dead).get z=h2.get z:=fun z hne=>Heap.get_wr_old hne
 rcases hq with hq|hq
 ·obtain⟨a,b,c,d,hl⟩:=hP _ hq
  exact⟨_,rfl,_,_,_,_,_,_,hl,rfl,K1 h2 _ q1 q2 q3 rfl q4 hq⟩
 ·obtain⟨a,b,c,d,hl⟩:=hS _ hq
  exact⟨_,rfl,_,_,_,_,_,_,hl,rfl,K2 h2 _ q1 q2 q3 rfl q4 hq⟩
end Go.A
end
section
namespace Go.A
variable {T:Nat→Option AFunc} {base:Nat} {rnd:Option Nat} {Q:XQ} {e:Env} {ds:Dfs} {h:Heap}
structure YQM (px:AExit) (l:Nat) (L LX:AObj) (lo N n:Nat) (R S:Heap→Prop) (x:AExit) (e:Env) (ds:Dfs) (h3:Heap):Prop where
 busy:∃o,h3.get l=some o∧busy o=true
 log:∀z∈h3.log,lo≤z∧z<N
 rel:(x= .normal∧∀h5:Heap,n≤h5.next→(∀z,z<n→z≠l→h5.get z=h3.get z)→h5.get l=some L→R h5)∨(x=px∧∀h5:Heap,h5.next=h3.next→(∀z,z≠l→h5.get z=h3.get z)→h5.get l=some LX→S h5)
structure YAM (px:AExit) (T:Nat→Option AFunc) (l:Nat) (e:Env) (ps:List Nat) (asg body:ACode) (lo N n:Nat) (R S:Heap→Prop) (x:AExit) (e2:Env) (ds2:Dfs) (h2:Heap):Prop where
 x:x= .normal
 loop:h2.get l=some (.loop e ps asg body 0 .normal)
 body:WE T n (some l) body (YQM px l (.loop e ps asg body 0 .normal) (.loop e ps asg body 2 px) lo N n R S) e2 ds2 (h2.wr 0 l (.loop e ps asg body 1 .normal))
theorem FW.yieldM(hp:primAS T){px:AExit}(hpx:px= .ret∨∃i,px= .exit i){l lo N:Nat}{e e1:Env}{ps:List Nat}{asg body:ACode}{args:List Value}{R S:Heap→Prop}(hl:h.get l=some (.loop e ps asg body 0 .normal))(he:setParams e ps args=some e1)(hlN:l<h.next)(hlo:lo≤l∧l<N)
 (H:WE T h.next (some l) asg (YAM px T l e ps asg body lo N h.next R S) e1 [] h):
 FW T (.yield l) args h fun r h'=>(∀z∈h'.log,lo≤z∧z<N)∧(r= .ret (.bool true)∧R h'∨r= .ret (.bool false)∧l∈h'.log∧S h'):=by
 obtain⟨x,e2,ds2,h2,⟨m,hm⟩,⟨rfl,hl2,H2⟩⟩:=H.ok
 obtain⟨x3,e3,ds3,h3,⟨m3,hm3⟩,⟨⟨o,ho,hb⟩,hlog,hrel⟩⟩:=H2.ok
 have hnr:notReady (h2.get l)=false:=by rw[hl2];rfl
 have hloop:∃a b c d p,o= .loop a b c d 1 p:=by
  unfold A.busy at hb
  split at hb
  ·exact⟨_,_,_,_,_,rfl⟩
  ·cases hb
 obtain⟨oa,ob,oc,od,op,rfl⟩:=hloop
 rcases hrel with⟨rfl,hrel⟩|⟨rfl,hrel⟩
 ·have A1:=(ASall.all hp m).exec _ _ _ _ _ _ _ _ _ _ (hm m (Nat.le_refl _)) (Nat.le_refl _)
  have A2:=(ASall.all hp m3).exec _ _ _ _ _ _ _ _ _ _ (hm3 m3 (Nat.le_refl _)) A1.next
  have A3:AS 0 h (h3.wr 0 l (.loop e ps asg body 0 .normal)):=((A1.zero.trans (AS.wr 0 h2 l _)).trans A2.zero).trans (AS.wr 0 h3 l _)
  obtain⟨g1,g2,g3⟩:=gc_agree0 (v:= .bool true) A3
  refine⟨.ret (.bool true),gcA h (h3.wr 0 l (.loop e ps asg body 0 .normal)) (.bool true),⟨m+m3+1,fun n hn=> ?_⟩,?_, .inl ⟨rfl,?_⟩⟩
  ·obtain⟨k,rfl⟩:∃k,n=k+1:=⟨n-1,by omega⟩
   have q1:=hm k (by omega)
   have q2:=hm3 k (by omega)
   rw[←wr0]at q2
   simp only[acallF,hl,he,q1,hnr,cond_false,q2,ho]
   rfl
  ·rw[g3];exact hlog
  ·refine hrel _ g2 (fun z hz hne=>(g1 z hz).trans (Heap.get_wr_old hne)) ((g1 l hlN).trans ?_)
   exact Heap.get_wr_new ho
 ·refine⟨.ret (.bool false),h3.wr h.next l (.loop e ps asg body 2 x3),⟨m+m3+1,fun n hn=> ?_⟩,?_, .inr ⟨rfl,wr_log_has hlN,?_⟩⟩
  ·obtain⟨k,rfl⟩:∃k,n=k+1:=⟨n-1,by omega⟩
   have q1:=hm k (by omega)
   have q2:=hm3 k (by omega)
   rw[←wr0]at q2
   rcases hpx with rfl|⟨i,rfl⟩<;>simp only[acallF,hl,he,q1,hnr,cond_false,q2,ho]
  ·intro z hz
   rcases wr_log_old hz with rfl|hz
   ·exact hlo
   ·exact hlog z hz
  ·exact hrel _ rfl (fun z hne=>Heap.get_wr_old hne) (Heap.get_wr_new ho)
structure YldM {α:Type} (px:AExit) (T:Nat→Option AFunc) (lo N l:Nat) (V:α→List Value) (all:List α) (P:List α→Heap→Prop) (S:Heap→Prop):Prop where
 yields:∀done x H,x∈all→Rdy H→N≤H.next→P done H→FW T (.yield l) (V x) H fun r H'=>(∀z∈H'.log,lo≤z∧z<N)∧(r= .ret (.bool true)∧P (done++[x]) H'∨r= .ret (.bool false)∧l∈H'.log∧S H')
 stable:∀done H H',P done H→N≤H'.next→(∀x,x<N→H'.get x=H.get x)→P done H'
 slog:∀H m,S H→S {H with log:=m}
 sloop:∀H,S H→∃a b c d,H.get l=some (.loop a b c d 2 px)
theorem YldM.call(hp:primAS T){α:Type}{px:AExit}{lo N l:Nat}{V:α→List Value}{all:List α}{P:List α→Heap→Prop}{S:Heap→Prop}(Y:YldM px T lo N l V all P S){K:Env→Dfs→Heap→Prop}{dst:Option Nat}{done:List α}{x:α}(hx:x∈all)(hw:WF h)(hlo:lo≤h.next)(hN:N≤h.next)(hlb:l<base)(hP:P done h)
 (hK:∀h',Lk lo h h'→(∀z,N≤z→z<h.next→h'.get z=h.get z)→P (done++[x]) h'→K (dstE e dst (.bool true)) ds h')
 (hX:∀h',Lk lo h h'→l∈h'.log→S h'→K (dstE e dst (.bool false)) ds h'):FW T (.yield l) (V x) {h with log:=[]} (KO K Q base dst e ds h.log):=by
 refine FW.mono' (FW.withAS hp (Y.yields done x _ hx (.of hw) hN (Y.stable _ _ _ hP hN fun _ _=>rfl)) rfl) ?_
 rintro r h2 ⟨hA,hl,hq⟩
 have hk:Lk lo {h with log:=[]} h2:=Lk.of_as hA hlo fun z hz=>(hl z hz).1
 rcases hq with⟨rfl,hq⟩|⟨rfl,hm,hq⟩
 ·refine⟨hK _ hk.call (fun z h1 h3=> ?_) (Y.stable _ _ _ hq (Nat.le_trans hN hA.next) fun _ _=>rfl)⟩
  exact hA.same z h3 h3 (lhas_false fun hm=>by have:=(hl z hm).2;omega)
 ·exact⟨hX _ hk.call (mem_merge hlb hm) (Y.slog _ _ hq)⟩
theorem GrX.ofM(hp:primAS T){px:AExit}{f:Nat}{args:List Value}{c:ACode}{rs:List (Nat×Option (Option Nat))}{lo l:Nat}{P S:Heap→Prop}(hf:T f=some (.code c rs))(hlo:lo≤h.next)(hlN:l<h.next)
 (hP:∀h1 h2:Heap,h.next≤h2.next→(∀x,x<h.next→h2.get x=h1.get x)→P h1→P h2)(hS:∀H,S H→∃a b c d,H.get l=some (.loop a b c d 2 px))(H:WE T h.next none c (endX rs lo l P S) (paramsE 0 args) [] h):GrX T f args h lo P S:=by
 obtain⟨x,e,ds,h1,⟨m,hm⟩,⟨hx,rfl,hl,⟨vs,hvs⟩,hq⟩⟩:=H.ok
 have hA:=(ASall.all hp m).exec _ _ _ _ _ _ _ _ _ _ (hm m (Nat.le_refl _)) (Nat.le_refl _)
 obtain⟨g1,g2,g3,g4⟩:=gc_agree (v:=oneV vs) hA
 have key:Lk lo h (gcA h h1 (oneV vs))∧∃v,Res.ret (oneV vs)= .ret v∧(P (gcA h h1 (oneV vs))∨S (gcA h h1 (oneV vs))):=by
  refine⟨Lk.of_as (hA.gc' _) hlo (by rw[g3];exact hl),_,rfl,?_⟩
  rcases hq with hq|⟨hml,hq⟩
  ·exact .inl (hP _ _ g2 g1 hq)
  ·obtain⟨a,b,c,d,hlp⟩:=hS _ hq
   rw[gc_loop hlp hlN hml]
   exact .inr hq
 refine CW.code hf ⟨x,e,[],h1,⟨m,hm⟩,?_⟩
 unfold endQ
 rcases hx with rfl|rfl<;>(simp only[hvs];exact key)
theorem wE_rangeM{px:AExit}{h1:Heap}{f:Operand}{g lo:Nat}{first cap:Array Value}{ps:List Nat}{asg body:ACode}{P S:Heap→Prop}(hr:roundA h1 rnd=true)(hf:ev h1 e f=some (.func (.func g) first cap))(hnc:notCode (T g)=false)
 (hlo:base≤lo)(hlo2:lo≤h1.next)(hlog:h1.log=[])(w1:WF h1)
 (HG:GrX T g (lcat first.toList (lcat [.func (.yield h1.next) #[] #[]] cap.toList)) {h1.push (.loop e ps asg body 0 .normal)with log:=[]} lo P S)
 (hP:∀H,P H→∃a b c d,H.get h1.next=some (.loop a b c d 0 .normal))(hS:∀H,S H→∃a b c d,H.get h1.next=some (.loop a b c d 2 px))
 (K1:∀h2 h3:Heap,h3.log=[]→WF h3→h1.next<h3.next→h3.next=h2.next→(∀z,z≠h1.next→h3.get z=h2.get z)→P h2→Q .normal e ds h3)
 (K2:∀h2 h3:Heap,h3.log=[]→WF h3→h1.next<h3.next→h3.next=h2.next→(∀z,z≠h1.next→h3.get z=h2.get z)→S h2→Q px e ds h3):WE T base rnd (.rangeFunc f ps asg body) Q e ds h1:=by
 refine wE_range hr hf hnc (CW.mono HG ?_)
 rintro r h2 ⟨hk,v,rfl,hq⟩
 have hl2:LogGe base h2.log:=fun z hz=>Nat.le_trans hlo (hk.log (LogGe.nil _) z hz)
 have q1:(({h2 with log:=mergeLog base h1.log h2.log}:Heap).wr base h1.next .dead).log=[]:=by
  rw[Heap.log_wr_new (by omega)]
  show mergeLog base h1.log h2.log=[]
  rw[merge_ge hl2,hlog]
 have q2:WF (({h2 with log:=mergeLog base h1.log h2.log}:Heap).wr base h1.next .dead):=((hk.wf ((w1.push _).log _)).log _).as (AS.wr _ _ _ _)
 have q3:h1.next<h2.next:=hk.next
 have q4:∀z,z≠h1.next→(({h2 with log:=mergeLog base h1.log h2.log}:Heap).wr base h1.next .dead).get z=h2.get z:=fun z hne=>Heap.get_wr_old hne
 rcases hq with hq|hq
 ·obtain⟨a,b,c,d,hl⟩:=hP _ hq
  exact⟨_,rfl,_,_,_,_,_,_,hl,rfl,K1 h2 _ q1 q2 q3 rfl q4 hq⟩
 ·obtain⟨a,b,c,d,hl⟩:=hS _ hq
  exact⟨_,rfl,_,_,_,_,_,_,hl,rfl,K2 h2 _ q1 q2 q3 rfl q4 hq⟩
theorem wE_scope{b:ACode}(H:WE T base rnd b Q e ds h):WE T base rnd (.scope b) Q e ds h:=by
 obtain⟨x,e',ds',h',⟨m,h1⟩,h2⟩:=H.ok
 exact⟨_,_,_,_,⟨m+1,fun n hn=>by
  obtain⟨k,rfl⟩:∃k,n=k+1:=⟨n-1,by omega⟩
  simp only[aexec,h1 k (by omega)]⟩,h2⟩
end Go.A
end
section
namespace Go.A
variable {T:Nat→Option AFunc} {base:Nat} {rnd:Option Nat} {Q:XQ} {e:Env} {ds:Dfs} {h:Heap}
def Dirty(h:Heap)(q:Nat):Prop:=∃vs own t,h.get q=some (.cells vs own t)∧scalL vs=false
structure YldK {α:Type} (T:Nat→Option AFunc) (lo N l q:Nat) (V:α→Value) (all:List α) (P:List α→Heap→Prop):Prop where
 hq:q<N
 yields:∀done x rest H,all=done++x::rest→Rdy H→N≤H.next→P done H→FW T (.yield l) [V x] H fun r H'=>r= .ret (.bool true)∧(∀z∈H'.log,lo≤z)∧q∈H'.log∧Dirty H' q∧P (done++[x]) H'
 stable:∀done H H',P done H→H.next≤H'.next→(∀x,x<H.next→H'.get x=H.get x)→P done H'
theorem YldK.call(hp:primAS T){α:Type}{lo N l q:Nat}{V:α→Value}{all:List α}{P:List α→Heap→Prop}(Y:YldK T lo N l q V all P){K:Env→Dfs→Heap→Prop}{dst:Option Nat}{done rest:List α}{x:α}(hx:all=done++x::rest)(hw:WF h)(hlo:lo≤h.next)(hN:N≤h.next)(hqb:q<base)(hP:P done h)
 (hK:∀h',Lk lo h h'→q∈h'.log∧Dirty h' q→P (done++[x]) h'→K (dstE e dst (.bool true)) ds h'):FW T (.yield l) [V x] {h with log:=[]} (KO K Q base dst e ds h.log):=by
 refine FW.mono' (FW.withAS hp (Y.yields done x rest _ hx (.of hw) hN (Y.stable _ _ _ hP (Nat.le_refl _) fun _ _=>rfl)) rfl) ?_
 rintro r h2 ⟨hA,rfl,hl,hm,hd,hq⟩
 have hk:Lk lo {h with log:=[]} h2:=Lk.of_as hA hlo fun z hz=>hl z hz
 exact⟨hK _ hk.call ⟨mem_merge hqb hm,hd⟩ (Y.stable _ _ _ hq (Nat.le_refl _) fun _ _=>rfl)⟩
end Go.A
end
section
namespace Go.A
variable {T:Nat→Option AFunc} {base:Nat} {rnd:Option Nat} {Q:XQ} {e:Env} {ds:Dfs} {h:Heap}
def Gp(T:Nat→Option AFunc)(f:Nat)(args:List Value)(h:Heap)(S:Nat→Prop)(Q Qp:Value→Heap→Prop):Prop:=CW T f args h fun r h'=>Ws S h h'∧((∃v,r= .ret v∧Q v h')∨∃v,r= .panic v∧Qp v h')
structure endT (rs:List (Nat×Option (Option Nat))) (S:Nat→Prop) (Q Qp:Value→Heap→Prop) (x:AExit) (e:Env) (ds:Dfs) (h1:Heap):Prop where
 ok:ds=[]∧(∀z∈h1.log,S z)∧(((x= .normal∨x= .ret)∧∃vs,resultsA h1 e rs=some vs∧Q (oneV vs) h1)∨∃v,x= .panic v∧Qp v h1)
theorem Gp.of(hp:primAS T){f:Nat}{args:List Value}{c:ACode}{rs:List (Nat×Option (Option Nat))}{S:Nat→Prop}{Q Qp:Value→Heap→Prop}(hf:T f=some (.code c rs))
 (hQ:∀v h1 h2,noRef v=true→h.next≤h2.next→(∀x,x<h.next→h2.get x=h1.get x)→Q v h1→Q v h2)(H:WE T h.next none c (endT rs S Q Qp) (paramsE 0 args) [] h):Gp T f args h S Q Qp:=by
 obtain⟨x,e,ds,h1,⟨m,hm⟩,⟨rfl,hl,hx⟩⟩:=H.ok
 have hA:=(ASall.all hp m).exec _ _ _ _ _ _ _ _ _ _ (hm m (Nat.le_refl _)) (Nat.le_refl _)
 refine CW.code hf ⟨x,e,[],h1,⟨m,hm⟩,?_⟩
 unfold endQ
 rcases hx with⟨hx,vs,hvs,hq⟩|⟨v,rfl,hq⟩
 ·obtain⟨g1,g2,g3,g4⟩:=gc_agree (v:=oneV vs) hA
  have key:Ws S h (gcA h h1 (oneV vs))∧((∃v,Res.ret (oneV vs)= .ret v∧Q v (gcA h h1 (oneV vs)))∨∃v,Res.ret (oneV vs)= .panic v∧Qp v (gcA h h1 (oneV vs))):=by
   refine⟨Ws.of_as (hA.gc' _) (by rw[g3];exact hl), .inl ⟨_,rfl,?_⟩⟩
   cases hv:noRef (oneV vs)with
   |true=>exact hQ _ _ _ hv g2 g1 hq
   |false=>rw[g4 hv];exact hq
  rcases hx with rfl|rfl<;>(simp only[hvs];exact key)
 ·exact⟨Ws.of_as hA hl, .inr ⟨v,rfl,hq⟩⟩
def DW(T:Nat→Option AFunc)(g:Nat)(args:List Value)(pan:Option Value)(h:Heap)(Q:Option Value→Heap→Prop):Prop:=∃p h',(∃m,∀n,m≤n→adefer T n g args pan h=some (p,h'))∧Q p h'
structure SE (T:Nat→Option AFunc) (base:Nat) (c:ACode) (K:AExit→Env→Option Value→Heap→Prop) (e:Env) (p:Option Value) (h:Heap):Prop where
 ok:∃x e' p' h',(∃m,∀n,m≤n→aexecS T n base c e p h=some (x,e',p',h'))∧K x e' p' h'
theorem DW.of{g:Nat}{args:List Value}{pan:Option Value}{Q:Option Value→Heap→Prop}{c:ACode}(hf:T g=some (.code c []))(H:SE T h.next c (fun x _ p h'=>(x= .normal∨x= .ret)∧Q p h') (paramsE 0 args) pan h):DW T g args pan h Q:=by
 obtain⟨x,e',p',h',⟨m,hm⟩,hx,hq⟩:=H.ok
 refine⟨p',h',⟨m+1,fun n hn=> ?_⟩,hq⟩
 obtain⟨k,rfl⟩:∃k,n=k+1:=⟨n-1,by omega⟩
 rcases hx with rfl|rfl<;>simp only[adefer,hf,hm k (by omega)]
variable {p:Option Value} {K:AExit→Env→Option Value→Heap→Prop} {KO':Env→Option Value→Heap→Prop}
end Go.A
end
section
namespace Go.A
variable {T:Nat→Option AFunc} {base:Nat} {rnd:Option Nat} {Q Q':XQ} {e e2:Env} {ds:Dfs} {h:Heap} {os:List AOper} {dst:Option Nat} {v u:Value} {x y:Operand} {keep k2:List Nat} {K:Env→Dfs→Heap→Prop}
theorem y1(H:Q .normal e2 ds h)(he:keepE e keep=e2:=by simp only[keepE,dstE,geT,paramsE,cond_true,cond_false,Nat.beq];exact rfl):KR keep Q .normal e ds h:=kR_k he H
theorem y3(H:K e2 ds h)(he:keepE e keep=e2:=by simp only[keepE,dstE,geT,paramsE,cond_true,cond_false,Nat.beq];exact rfl):WO T base rnd (KR keep (KS K Q)) [] e ds h:=wO_nil (kR_k he (kS_n H))
theorem y4{b:ACode}(H:WO T base rnd (KR keep (KS (WE T base rnd b Q) Q)) os e ds h):WE T base rnd (.seq (.region os keep) b) Q e ds h:=wE_seq (wE_region H)
theorem yM(H:WO T base rnd Q os (dstE e dst v) ds h)(hx:ev h e x=some v:=by exact rfl):WO T base rnd Q (⟨dst, .mov x,none⟩::os) e ds h:=wO_val (a_mov hx) H
theorem yE{i:Nat}{vs:Array Value}(H:WO T base rnd Q os (dstE e dst v) ds h)(hx:ev h e x=some (.tuple vs):=by exact rfl)(hv:lget vs.toList i=some v:=by exact rfl):WO T base rnd Q (⟨dst, .extract x i,none⟩::os) e ds h:=wO_val (a_extract hx hv) H
theorem yL{b o sz:Nat}{vs:List Value}{own:Bool}(H:WO T base rnd Q os (dstE e dst v) ds h)(hx:ev h e x=some (.pointer (some ⟨b,o,none⟩)):=by exact rfl)
 (hb:h.get b=some (.cells vs own sz):=by first|assumption|(simp(disch:=first|omega|(simp only[z1,z2];omega))only[z3,z4,z5,z6,z7,z1,z2, *];done)|(simp(disch:=first|omega|(simp only[z1,z2];omega))only[z3,z4,z5,z6,z7,z1,z2, *];exact rfl)|(simp(disch:=first|omega|(simp only[z1,z2];omega)|(simp only[z1,z2];done)|fail)only[z8,z4,z5,z9,z7,z1,z2, *];done)|(simp(disch:=first|omega|(simp only[z1,z2];omega)|(simp only[z1,z2];done)|fail)only[z8,z4,z5,z9,z7,z1,z2, *];exact rfl))
 (hv:lget vs o=some v:=by exact rfl):WO T base rnd Q (⟨dst, .load none x,none⟩::os) e ds h:=wO_val (a_load hx hb hv) H
theorem yN{n b o sz:Nat}{vs l:List Value}{own:Bool}(H:WO T base rnd Q os (dstE e dst (.agg l.toArray)) ds h)(hx:ev h e x=some (.pointer (some ⟨b,o,none⟩)):=by exact rfl)
 (hb:h.get b=some (.cells vs own sz):=by first|assumption|(simp(disch:=first|omega|(simp only[z1,z2];omega))only[z3,z4,z5,z6,z7,z1,z2, *];done)|(simp(disch:=first|omega|(simp only[z1,z2];omega))only[z3,z4,z5,z6,z7,z1,z2, *];exact rfl)|(simp(disch:=first|omega|(simp only[z1,z2];omega)|(simp only[z1,z2];done)|fail)only[z8,z4,z5,z9,z7,z1,z2, *];done)|(simp(disch:=first|omega|(simp only[z1,z2];omega)|(simp only[z1,z2];done)|fail)only[z8,z4,z5,z9,z7,z1,z2, *];exact rfl))
 (hv:ltake n (ldrop o vs)=l:=by exact rfl)(hl:Nat.beq (llen l) n=true:=by exact rfl):WO T base rnd Q (⟨dst, .load (some n) x,none⟩::os) e ds h:=wO_val (a_loadN hx hb hv hl) H
theorem yS{n b o sz:Nat}{vs ws:List Value}(H:WO T base rnd Q os (dstE e dst (.tuple #[])) ds (h.wr base b (.cells ws true sz)))(hx:ev h e x=some (.pointer (some ⟨b,o,none⟩)):=by exact rfl)(hy:ev h e y=some v:=by exact rfl)
 (hb:h.get b=some (.cells vs true sz):=by first|assumption|(simp(disch:=first|omega|(simp only[z1,z2];omega))only[z3,z4,z5,z6,z7,z1,z2, *];done)|(simp(disch:=first|omega|(simp only[z1,z2];omega))only[z3,z4,z5,z6,z7,z1,z2, *];exact rfl)|(simp(disch:=first|omega|(simp only[z1,z2];omega)|(simp only[z1,z2];done)|fail)only[z8,z4,z5,z9,z7,z1,z2, *];done)|(simp(disch:=first|omega|(simp only[z1,z2];omega)|(simp only[z1,z2];done)|fail)only[z8,z4,z5,z9,z7,z1,z2, *];exact rfl))
 (hc:(Nat.beq (llen (cellsOf v)) n&&Nat.ble (o+n) (llen vs)&&ones (cellsOf v))=true:=by exact rfl)(hw:lputs vs o (cellsOf v)=ws:=by exact rfl):WO T base rnd Q (⟨dst, .store n x y,none⟩::os) e ds h:=wO_val (a_store hx hy hb hc hw) H
theorem yF{off b o:Nat}(H:WO T base rnd Q os (dstE e dst (.pointer (some ⟨b,o+off,none⟩))) ds h)(hx:ev h e x=some (.pointer (some ⟨b,o,none⟩)):=by exact rfl):WO T base rnd Q (⟨dst, .faddr off x,none⟩::os) e ds h:=wO_val (a_faddr hx) H
theorem yB{vs:List Value}(H:WO T base rnd Q os (dstE e dst (.pointer (some ⟨h.next,0,none⟩))) ds (h.push (.cells vs true 1)))(hx:ev h e x=some v:=by exact rfl)(hc:cellsOf v=vs:=by exact rfl):WO T base rnd Q (⟨dst, .box x,none⟩::os) e ds h:=wO_val (a_box hx hc) H
theorem yT{c:Operand}(H:WO T base rnd Q os (dstE e dst v) ds h)(hc:ev h e c=some (.bool true):=by exact rfl)(hx:ev h e x=some v:=by exact rfl):WO T base rnd Q (⟨dst, .pick c x y,none⟩::os) e ds h:=wO_val (a_pickT hc hx) H
theorem yU{c:Operand}(H:WO T base rnd Q os (dstE e dst v) ds h)(hc:ev h e c=some (.bool false):=by exact rfl)(hx:ev h e y=some v:=by exact rfl):WO T base rnd Q (⟨dst, .pick c x y,none⟩::os) e ds h:=wO_val (a_pickF hc hx) H
theorem yO{op:AOp}{t:Nat}{b:Bool}(H:WO T base rnd Q (⟨dst,op,none⟩::os) e ds h)(hg:geT e t=some (.bool b):=by exact rfl):WO T base rnd Q (⟨dst,op,some (t,b)⟩::os) e ds h:=wO_on hg H
theorem yP{op:AOp}{t:Nat}{b c:Bool}(H:WO T base rnd Q os (dstE e dst (.tuple #[])) ds h)(hg:geT e t=some (.bool c):=by exact rfl)(hx:c= !b:=by exact rfl):WO T base rnd Q (⟨dst,op,some (t,b)⟩::os) e ds h:=wO_off hg hx H
theorem yC{f:Operand}{args:List Operand}{fv:Value}{as:List Value}{g:Nat}{first cap:Array Value}{all:List Value}(H:FW T (.func g) all {h with log:=[]} (KO (WO T base rnd Q os) Q base dst e ds h.log))(hf:ev h e f=some fv:=by exact rfl)(ha:evs h e args=some as:=by exact rfl)(hv:fv= .func (.func g) first cap:=by exact rfl)(hl:lcat first.toList (lcat as cap.toList)=all:=by exact rfl):
 WO T base rnd Q (⟨dst, .call f args,none⟩::os) e ds h:=wO_call (a_call hf ha hv hl) H
theorem yX{c:Operand}{a b:ACode}(H:WE T base rnd b Q e ds h)(hc:ev h e c=some (.bool false):=by exact rfl):WE T base rnd (.cond c a b) Q e ds h:=wE_false hc H
theorem yY{c:Operand}{a b:ACode}(H:WE T base rnd a Q e ds h)(hc:ev h e c=some (.bool true):=by exact rfl):WE T base rnd (.cond c a b) Q e ds h:=wE_true hc H
theorem yA{b:Bool}(H:WO T base rnd Q os (dstE e dst (.bool !b)) ds h)(hx:ev h e x=some (.bool b):=by exact rfl):WO T base rnd Q (⟨dst, .un .not x,none⟩::os) e ds h:=wO_val (a_not hx) H
theorem yD{a:Option Addr}{n c:Nat}(H:WO T base rnd Q os (dstE e dst (.int .i64 n)) ds h)(hx:ev h e x=some (.slice a n c):=by exact rfl):WO T base rnd Q (⟨dst, .len 1 x,none⟩::os) e ds h:=wO_val (a_len1 hx) H
section
variable {k:IntKind} {a b:Int}
theorem yt{op:BinOp}{u:Value}(H:WO T base rnd Q os (dstE e dst (.bool true)) ds h)(hx:ev h e x=some v:=by exact rfl)(hy:ev h e y=some u:=by exact rfl)(hv:numOp op v u=some (.bool true):=by first|exact m_geqT (by omega)|exact m_leqT (by omega)|exact m_lssT (by omega)|exact m_gtrT (by omega)|exact m_eqlT (by omega)|exact m_neqT (by omega)):
 WO T base rnd Q (⟨dst, .bin (.num op) x y,none⟩::os) e ds h:=wO_val (a_num hx hy hv) H
theorem yf{op:BinOp}{u:Value}(H:WO T base rnd Q os (dstE e dst (.bool false)) ds h)(hx:ev h e x=some v:=by exact rfl)(hy:ev h e y=some u:=by exact rfl)(hv:numOp op v u=some (.bool false):=by first|exact m_geqF (by omega)|exact m_leqF (by omega)|exact m_lssF (by omega)|exact m_gtrF (by omega)|exact m_eqlF (by omega)|exact m_neqF (by omega)):
 WO T base rnd Q (⟨dst, .bin (.num op) x y,none⟩::os) e ds h:=wO_val (a_num hx hy hv) H
theorem yinc{n:Nat}(H:WO T base rnd Q os (dstE e dst (.int .i64 (n+1:Nat))) ds h)(hx:ev h e x=some (.int .i64 n):=by exact rfl)(hy:ev h e y=some (.int .i64 1):=by exact rfl)(hn:n<9223372036854775807:=by omega):WO T base rnd Q (⟨dst, .bin (.num .add) x y,none⟩::os) e ds h:=wO_val (a_num hx hy (m_inc hn)) H
end
section
variable {ops:List AOper} {bf:List Nat} {rs:List Rec} {R:Env→Heap→Prop} {i mask:Nat} {is:List Nat} {g:Option (Nat×Bool)} {er:Env}
theorem qM(H:WD T base ops bf R is (⟨i,⟨dst, .mov x,g⟩,er,v, .quiet⟩::rs) (dstE e dst v) h)(ho:lget ops i=some ⟨dst, .mov x,g⟩:=by exact rfl)(hm:lget bf i=some mask:=by exact rfl)(he:keepE e (slotsA ⟨dst, .mov x,g⟩)=er:=by exact rfl)(hw:wantedA er g=some true:=by exact rfl)(hx:ev h er x=some v:=by exact rfl):WD T base ops bf R (i::is) rs e h:=wD_quiet ho hm he hw rfl rfl (a_mov hx) H
theorem qF{off b o:Nat}(H:WD T base ops bf R is (⟨i,⟨dst, .faddr off x,g⟩,er, .pointer (some ⟨b,o+off,none⟩), .quiet⟩::rs) (dstE e dst (.pointer (some ⟨b,o+off,none⟩))) h)(ho:lget ops i=some ⟨dst, .faddr off x,g⟩:=by exact rfl)(hm:lget bf i=some mask:=by exact rfl)(he:keepE e (slotsA ⟨dst, .faddr off x,g⟩)=er:=by exact rfl)(hw:wantedA er g=some true:=by exact rfl)(hx:ev h er x=some (.pointer (some ⟨b,o,none⟩)):=by exact rfl):
 WD T base ops bf R (i::is) rs e h:=wD_quiet ho hm he hw rfl rfl (a_faddr hx) H
theorem qL{b o sz:Nat}{vs:List Value}{own:Bool}(H:WD T base ops bf R is (⟨i,⟨dst, .load none x,g⟩,er,v, .quiet⟩::rs) (dstE e dst v) h)(ho:lget ops i=some ⟨dst, .load none x,g⟩:=by exact rfl)(hm:lget bf i=some mask:=by exact rfl)(he:keepE e (slotsA ⟨dst, .load none x,g⟩)=er:=by exact rfl)(hw:wantedA er g=some true:=by exact rfl)(hx:ev h er x=some (.pointer (some ⟨b,o,none⟩)):=by exact rfl)
 (hb:h.get b=some (.cells vs own sz):=by first|assumption|(simp(disch:=first|omega|(simp only[z1,z2];omega))only[z3,z4,z5,z6,z7,z1,z2, *];done)|(simp(disch:=first|omega|(simp only[z1,z2];omega))only[z3,z4,z5,z6,z7,z1,z2, *];exact rfl)|(simp(disch:=first|omega|(simp only[z1,z2];omega)|(simp only[z1,z2];done)|fail)only[z8,z4,z5,z9,z7,z1,z2, *];done)|(simp(disch:=first|omega|(simp only[z1,z2];omega)|(simp only[z1,z2];done)|fail)only[z8,z4,z5,z9,z7,z1,z2, *];exact rfl))
 (hv:lget vs o=some v:=by exact rfl):WD T base ops bf R (i::is) rs e h:=wD_quiet ho hm he hw rfl rfl (a_load hx hb hv) H
theorem qN{n b o sz:Nat}{vs l:List Value}{own:Bool}(H:WD T base ops bf R is (⟨i,⟨dst, .load (some n) x,g⟩,er, .agg l.toArray, .quiet⟩::rs) (dstE e dst (.agg l.toArray)) h)(ho:lget ops i=some ⟨dst, .load (some n) x,g⟩:=by exact rfl)(hm:lget bf i=some mask:=by exact rfl)(he:keepE e (slotsA ⟨dst, .load (some n) x,g⟩)=er:=by exact rfl)(hw:wantedA er g=some true:=by exact rfl)(hx:ev h er x=some (.pointer (some ⟨b,o,none⟩)):=by exact rfl)
 (hb:h.get b=some (.cells vs own sz):=by first|assumption|(simp(disch:=first|omega|(simp only[z1,z2];omega))only[z3,z4,z5,z6,z7,z1,z2, *];done)|(simp(disch:=first|omega|(simp only[z1,z2];omega))only[z3,z4,z5,z6,z7,z1,z2, *];exact rfl)|(simp(disch:=first|omega|(simp only[z1,z2];omega)|(simp only[z1,z2];done)|fail)only[z8,z4,z5,z9,z7,z1,z2, *];done)|(simp(disch:=first|omega|(simp only[z1,z2];omega)|(simp only[z1,z2];done)|fail)only[z8,z4,z5,z9,z7,z1,z2, *];exact rfl))
 (hv:ltake n (ldrop o vs)=l:=by exact rfl)(hl:Nat.beq (llen l) n=true:=by exact rfl):WD T base ops bf R (i::is) rs e h:=wD_quiet ho hm he hw rfl rfl (a_loadN hx hb hv hl) H
theorem qC{f:Operand}{args:List Operand}{fv:Value}{as:List Value}{k:Nat}{first cap:Array Value}{all:List Value}(H:FW T (.func k) all {h with log:=[]} (KD (WD T base ops bf R is) base mask rs dst e h.log))(ho:lget ops i=some ⟨dst, .call f args,g⟩:=by exact rfl)(hm:lget bf i=some mask:=by exact rfl)(he:keepE e (slotsA ⟨dst, .call f args,g⟩)=er:=by exact rfl)(hw:wantedA er g=some true:=by exact rfl)
 (hf:ev {h with log:=[]} er f=some fv:=by exact rfl)(ha:evs {h with log:=[]} er args=some as:=by exact rfl)(hv:fv= .func (.func k) first cap:=by exact rfl)(hl:lcat first.toList (lcat as cap.toList)=all:=by exact rfl):WD T base ops bf R (i::is) rs e h:=wD_call ho hm he hw rfl (a_call hf ha hv hl) H
end
end Go.A
end
section
set_option maxRecDepth 100000
namespace Go.A
variable {T:Nat→Option AFunc} {base:Nat} {rnd:Option Nat} {Q:XQ} {e:Env} {ds:Dfs} {h:Heap}
def mx(a b:Int):Int:=if b>a then b else a
theorem a_iaddrA{base:Nat}{h:Heap}{e:Env}{len size b o i:Nat}{k:IntKind}{x y:Operand}(hx:ev h e x=some (.pointer (some ⟨b,o,none⟩)))(hy:ev h e y=some (.int k (i:Nat)))(hi:i<len):aop h base e (.iaddrA len size x y)=some (.val (.pointer (some ⟨b,o+i*size,none⟩)) h):=by
 have e0:(.int k (i:Nat):Value)= .int k (Int.ofNat i):=rfl
 rw[e0]at hy
 simp only[aop,hx,hy,nblt_of hi,cond_true]
theorem a_max{base:Nat}{h:Heap}{e:Env}{x y:Operand}{a b:Int}(hx:ev h e x=some (.int .i64 a))(hy:ev h e y=some (.int .i64 b)):aop h base e (.minmax true [x,y])=some (.val (.int .i64 (mx a b)) h):=by
 simp only[aop,evs,hx,hy,mmA,if_true,bindV,mx]
theorem a_beqT{base:Nat}{h:Heap}{e:Env}{x y:Operand}{a:Bool}(hx:ev h e x=some (.bool a))(hy:ev h e y=some (.bool a)):aop h base e (.bin (.beq false) x y)=some (.val (.bool true) h):=by
 rw[a_beq hx hy]
 cases a<;>rfl
theorem a_storeAll{x y:Operand}{b n sz:Nat}{vs cs:List Value}(hx:ev h e x=some (.pointer (some ⟨b,0,none⟩)))(hy:ev h e y=some (.agg cs.toArray))(hb:h.get b=some (.cells vs true sz))(hn:cs.length=n)(hv:vs.length=n)(h1:ones cs=true):
 aop h base e (.store n x y)=some (.val (.tuple #[]) (h.wr base b (.cells cs true sz))):=by
 have hc:cellsOf (.agg cs.toArray)=cs:=by show cs.toArray.toList=cs;simp
 refine a_store hx hy hb ?_ ?_
 ·rw[hc,llen_eq,llen_eq,hn,hv,h1,nbeq_self,Nat.zero_add,nble_of (Nat.le_refl n)];rfl
 ·rw[hc,lputs_mid (by omega)]
  simp only[List.take_zero,List.nil_append,Nat.zero_add]
  rw[List.drop_of_length_le (by omega),List.append_nil]
theorem a_store1{x y:Operand}{b o sz:Nat}{vs:List Value}{v:Value}(hx:ev h e x=some (.pointer (some ⟨b,o,none⟩)))(hy:ev h e y=some v)(hb:h.get b=some (.cells vs true sz))(hc:cellsOf v=[v])(h1:ones [v]=true)(ho:o<vs.length):
 aop h base e (.store 1 x y)=some (.val (.tuple #[]) (h.wr base b (.cells (vs.set o v) true sz))):=by
 refine a_store hx hy hb ?_ ?_
 ·rw[hc,h1,llen_eq,llen_eq,nble_of (by omega)];rfl
 ·rw[hc]
  show lset vs o v=vs.set o v
  clear hx hy hb
  induction vs generalizing o with
  |nil=>simp at ho
  |cons w vs ih=>
   cases o with
   |zero=>rfl
   |succ o=>simp only[lset,List.set_cons_succ];rw[ih (by simpa using ho)]
theorem Al.mono{f:Nat}{args:List Value}{h:Heap}{Q Q':Value→Heap→Prop}(H:Al T f args h Q)(hq:∀v h',Q v h'→Q' v h'):Al T f args h Q':=
 CW.mono H fun r h' ⟨hx,v,hv,q⟩=>⟨hx,v,hv,hq _ _ q⟩
theorem a_un{op:UnOp}{x:Operand}{a v:Value}(hx:ev h e x=some a)(hv:unOpA op a=some v):aop h base e (.un op x)=some (.val v h):=by simp only[aop,hx,bindV,hv]
theorem m_mul{a b:Int}(h1: -9223372036854775808≤a*b)(h2:a*b<9223372036854775808):numOp .mul (.int .i64 a) (.int .i64 b)=some (.int .i64 (a*b)):=by
 simp[numOp,arith,wrapA_i64 h1 h2]
theorem wD_store1{base:Nat}{h:Heap}{e:Env}{ops:List AOper}{bf:List Nat}{rs rs':List Rec}{Q:Env→Heap→Prop}{i mask:Nat}{is:List Nat}{dst:Option Nat}{g:Option (Nat×Bool)}{er:Env}{x y:Operand}{b o sz:Nat}{vs:List Value}{v:Value}
 (ho:lget ops i=some ⟨dst, .store 1 x y,g⟩)(hm:lget bf i=some mask)(he:keepE e (slotsA ⟨dst, .store 1 x y,g⟩)=er)(hwt:wantedA er g=some true)(hx:ev {h with log:=[]} er x=some (.pointer (some ⟨b,o,none⟩)))(hy:ev {h with log:=[]} er y=some v)(hb:h.get b=some (.cells vs true sz))
 (hc:cellsOf v=[v])(h1:ones [v]=true)(ho':o<vs.length)(hlt:b<h.next)(hbb:base≤b)(hrs:recsAfter (h.wr base b (.cells (vs.set o v) true sz)) base [b] mask rs=some rs')
 (H:WD T base ops bf Q is rs' (dstE e dst (.tuple #[])) (h.wr base b (.cells (vs.set o v) true sz))):WD T base ops bf Q (i::is) rs e h:=
 wD_actH ho hm he hwt rfl (a_store1 (h:={h with log:=[]}) hx hy hb hc h1 ho') (eq_wr hlt hbb _) (lg_wr hlt _) hrs H
theorem wD_storeAll{base:Nat}{h:Heap}{e:Env}{ops:List AOper}{bf:List Nat}{rs rs':List Rec}{Q:Env→Heap→Prop}{i mask:Nat}{is:List Nat}{dst:Option Nat}{g:Option (Nat×Bool)}{er:Env}{x y:Operand}{b n sz:Nat}{vs cs:List Value}
 (ho:lget ops i=some ⟨dst, .store n x y,g⟩)(hm:lget bf i=some mask)(he:keepE e (slotsA ⟨dst, .store n x y,g⟩)=er)(hwt:wantedA er g=some true)(hx:ev {h with log:=[]} er x=some (.pointer (some ⟨b,0,none⟩)))(hy:ev {h with log:=[]} er y=some (.agg cs.toArray))(hb:h.get b=some (.cells vs true sz))
 (hn:cs.length=n)(hv:vs.length=n)(h1:ones cs=true)(hlt:b<h.next)(hbb:base≤b)(hrs:recsAfter (h.wr base b (.cells cs true sz)) base [b] mask rs=some rs')
 (H:WD T base ops bf Q is rs' (dstE e dst (.tuple #[])) (h.wr base b (.cells cs true sz))):WD T base ops bf Q (i::is) rs e h:=
 wD_actH ho hm he hwt rfl (a_storeAll (h:={h with log:=[]}) hx hy hb hn hv h1) (eq_wr hlt hbb _) (lg_wr hlt _) hrs H
theorem wD_storeA{base:Nat}{e:Env}{h:Heap}{ops:List AOper}{bf:List Nat}{rs rs':List Rec}{Q:Env→Heap→Prop}{i mask:Nat}{is:List Nat}{dst:Option Nat}{x y:Operand}{n b o sz:Nat}{vs ws:List Value}{v:Value}{g:Option (Nat×Bool)}{er:Env}(ho:lget ops i=some ⟨dst, .store n x y,g⟩)(hm:lget bf i=some mask)
 (he:keepE e (slotsA ⟨dst, .store n x y,g⟩)=er)(hw:wantedA er g=some true)(hx:ev {h with log:=[]} er x=some (.pointer (some ⟨b,o,none⟩)))(hy:ev {h with log:=[]} er y=some v)(hb:h.get b=some (.cells vs true sz))
 (hc:(Nat.beq (llen (cellsOf v)) n&&Nat.ble (o+n) (llen vs)&&ones (cellsOf v))=true)(hws:lputs vs o (cellsOf v)=ws)(hlt:b<h.next)(hrs:recsAfter (h.wr base b (.cells ws true sz)) base [b] mask rs=some rs')
 (H:WD T base ops bf Q is rs' (dstE e dst (.tuple #[])) (h.wr base b (.cells ws true sz))):WD T base ops bf Q (i::is) rs e h:=
 wD_actH ho hm he hw rfl (a_store (h:={h with log:=[]}) hx hy hb hc hws) (eq_wrA hlt _) (lg_wr hlt _) hrs H
theorem wE_cutP{base:Nat}{rnd:Option Nat}{Q:XQ}{e:Env}{E0:Env}{ds:Dfs}{h:Heap}{a b:ACode}{P:Heap→Prop}(H1:WE T base rnd a (fun x e' ds' h'=>x= .normal∧e'=E0∧ds'=[]∧P h') e ds h)(H2:∀h',P h'→WE T base rnd b Q E0 [] h'):WE T base rnd (.seq a b) Q e ds h:=by
 refine wE_seq (H1.mono ?_)
 rintro x e' ds' h' ⟨rfl,rfl,rfl,hp⟩
 exact kS_n (H2 h' hp)
theorem Gp.mono{f:Nat}{args:List Value}{h:Heap}{S:Nat→Prop}{Q Q' Qp:Value→Heap→Prop}(H:Gp T f args h S Q Qp)(hq:∀v h',Q v h'→Q' v h'):Gp T f args h S Q' Qp:=
 CW.mono H fun r h' ⟨w,q⟩=>⟨w,q.elim (fun⟨v,e,q⟩=> .inl ⟨v,e,hq v h' q⟩) .inr⟩
theorem FW.pan{f:Nat}{args:List Value}{v:Value}{K:Env→Dfs→Heap→Prop}{dst:Option Nat}(H:CW T f args {h with log:=[]} fun r h'=>r= .panic v∧h'={h with log:=[]})(hK:Q (.panic v) e ds h):FW T (.func f) args {h with log:=[]} (KO K Q base dst e ds h.log):=by
 refine .func (CW.mono H ?_)
 rintro r h2 ⟨rfl,rfl⟩
 exact⟨hK⟩
theorem WF.get_lt{h:Heap}(w:WF h){x:Nat}{o:AObj}(hx:h.get x=some o):x<h.next:=by
 refine w.lt x (Classical.byContradiction fun hn=> ?_)
 have:=getO_none hn
 rw[show getO h.objs x=h.get x from rfl,hx]at this
 cases this
end Go.A
end
