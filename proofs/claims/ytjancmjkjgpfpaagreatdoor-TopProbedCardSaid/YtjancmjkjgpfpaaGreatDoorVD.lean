/- How a run is reckoned. -/
import Derived.Test.YtjancmjkjgpfpaaGreatDoorVC
import Derived.Test.YtjancmjkjgpfpaaGreatDoorVA
import Derived.Lib.Bytealg
import Derived.Below
import Derived.Test.YtjancmjkjgpfpaaGreatDoorVE
set_option linter.all false
set_option maxRecDepth 100000
section
namespace Go.A
variable {P:Program}
def Tr.all(Q:Nat->an->Prop):Tr->Prop
 | .nil=>True
 | .node l k v r=>l.all Q/\Q k v/\r.all Q
theorem Tr.all_nil{Q:Nat->an->Prop}:Tr.all Q .nil:=trivial
theorem Tr.af{Q:Nat->an->Prop}{l r:Tr}{k:Nat}{v:an}(h1:l.all Q)(h2:Q k v)(h3:r.all Q):Tr.all Q (.node l k v r):=⟨h1,h2,h3⟩
theorem Tr.uZ{Q:Nat->an->Prop}:∀{t:Tr} {n:Nat} {v:an},t.all Q->t.get n=some v->Q n v
 | .nil,_,_,_,h=>by cases h
 | .node l k v r,n,u,ha,h=>by
   simp only[Tr.get,cond_eq_ite,beq_eq,decide_eq_true_eq]at h;split at h
   ·rename_i e;subst e;cases h;exact ha.2.1
   ·split at h
    ·exact Tr.uZ ha.1 h
    ·exact Tr.uZ ha.2.2 h
def Ah(P:Program)(f:Nat)(p:List Value->Heap->Option (Value×Heap)):Prop:=∀args h v h',p args h=some (v,h')->h.log=[]->AS h.next h h'∧∀μ w args',R P μ h w->LR μ args args'→oA P (gL P μ h w (.ret v) h') ((callFunc f args'.toArray).run P w)
inductive Entry (P:Program) (k:Nat):an->Prop
 |code {c rs fn ks}:P.funcs[k]? =some fn->aW P fn ks=some (.code c rs)->Entry P k (.code c rs)
 |kT {p}:Ah P k p->Entry P k (.kT p)
theorem Entry.of{k:Nat}{fn:Func}{a:an}{ks:List (List Nat)}(h1:P.funcs[k]? =some fn)(h2:aW P fn ks=some a):Entry P k a:=by
 have h3:=h2;unfold aW at h3;split at h3
 ·split at h3
  ·cases h3
  ·split at h3
   ·cases h3;exact .code h1 h2
   ·cases h3
 ·cases h3
theorem qk{t:Tr}(hm:P.follows .mixedOrders=true)(h:t.all (Entry P)):ef P t.get where
 mixed:=hm
 code:=λf c rs hf=>by
  have:=Tr.uZ h hf;cases this with
  |code h1 h2=>exact⟨_,_,h1,h2⟩
 kT:=λf p args h0 v h' hf hp hl=>by
  have:=Tr.uZ h hf;cases this with
  |kT h1=>exact h1 args h0 v h' hp hl
theorem R.grow{μ:Mu}{h:Heap}{w w':World}(hR:R P μ h w)(hs:w.heap.size<=w'.heap.size)(hk:∀r,r<w.heap.size->w'.heap[r]? =w.heap[r]?)(hsm:Same w w'):R P μ h w'∧St μ h w μ h w':=
 ⟨⟨hR.big,fun g o h1 h2=>let⟨k,a,b,c,x⟩:=hR.kP g o h1 h2;⟨k,a,b,c,x.get (hk _ (hR.dom _ _ a).2)⟩,fun b o hb=>OR.mono (fun _ _ h=>h) rfl (fun k hk'=>hk _ (hR.dom _ _ hk').2) (hR.obj b o hb),hR.lt,fun b k hb=>⟨(hR.dom b k hb).1,Nat.lt_of_lt_of_le (hR.dom b k hb).2 hs⟩,hR.j7⟩,
   ⟨λ_ _=>rfl,hs,λr hr _=>hk r hr,λ_ _ h=>h,λr L h=>⟨L,(hk r (Array.getElem?_eq_some_iff.1 h).1).trans h, .refl L⟩,hsm⟩⟩
theorem Io{f:Nat}{fn:Func}(hf:P.funcs[f]? =some fn)(hn:fn.name≠ "runtime.NumGoroutine")(hb:fn.body.isSome=true)(args:Array Value)(w:World):(callFunc f args).run P w= .ok (.enter f args) w:=by
 cases hb':fn.body with
 |none=>rw[hb']at hb;cases hb
 |some b=>simp[callFunc,program,Sem.run,hf,hb',hn]
theorem j0{μ:Mu}{h:Heap}{w:World}{f:Nat}{fn:Func}(hf:P.funcs[f]? =some fn)(hn:fn.name≠ "runtime.NumGoroutine")(hb:fn.body.isSome=true){args:Array Value}{Q:Ending→World→Prop}(hc:Calls P f args w Q)
 {res:Res}{h':Heap}(hq:∀e w',Q e w'→gL P μ h w res h' e w'):oA P (gL P μ h w res h') ((callFunc f args).run P w):=by
 rw[Io hf hn hb];exact callsIn_wide.2 (hc.mono hq)
theorem LR.two{μ:Mu}{x y:Value}{l:List Value}(h:LR μ [x,y] l):∃x' y',l=[x',y']/\VR μ x x'∧VR μ y y':=by
 cases h with
 |cons h1 h2=>cases h2 with
  |cons h2 h3=>cases h3;exact⟨_,_,rfl,h1,h2⟩
end Go.A
end
section
namespace Go.A
variable {T:Nat->Option an}
def Ev(T:Nat->Option an)(base:Nat)(rnd:Option Nat)(c:aR)(e:Env)(ds:Dfs)(h:Heap)(r:bB×Env×Dfs×Heap):Prop:=∃m,∀n,m<=n->cB T n base rnd c e ds h=some r
def EvO(T:Nat->Option an)(base:Nat)(rnd:Option Nat)(ops:List aV)(e:Env)(ds:Dfs)(h:Heap)(r:bB×Env×Dfs×Heap):Prop:=∃m,∀n,m<=n->gw T n base rnd ops e ds h=some r
def EvD(T:Nat->Option an)(base:Nat)(ops:List aV)(is bf:List Nat)(rs:List Rec)(e:Env)(h:Heap)(r:bB×Env×Heap):Prop:=∃m,∀n,m<=n->eR T n base ops is bf rs e h=some r
def EvF(T:Nat->Option an)(fn:Fn)(args:List Value)(h:Heap)(r:Res×Heap):Prop:=∃m,∀n,m<=n->gu T n fn args h=some r
def EvC(T:Nat->Option an)(f:Nat)(args:List Value)(h:Heap)(r:Res×Heap):Prop:=∃m,∀n,m<=n->iU T n f args h=some r
def XW(T:Nat->Option an)(base:Nat)(rnd:Option Nat)(c:aR)(e:Env)(ds:Dfs)(h:Heap)(Q:bB->Env->Dfs->Heap->Prop):Prop:=∃x e' ds' h',Ev T base rnd c e ds h (x,e',ds',h')/\Q x e' ds' h'
def FW(T:Nat->Option an)(fn:Fn)(args:List Value)(h:Heap)(Q:Res->Heap->Prop):Prop:=∃r h',EvF T fn args h (r,h')/\Q r h'
def CW(T:Nat->Option an)(f:Nat)(args:List Value)(h:Heap)(Q:Res->Heap->Prop):Prop:=∃r h',EvC T f args h (r,h')/\Q r h'
theorem XW.mono{base:Nat}{rnd:Option Nat}{c:aR}{e:Env}{ds:Dfs}{h:Heap}{Q Q':bB->Env->Dfs->Heap->Prop}(H:XW T base rnd c e ds h Q)(hq:∀x e ds h,Q x e ds h->Q' x e ds h):XW T base rnd c e ds h Q':=
 let⟨x,e',ds',h',h1,h2⟩:=H;⟨x,e',ds',h',h1,hq _ _ _ _ h2⟩
theorem CW.mono{f:Nat}{args:List Value}{h:Heap}{Q Q':Res->Heap->Prop}(H:CW T f args h Q)(hq:∀r h,Q r h->Q' r h):CW T f args h Q':=
 let⟨r,h',h1,h2⟩:=H;⟨r,h',h1,hq _ _ h2⟩
abbrev XQ:=bB->Env->Dfs->Heap->Prop
def kR(keep:List Nat)(Q:XQ):XQ:=λx e ds h=>match x with
 | .normal=>Q .normal (bO e keep) ds h
 |x=>Q x e ds h
def kB(id:Nat)(Q:XQ):XQ:=λx e ds h=>match x with
 | .exit i=>(i=id->Q .normal e ds h)/\(i≠id->Q (.exit i) e ds h)
 |x=>Q x e ds h
def kS(K:Env->Dfs->Heap->Prop)(Q:XQ):XQ:=λx e ds h=>match x with
 | .normal=>K e ds h
 |x=>Q x e ds h
def kO(K:Env->Dfs->Heap->Prop)(Q:XQ)(base:Nat)(dst:Option Nat)(e:Env)(ds:Dfs)(log:List Nat):Res->Heap->Prop:=λr h2=>match r with
 | .ret v=>K (cC e dst v) ds {h2 with log:=aC base log h2.log}
 | .panic v=>Q (.panic v) e ds {h2 with log:=aC base log h2.log}
def kD(K:List Rec->Env->Heap->Prop)(base:Nat)(mask:Nat)(rs:List Rec)(dst:Option Nat)(e:Env)(log:List Nat):Res->Heap->Prop:=λr h2=>match r with
 | .ret v=>match bC {h2 with log:=aC base log h2.log} base h2.log mask rs with
   |some rs'=>K rs' (cC e dst v) {h2 with log:=aC base log h2.log}
   |none=>False
 | .panic _=>False
def wpA(T:Nat->Option an)(base:Nat)(rnd:Option Nat)(wpO:Env->Dfs->Heap->Prop)(Q:XQ)(dst:Option Nat)(e:Env)(ds:Dfs)(h:Heap):Option cQ->Prop
 |some (.val v h')=>wpO (cC e dst v) ds h'
 |some (.call fn args h')=>FW T fn args {h' with log:=[]} (kO wpO Q base dst e ds h'.log)
 |some (.j6 f args)=>rnd=none/\wpO (cC e dst (.tuple #[])) ((f,args)::ds) h
 |some (.panic v h')=>Q (.panic v) e ds h'
 |_=>False
def wpG(A:Prop)(B:Prop):Option Bool->Prop
 |some c=>(c=false->B)/\(c=true->A)
 |none=>False
def wpO(T:Nat->Option an)(base:Nat)(rnd:Option Nat)(Q:XQ):List aV->Env->Dfs->Heap->Prop
 |[],e,ds,h=>Q .normal e ds h
 |o::os,e,ds,h=>wpG (wpA T base rnd (wpO T base rnd Q os) Q o.dst e ds h (aop h base e o.op)) (wpO T base rnd Q os (cC e o.dst (.tuple #[])) ds h) (bN e o.guard)
def VF(T:Nat->Option an)(base:Nat)(wpD:List Rec->Env->Heap->Prop)(i:Nat)(o:aV)(mask:Nat)(rs:List Rec)(er e:Env)(h:Heap):Prop:=
 match jR o.op with
 |true=>
  match aop h base er o.op with
  |some (.val v h')=>
   match dG o.op with
   |true=>oI h' base rs=true/\wpD (⟨i,o,er,v, .made h.next⟩::rs) (cC e o.dst v) h'
   |false=>h'.next=h.next/\wpD (⟨i,o,er,v, .quiet⟩::rs) (cC e o.dst v) h
  |_=>False
 |false=>
  match aop {h with log:=[]} h.next er o.op with
  |some (.val v h2)=>match bC {h2 with log:=aC base h.log h2.log} base h2.log mask rs with
   |some rs'=>wpD rs' (cC e o.dst v) {h2 with log:=aC base h.log h2.log}
   |none=>False
  |some (.call fn args _)=>FW T fn args {h with log:=[]} (kD wpD base mask rs o.dst e h.log)
  |_=>False
def wpD(T:Nat->Option an)(base:Nat)(ops:List aV)(bf:List Nat)(Q:Env->Heap->Prop):List Nat->List Rec->Env->Heap->Prop
 |[],_,e,h=>Q e h
 |i::is,rs,e,h=>
  match bH ops i,bH bf i with
  |some o,some mask=>wpG (VF T base (wpD T base ops bf Q is) i o mask rs (bO e (cS o)) e h) (wpD T base ops bf Q is (⟨i,o,bO e (cS o), .tuple #[], .skip⟩::rs) (cC e o.dst (.tuple #[])) h) (bN (bO e (cS o)) o.guard)
  |_,_=>False
def wpC(A B:Prop):Option Value->Prop
 |some (.bool t)=>(t=true->A)/\(t=false->B)
 |_=>False
def wpE(T:Nat->Option an)(base:Nat)(rnd:Option Nat):aR->XQ->Env->Dfs->Heap->Prop
 | .skip,Q,e,ds,h=>Q .normal e ds h
 | .region ops keep,Q,e,ds,h=>wpO T base rnd (kR keep Q) ops e ds h
 | .draw ops order bf keep,Q,e,ds,h=>wpD T base ops bf (λe' h'=>Q .normal (bO e' keep) ds h') order [] e h
 | .seq a b,Q,e,ds,h=>wpE T base rnd a (kS (wpE T base rnd b Q) Q) e ds h
 | .cond c a b,Q,e,ds,h=>wpC (wpE T base rnd a Q e ds h) (wpE T base rnd b Q e ds h) (ev h e c)
 | .block id b,Q,e,ds,h=>wpE T base rnd b (kB id Q) e ds h
 | .loop b,Q,e,ds,h=>XW T base rnd (.loop b) e ds h Q
 | .rangeFunc f ps a b,Q,e,ds,h=>XW T base rnd (.rangeFunc f ps a b) e ds h Q
 | .scope b,Q,e,ds,h=>wpE T base rnd b Q e ds h
 | .rangeMap o i x k ou nx pr o2 k2 b,Q,e,ds,h=>XW T base rnd (.rangeMap o i x k ou nx pr o2 k2 b) e ds h Q
 | .exit id,Q,e,ds,h=>Q (.exit id) e ds h
 | .ret,Q,e,ds,h=>Q .ret e ds h
theorem ud{base:Nat}{rnd:Option Nat}{Q:XQ}:∀{ops:List aV} {e:Env} {ds:Dfs} {h:Heap},wpO T base rnd Q ops e ds h->∃x e' ds' h',EvO T base rnd ops e ds h (x,e',ds',h')/\Q x e' ds' h'
 |[],e,ds,h,H=>⟨.normal,e,ds,h,⟨1,λn hn=>by obtain⟨k,rfl⟩:∃k,n=k+1:=⟨n-1,by omega⟩;simp only[gw]⟩,H⟩
 |o::os,e,ds,h,H=>by
  simp only[wpO]at H;unfold wpG at H;split at H
  ·rename_i c hc;cases c with
   |false=>
    obtain⟨x,e',ds',h',⟨m,h1⟩,h2⟩:=ud (H.1 rfl);exact⟨x,e',ds',h',⟨m+1,λn hn=>by
     obtain⟨k,rfl⟩:∃k,n=k+1:=⟨n-1,by omega⟩;simp only[gw,hc];exact h1 k (by omega)⟩,h2⟩
   |true=>
    have H:=H.2 rfl;unfold wpA at H;split at H
    ·rename_i v h3 ho;obtain⟨x,e',ds',h',⟨m,h1⟩,h2⟩:=ud H;exact⟨x,e',ds',h',⟨m+1,λn hn=>by
      obtain⟨k,rfl⟩:∃k,n=k+1:=⟨n-1,by omega⟩;simp only[gw,hc,ho];exact h1 k (by omega)⟩,h2⟩
    ·rename_i fn args h3 ho;obtain⟨r,h4,⟨m1,hf⟩,H⟩:=H;cases r with
     |ret v=>
      obtain⟨x,e',ds',h',⟨m,h1⟩,h2⟩:=ud H;exact⟨x,e',ds',h',⟨m+m1+1,λn hn=>by
       obtain⟨k,rfl⟩:∃k,n=k+1:=⟨n-1,by omega⟩;simp only[gw,hc,ho,hf k (by omega)];exact h1 k (by omega)⟩,h2⟩
     |panic v=>
      exact⟨_,_,_,_,⟨m1+1,λn hn=>by
       obtain⟨k,rfl⟩:∃k,n=k+1:=⟨n-1,by omega⟩;simp only[gw,hc,ho,hf k (by omega)]⟩,H⟩
    ·rename_i f args ho;obtain⟨hr,H⟩:=H;subst hr;obtain⟨x,e',ds',h',⟨m,h1⟩,h2⟩:=ud H;exact⟨x,e',ds',h',⟨m+1,λn hn=>by
      obtain⟨k,rfl⟩:∃k,n=k+1:=⟨n-1,by omega⟩;simp only[gw,hc,ho];exact h1 k (by omega)⟩,h2⟩
    ·rename_i v h3 ho;exact⟨_,_,_,_,⟨1,λn hn=>by
      obtain⟨k,rfl⟩:∃k,n=k+1:=⟨n-1,by omega⟩;simp only[gw,hc,ho]⟩,H⟩
    ·exact H.elim
  ·exact H.elim
theorem Fx{base:Nat}{ops:List aV}{bf:List Nat}{Q:Env->Heap->Prop}:∀{is:List Nat} {rs:List Rec} {e:Env} {h:Heap},wpD T base ops bf Q is rs e h->∃e' h',EvD T base ops is bf rs e h (.normal,e',h')/\Q e' h'
 |[],rs,e,h,H=>⟨e,h,⟨1,λn hn=>by obtain⟨k,rfl⟩:∃k,n=k+1:=⟨n-1,by omega⟩;simp only[eR]⟩,H⟩
 |i::is,rs,e,h,H=>by
  simp only[wpD]at H;split at H
  ·rename_i o mask ho hm;unfold wpG at H;split at H
   ·rename_i c hc;have fin:∀{rs':List Rec} {e1:Env} {h1:Heap},wpD T base ops bf Q is rs' e1 h1->(∃m,∀n,m<=n->∀r,eR T n base ops is bf rs' e1 h1=some r->eR T (n+1) base ops (i::is) bf rs e h=some r)->∃e' h',EvD T base ops (i::is) bf rs e h (.normal,e',h')/\Q e' h':=λhw ⟨m0,hs⟩=>by
     obtain⟨e',h',⟨m,h1⟩,h2⟩:=Fx hw;exact⟨e',h',⟨m+m0+1,λn hn=>by
      obtain⟨k,rfl⟩:∃k,n=k+1:=⟨n-1,by omega⟩;exact hs k (by omega) _ (h1 k (by omega))⟩,h2⟩
    cases c with
    |false=>
     exact fin (H.1 rfl) ⟨0,λn _ r hr=>by simp only[eR,ho,hm,hc];exact hr⟩
    |true=>
     have H:=H.2 rfl;unfold VF at H;split at H
     ·rename_i he;split at H
      ·rename_i v h3 hop;split at H
       ·rename_i hnw;exact fin H.2 ⟨0,λn _ r hr=>by simp only[eR,ho,hm,hc,he,hop,hnw,H.1,cond_true];exact hr⟩
       ·rename_i hnw;exact fin H.2 ⟨0,λn _ r hr=>by
         have hb:Nat.beq h3.next h.next=true:=by rw[beq_eq];simpa using H.1
         simp only[eR,ho,hm,hc,he,hop,hnw,hb,cond_true,cond_false];exact hr⟩
      ·exact H.elim
     ·rename_i he;split at H
      ·rename_i v h3 hop;split at H
       ·rename_i rs' hrs;exact fin H ⟨0,λn _ r hr=>by simp only[eR,ho,hm,hc,he,hop,hrs,cond_false];exact hr⟩
       ·exact H.elim
      ·rename_i fn args h3 hop;obtain⟨r,h4,⟨m1,hf⟩,H⟩:=H;unfold kD at H;split at H
       ·rename_i v;split at H
        ·rename_i rs' hrs;exact fin H ⟨m1,λn hn r hr=>by simp only[eR,ho,hm,hc,he,hop,hf n hn,hrs,cond_false];exact hr⟩
        ·exact H.elim
       ·exact H.elim
      ·exact H.elim
   ·exact H.elim
  ·exact H.elim
theorem rD{base:Nat}{rnd:Option Nat}:∀{c:aR} {Q:XQ} {e:Env} {ds:Dfs} {h:Heap},wpE T base rnd c Q e ds h->XW T base rnd c e ds h Q
 | .skip,Q,e,ds,h,H=>⟨_,_,_,_,⟨1,λn hn=>by obtain⟨k,rfl⟩:∃k,n=k+1:=⟨n-1,by omega⟩;simp only[cB]⟩,H⟩
 | .exit i,Q,e,ds,h,H=>⟨_,_,_,_,⟨1,λn hn=>by obtain⟨k,rfl⟩:∃k,n=k+1:=⟨n-1,by omega⟩;simp only[cB]⟩,H⟩
 | .ret,Q,e,ds,h,H=>⟨_,_,_,_,⟨1,λn hn=>by obtain⟨k,rfl⟩:∃k,n=k+1:=⟨n-1,by omega⟩;simp only[cB]⟩,H⟩
 | .loop b,Q,e,ds,h,H=>H
 | .rangeFunc f ps a b,Q,e,ds,h,H=>H
 | .rangeMap o i x k ou nx pr o2 k2 b,Q,e,ds,h,H=>H
 | .scope b,Q,e,ds,h,H=>by
   obtain⟨x,e',ds',h',⟨m,h1⟩,h2⟩:=rD (c:=b) H;exact⟨_,_,_,_,⟨m+1,λn hn=>by
    obtain⟨k,rfl⟩:∃k,n=k+1:=⟨n-1,by omega⟩;simp only[cB,h1 k (by omega)]⟩,h2⟩
 | .region ops keep,Q,e,ds,h,H=>by
   obtain⟨x,e',ds',h',⟨m,h1⟩,h2⟩:=ud H;cases x with
   |normal=>exact⟨_,_,_,_,⟨m+1,λn hn=>by
    obtain⟨k,rfl⟩:∃k,n=k+1:=⟨n-1,by omega⟩;simp only[cB,h1 k (by omega)]⟩,h2⟩
   |_=>exact⟨_,_,_,_,⟨m+1,fun n hn=>by
     obtain⟨k,rfl⟩:∃k,n=k+1:=⟨n-1,by omega⟩;simp only[cB,h1 k (by omega)]⟩,h2⟩
 | .draw ops order bf keep,Q,e,ds,h,H=>by
   obtain⟨e',h',⟨m,h1⟩,h2⟩:=Fx H;exact⟨_,_,_,_,⟨m+1,λn hn=>by
    obtain⟨k,rfl⟩:∃k,n=k+1:=⟨n-1,by omega⟩;simp only[cB,h1 k (by omega)]⟩,h2⟩
 | .seq a b,Q,e,ds,h,H=>by
   obtain⟨x,e',ds',h',⟨m,h1⟩,h2⟩:=rD (c:=a) H;cases x with
   |normal=>
    obtain⟨x2,e2,ds2,h3,⟨m2,h4⟩,h5⟩:=rD (c:=b) h2;exact⟨_,_,_,_,⟨m+m2+1,λn hn=>by
     obtain⟨k,rfl⟩:∃k,n=k+1:=⟨n-1,by omega⟩;simp only[cB,h1 k (by omega)];exact h4 k (by omega)⟩,h5⟩
   |_=>exact⟨_,_,_,_,⟨m+1,fun n hn=>by
     obtain⟨k,rfl⟩:∃k,n=k+1:=⟨n-1,by omega⟩;simp only[cB,h1 k (by omega)]⟩,h2⟩
 | .cond c a b,Q,e,ds,h,H=>by
   simp only[wpE]at H;unfold wpC at H;split at H
   ·rename_i t ht;cases t with
    |true=>
     obtain⟨x,e',ds',h',⟨m,h1⟩,h2⟩:=rD (c:=a) (H.1 rfl);exact⟨_,_,_,_,⟨m+1,λn hn=>by
      obtain⟨k,rfl⟩:∃k,n=k+1:=⟨n-1,by omega⟩;simp only[cB,ht];exact h1 k (by omega)⟩,h2⟩
    |false=>
     obtain⟨x,e',ds',h',⟨m,h1⟩,h2⟩:=rD (c:=b) (H.2 rfl);exact⟨_,_,_,_,⟨m+1,λn hn=>by
      obtain⟨k,rfl⟩:∃k,n=k+1:=⟨n-1,by omega⟩;simp only[cB,ht];exact h1 k (by omega)⟩,h2⟩
   ·exact H.elim
 | .block id b,Q,e,ds,h,H=>by
   obtain⟨x,e',ds',h',⟨m,h1⟩,h2⟩:=rD (c:=b) H;cases x with
   |exit i=>
    by_cases hi:i=id
    ·exact⟨_,_,_,_,⟨m+1,λn hn=>by
      obtain⟨k,rfl⟩:∃k,n=k+1:=⟨n-1,by omega⟩;have hb:Nat.beq i id=true:=by rw[beq_eq];simpa using hi
      simp only[cB,h1 k (by omega),hb,cond_true]⟩,h2.1 hi⟩
    ·exact⟨_,_,_,_,⟨m+1,λn hn=>by
      obtain⟨k,rfl⟩:∃k,n=k+1:=⟨n-1,by omega⟩;have hb:Nat.beq i id=false:=by rw[beq_eq];simpa using hi
      simp only[cB,h1 k (by omega),hb,cond_false]⟩,h2.2 hi⟩
   |_=>exact⟨_,_,_,_,⟨m+1,fun n hn=>by
     obtain⟨k,rfl⟩:∃k,n=k+1:=⟨n-1,by omega⟩;simp only[cB,h1 k (by omega)]⟩,h2⟩
theorem XW.loop{base:Nat}{rnd:Option Nat}{b:aR}{Q:bB->Env->Dfs->Heap->Prop}(I:Nat->Env->Dfs->Heap->Prop)
 (hr:∀k e ds h,I k e ds h->XW T base rnd b e ds h λx e' ds' h'=>match x with| .normal=>∃k',k'<k/\I k' e' ds' h'|x=>Q x e' ds' h'):
 ∀{k:Nat} {e:Env} {ds:Dfs} {h:Heap},I k e ds h->XW T base rnd (.loop b) e ds h Q:=by
 intro k;induction k using Nat.strongRecOn with
 |ind k ih=>
  intro e ds h hI;obtain⟨x,e',ds',h',⟨m,h1⟩,h2⟩:=hr k e ds h hI;cases x with
  |normal=>
   obtain⟨k',hk,hI'⟩:=h2;obtain⟨x2,e2,ds2,h3,⟨m2,h4⟩,h5⟩:=ih k' hk hI';exact⟨_,_,_,_,⟨m+m2+1,λn hn=>by
    obtain⟨k,rfl⟩:∃k,n=k+1:=⟨n-1,by omega⟩;simp only[cB,h1 k (by omega)];exact h4 k (by omega)⟩,h5⟩
  |_=>exact⟨_,_,_,_,⟨m+1,fun n hn=>by
    obtain⟨k,rfl⟩:∃k,n=k+1:=⟨n-1,by omega⟩;simp only[cB,h1 k (by omega)]⟩,h2⟩
theorem XW.Xc{base:Nat}{rnd:Option Nat}{a b:aR}{e:Env}{ds:Dfs}{h:Heap}{Q:bB->Env->Dfs->Heap->Prop}
 (H:XW T base rnd a e ds h λx e' ds' h'=>match x with| .normal=>XW T base rnd b e' ds' h' Q|x=>Q x e' ds' h'):XW T base rnd (.seq a b) e ds h Q:=by
 obtain⟨x,e',ds',h',⟨m,h1⟩,h2⟩:=H;cases x with
 |normal=>
  obtain⟨x2,e2,ds2,h3,⟨m2,h4⟩,h5⟩:=h2;exact⟨_,_,_,_,⟨m+m2+1,λn hn=>by
   obtain⟨k,rfl⟩:∃k,n=k+1:=⟨n-1,by omega⟩;simp only[cB,h1 k (by omega)];exact h4 k (by omega)⟩,h5⟩
 |_=>exact⟨_,_,_,_,⟨m+1,fun n hn=>by
   obtain⟨k,rfl⟩:∃k,n=k+1:=⟨n-1,by omega⟩;simp only[cB,h1 k (by omega)]⟩,h2⟩
theorem FW.func{f:Nat}{args:List Value}{h:Heap}{Q:Res->Heap->Prop}(H:CW T f args h Q):FW T (.func f) args h Q:=by
 obtain⟨r,h',⟨m,h1⟩,h2⟩:=H;exact⟨r,h',⟨m+1,λn hn=>by
  obtain⟨k,rfl⟩:∃k,n=k+1:=⟨n-1,by omega⟩;simp only[gu];exact h1 k (by omega)⟩,h2⟩
def vZ(rs:List (Nat×Option (Option Nat)))(h:Heap)(Q:Res->Heap->Prop):bB->Env->Dfs->Heap->Prop:=λx e ds h1=>
 match x with
 | .exit _=>False
 | .panic v=>match ds with
   |[]=>Q (.panic v) h1
   |_=>False
 |_=>match ds with
  |[]=>match bR h1 e rs with
   |some vs=>Q (.ret (eE vs)) (gcA h h1 (eE vs))
   |none=>False
  |_=>False
theorem CW.code{f:Nat}{args:List Value}{h:Heap}{Q:Res->Heap->Prop}{c:aR}{rs:List (Nat×Option (Option Nat))}(hf:T f=some (.code c rs))
 (H:XW T h.next none c (dZ 0 args) [] h (vZ rs h Q)):CW T f args h Q:=by
 obtain⟨x,e,ds,h1,⟨m,he⟩,H⟩:=H;unfold vZ at H;cases x with
 |exit _=>exact H.elim
 |panic v=>
  dsimp only at H;split at H
  ·refine⟨_,_,⟨m+2,λn hn=> ?_⟩,H⟩;obtain⟨k,rfl⟩:∃k,n=k+2:=⟨n-2,by omega⟩;have:=he (k+1) (by omega);simp only[iU,this,oP,hf]
  ·exact H.elim
 |normal=>
  dsimp only at H;split at H
  ·split at H
   ·rename_i vs hvs;refine⟨_,_,⟨m+2,λn hn=> ?_⟩,H⟩;obtain⟨k,rfl⟩:∃k,n=k+2:=⟨n-2,by omega⟩;have:=he (k+1) (by omega);simp only[iU,this,oP,hf,hvs]
   ·exact H.elim
  ·exact H.elim
 |ret=>
  dsimp only at H;split at H
  ·split at H
   ·rename_i vs hvs;refine⟨_,_,⟨m+2,λn hn=> ?_⟩,H⟩;obtain⟨k,rfl⟩:∃k,n=k+2:=⟨n-2,by omega⟩;have:=he (k+1) (by omega);simp only[iU,this,oP,hf,hvs]
   ·exact H.elim
  ·exact H.elim
end Go.A
end
section
namespace Go.A
variable {T:Nat->Option an} {base:Nat} {rnd:Option Nat} {Q:XQ} {e:Env} {ds:Dfs} {h:Heap} {c:aR}
structure WE (T:Nat->Option an) (base:Nat) (rnd:Option Nat) (c:aR) (Q:XQ) (e:Env) (ds:Dfs) (h:Heap):Prop where
 ok:XW T base rnd c e ds h Q
structure WO (T:Nat->Option an) (base:Nat) (rnd:Option Nat) (Q:XQ) (ops:List aV) (e:Env) (ds:Dfs) (h:Heap):Prop where
 ok:∃x e' ds' h',EvO T base rnd ops e ds h (x,e',ds',h')/\Q x e' ds' h'
structure WD (T:Nat->Option an) (base:Nat) (ops:List aV) (bf:List Nat) (Q:Env->Heap->Prop) (is:List Nat) (rs:List Rec) (e:Env) (h:Heap):Prop where
 ok:∃e' h',EvD T base ops is bf rs e h (.normal,e',h')/\Q e' h'
structure KR (keep:List Nat) (Q:XQ) (x:bB) (e:Env) (ds:Dfs) (h:Heap):Prop where
 ok:kR keep Q x e ds h
structure KS (K:Env->Dfs->Heap->Prop) (Q:XQ) (x:bB) (e:Env) (ds:Dfs) (h:Heap):Prop where
 ok:kS K Q x e ds h
structure KB (i:Nat) (Q:XQ) (x:bB) (e:Env) (ds:Dfs) (h:Heap):Prop where
 ok:kB i Q x e ds h
structure KO (K:Env->Dfs->Heap->Prop) (Q:XQ) (base:Nat) (dst:Option Nat) (e:Env) (ds:Dfs) (log:List Nat) (r:Res) (h:Heap):Prop where
 ok:kO K Q base dst e ds log r h
structure KD (K:List Rec->Env->Heap->Prop) (base:Nat) (mask:Nat) (rs:List Rec) (dst:Option Nat) (e:Env) (log:List Nat) (r:Res) (h:Heap):Prop where
 ok:kD K base mask rs dst e log r h
theorem WE.of(H:wpE T base rnd c Q e ds h):WE T base rnd c Q e ds h:=⟨rD H⟩
theorem Qa(H:Q .normal e ds h):WE T base rnd .skip Q e ds h:= .of H
theorem P8{i:Nat}(H:Q (.exit i) e ds h):WE T base rnd (.exit i) Q e ds h:= .of H
theorem tZ(H:Q .ret e ds h):WE T base rnd .ret Q e ds h:= .of H
theorem BQ{a b:aR}(H:WE T base rnd a (KS (WE T base rnd b Q) Q) e ds h):WE T base rnd (.seq a b) Q e ds h:=by
 refine⟨XW.Xc (H.ok.mono λx e ds h hq=> ?_)⟩;cases x<;>first|exact hq.ok.ok|exact hq.ok
theorem tY{ops:List aV}{keep:List Nat}(H:WO T base rnd (KR keep Q) ops e ds h):WE T base rnd (.region ops keep) Q e ds h:=by
 obtain⟨x,e',ds',h',⟨m,h1⟩,⟨h2⟩⟩:=H.ok;cases x with
 |normal=>exact⟨_,_,_,_,⟨m+1,λn hn=>by
  obtain⟨k,rfl⟩:∃k,n=k+1:=⟨n-1,by omega⟩;simp only[cB,h1 k (by omega)]⟩,h2⟩
 |_=>exact⟨_,_,_,_,⟨m+1,fun n hn=>by
   obtain⟨k,rfl⟩:∃k,n=k+1:=⟨n-1,by omega⟩;simp only[cB,h1 k (by omega)]⟩,h2⟩
theorem kG{i:Nat}{b:aR}(H:WE T base rnd b (KB i Q) e ds h):WE T base rnd (.block i b) Q e ds h:=by
 obtain⟨x,e',ds',h',⟨m,h1⟩,⟨h2⟩⟩:=H.ok;cases x with
 |exit j=>
  by_cases hi:j=i
  ·exact⟨_,_,_,_,⟨m+1,λn hn=>by
    obtain⟨k,rfl⟩:∃k,n=k+1:=⟨n-1,by omega⟩;have hb:Nat.beq j i=true:=by rw[beq_eq];simpa using hi
    simp only[cB,h1 k (by omega),hb,cond_true]⟩,h2.1 hi⟩
  ·exact⟨_,_,_,_,⟨m+1,λn hn=>by
    obtain⟨k,rfl⟩:∃k,n=k+1:=⟨n-1,by omega⟩;have hb:Nat.beq j i=false:=by rw[beq_eq];simpa using hi
    simp only[cB,h1 k (by omega),hb,cond_false]⟩,h2.2 hi⟩
 |_=>exact⟨_,_,_,_,⟨m+1,fun n hn=>by
   obtain⟨k,rfl⟩:∃k,n=k+1:=⟨n-1,by omega⟩;simp only[cB,h1 k (by omega)]⟩,h2⟩
theorem GL{c:Operand}{a b:aR}{t:Bool}(hc:ev h e c=some (.bool t))(h1:t=true->WE T base rnd a Q e ds h)(h2:t=false->WE T base rnd b Q e ds h):WE T base rnd (.cond c a b) Q e ds h:=by
 cases t with
 |true=>
  obtain⟨x,e',ds',h',⟨m,q1⟩,q2⟩:=(h1 rfl).ok;exact⟨_,_,_,_,⟨m+1,λn hn=>by
   obtain⟨k,rfl⟩:∃k,n=k+1:=⟨n-1,by omega⟩;simp only[cB,hc];exact q1 k (by omega)⟩,q2⟩
 |false=>
  obtain⟨x,e',ds',h',⟨m,q1⟩,q2⟩:=(h2 rfl).ok;exact⟨_,_,_,_,⟨m+1,λn hn=>by
   obtain⟨k,rfl⟩:∃k,n=k+1:=⟨n-1,by omega⟩;simp only[cB,hc];exact q1 k (by omega)⟩,q2⟩
theorem Qb{c:Operand}{a b:aR}(hc:ev h e c=some (.bool true))(h1:WE T base rnd a Q e ds h):WE T base rnd (.cond c a b) Q e ds h:=GL hc (λ_=>h1) (λh=>by cases h)
theorem Nl{c:Operand}{a b:aR}(hc:ev h e c=some (.bool false))(h1:WE T base rnd b Q e ds h):WE T base rnd (.cond c a b) Q e ds h:=GL hc (λh=>by cases h) (λ_=>h1)
theorem P7{ops:List aV}{is bf keep:List Nat}(H:WD T base ops bf (λe' h'=>KR keep Q .normal e' ds h') is [] e h):WE T base rnd (.draw ops is bf keep) Q e ds h:=by
 obtain⟨e',h',⟨m,h1⟩,⟨h2⟩⟩:=H.ok;exact⟨_,_,_,_,⟨m+1,λn hn=>by
  obtain⟨k,rfl⟩:∃k,n=k+1:=⟨n-1,by omega⟩;simp only[cB,h1 k (by omega)]⟩,h2⟩
theorem cM{b:aR}(I:Nat->Env->Dfs->Heap->Prop){k:Nat}(hI:I k e ds h)
 (hr:∀k e ds h,I k e ds h->WE T base rnd b (KS (λe' ds' h'=>∃k',k'<k/\I k' e' ds' h') Q) e ds h):WE T base rnd (.loop b) Q e ds h:=
 ⟨XW.loop I (λk e ds h hI=>((hr k e ds h hI).ok.mono λx e ds h hq=>by cases x<;>exact hq.ok)) hI⟩
theorem WE.mono{c:aR}{Q':XQ}(H:WE T base rnd c Q' e ds h)(hq:∀x e ds h,Q' x e ds h->Q x e ds h):WE T base rnd c Q e ds h:=⟨H.ok.mono hq⟩
theorem UM{keep:List Nat}{e2:Env}(he:bO e keep=e2)(H:Q .normal e2 ds h):KR keep Q .normal e ds h:=by subst he;exact⟨H⟩
theorem Ku{K:Env->Dfs->Heap->Prop}(H:K e ds h):KS K Q .normal e ds h:=⟨H⟩
theorem UN{K:Env->Dfs->Heap->Prop}(H:Q .ret e ds h):KS K Q .ret e ds h:=⟨H⟩
theorem WU{K:Env->Dfs->Heap->Prop}{i:Nat}(H:Q (.exit i) e ds h):KS K Q (.exit i) e ds h:=⟨H⟩
theorem UJ{i:Nat}(H:Q .normal e ds h):KB i Q .normal e ds h:=⟨H⟩
theorem WT{i:Nat}(H:Q .ret e ds h):KB i Q .ret e ds h:=⟨H⟩
theorem WS{i:Nat}(H:Q .normal e ds h):KB i Q (.exit i) e ds h:=⟨⟨λ_=>H,λh=>(h rfl).elim⟩⟩
theorem UK{i j:Nat}(hn:Nat.beq j i=false)(H:Q (.exit j) e ds h):KB i Q (.exit j) e ds h:=by
 rw[beq_eq]at hn;simp only[decide_eq_false_iff_not]at hn;exact⟨⟨λh=>(hn h).elim,λ_=>H⟩⟩
theorem bL(H:Q .normal e ds h):WO T base rnd Q [] e ds h:=⟨ud (T:=T) (base:=base) (rnd:=rnd) (ops:=[]) H⟩
theorem aD{dst:Option Nat}{op:AOp}{os:List aV}{v:Value}{h':Heap}(ho:aop h base e op=some (.val v h'))(H:WO T base rnd Q os (cC e dst v) ds h'):WO T base rnd Q (⟨dst,op,none⟩::os) e ds h:=by
 obtain⟨x,e',ds',h',⟨m,h1⟩,h2⟩:=H.ok;exact⟨x,e',ds',h',⟨m+1,λn hn=>by
  obtain⟨k,rfl⟩:∃k,n=k+1:=⟨n-1,by omega⟩;simp only[gw,bN,ho];exact h1 k (by omega)⟩,h2⟩
theorem kZ{dst:Option Nat}{op:AOp}{os:List aV}{fn:Fn}{args:List Value}{h':Heap}(ho:aop h base e op=some (.call fn args h'))(H:FW T fn args {h' with log:=[]} (KO (WO T base rnd Q os) Q base dst e ds h'.log)):WO T base rnd Q (⟨dst,op,none⟩::os) e ds h:=by
 obtain⟨r,h4,⟨m1,hf⟩,⟨H⟩⟩:=H;cases r with
 |ret v=>
  obtain⟨x,e',ds',h',⟨m,h1⟩,h2⟩:=WO.ok H;exact⟨x,e',ds',h',⟨m+m1+1,λn hn=>by
   obtain⟨k,rfl⟩:∃k,n=k+1:=⟨n-1,by omega⟩;simp only[gw,bN,ho,hf k (by omega)];exact h1 k (by omega)⟩,h2⟩
 |panic v=>
  exact⟨_,_,_,_,⟨m1+1,λn hn=>by
   obtain⟨k,rfl⟩:∃k,n=k+1:=⟨n-1,by omega⟩;simp only[gw,bN,ho,hf k (by omega)]⟩,H⟩
theorem Vy{dst:Option Nat}{op:AOp}{os:List aV}{t:Nat}{b:Bool}(hg:geT e t=some (.bool b))(H:WO T base rnd Q (⟨dst,op,none⟩::os) e ds h):WO T base rnd Q (⟨dst,op,some (t,b)⟩::os) e ds h:=by
 obtain⟨x,e',ds',h',⟨m,h1⟩,h2⟩:=H.ok;exact⟨x,e',ds',h',⟨m+1,λn hn=>by
  obtain⟨k,rfl⟩:∃k,n=k+1:=⟨n-1,by omega⟩;have:=h1 (k+1) (by omega);have hb:(b==b)=true:=by simp
  simp only[gw,bN]at this;simp only[gw,bN,hg,hb];exact this⟩,h2⟩
theorem Tg{dst:Option Nat}{op:AOp}{os:List aV}{t:Nat}{b x:Bool}(hg:geT e t=some (.bool x))(hx:x= !b)(H:WO T base rnd Q os (cC e dst (.tuple #[])) ds h):WO T base rnd Q (⟨dst,op,some (t,b)⟩::os) e ds h:=by
 obtain⟨x',e',ds',h',⟨m,h1⟩,h2⟩:=H.ok;exact⟨x',e',ds',h',⟨m+1,λn hn=>by
  obtain⟨k,rfl⟩:∃k,n=k+1:=⟨n-1,by omega⟩;have hb:(x==b)=false:=by subst hx;cases b<;>rfl
  simp only[gw,bN,hg,hb];exact h1 k (by omega)⟩,h2⟩
theorem BP{ops:List aV}{bf:List Nat}{rs:List Rec}{Q:Env->Heap->Prop}(H:Q e h):WD T base ops bf Q [] rs e h:=⟨Fx (T:=T) (base:=base) (ops:=ops) (bf:=bf) (is:=[]) (rs:=rs) H⟩
theorem sX{ops:List aV}{bf:List Nat}{rs rs':List Rec}{Q:Env->Heap->Prop}{i:Nat}{is:List Nat}{e1:Env}{h1:Heap}(hs:∃m,∀n,m<=n->∀r,eR T n base ops is bf rs' e1 h1=some r->eR T (n+1) base ops (i::is) bf rs e h=some r)
 (H:WD T base ops bf Q is rs' e1 h1):WD T base ops bf Q (i::is) rs e h:=by
 obtain⟨e',h',⟨m,q1⟩,q2⟩:=H.ok;obtain⟨m0,hs⟩:=hs;exact⟨e',h',⟨m+m0+1,λn hn=>by
  obtain⟨k,rfl⟩:∃k,n=k+1:=⟨n-1,by omega⟩;exact hs k (by omega) _ (q1 k (by omega))⟩,q2⟩
theorem Tf{ops:List aV}{bf:List Nat}{rs:List Rec}{Q:Env->Heap->Prop}{i mask:Nat}{is:List Nat}{dst:Option Nat}{op:AOp}{g:Option (Nat×Bool)}{er:Env}(ho:bH ops i=some ⟨dst,op,g⟩)(hm:bH bf i=some mask)(he:bO e (cS ⟨dst,op,g⟩)=er)(hw:bN er g=some false)
 (H:WD T base ops bf Q is (⟨i,⟨dst,op,g⟩,er, .tuple #[], .skip⟩::rs) (cC e dst (.tuple #[])) h):WD T base ops bf Q (i::is) rs e h:=by
 subst he;exact sX ⟨0,λn _ r hr=>by simp only[eR,ho,hm,hw];exact hr⟩ H
theorem bW{ops:List aV}{bf:List Nat}{rs:List Rec}{Q:Env->Heap->Prop}{i mask:Nat}{is:List Nat}{dst:Option Nat}{op:AOp}{g:Option (Nat×Bool)}{er:Env}{v:Value}(ho:bH ops i=some ⟨dst,op,g⟩)(hm:bH bf i=some mask)(he:bO e (cS ⟨dst,op,g⟩)=er)(hw:bN er g=some true)
 (hq:jR op=true)(hn:dG op=false)(hop:aop h base er op=some (.val v h))(H:WD T base ops bf Q is (⟨i,⟨dst,op,g⟩,er,v, .quiet⟩::rs) (cC e dst v) h):WD T base ops bf Q (i::is) rs e h:=by
 subst he;have hb:Nat.beq h.next h.next=true:=by rw[beq_eq];simp
 exact sX ⟨0,λn _ r hr=>by simp only[eR,ho,hm,hw,hq,hop,hn,hb,cond_true,cond_false];exact hr⟩ H
theorem BO{ops:List aV}{bf:List Nat}{rs:List Rec}{Q:Env->Heap->Prop}{i mask:Nat}{is:List Nat}{dst:Option Nat}{op:AOp}{g:Option (Nat×Bool)}{er:Env}{v:Value}{h':Heap}(ho:bH ops i=some ⟨dst,op,g⟩)(hm:bH bf i=some mask)(he:bO e (cS ⟨dst,op,g⟩)=er)(hw:bN er g=some true)
 (hq:jR op=true)(hn:dG op=true)(hop:aop h base er op=some (.val v h'))(hrs:oI h' base rs=true)(H:WD T base ops bf Q is (⟨i,⟨dst,op,g⟩,er,v, .made h.next⟩::rs) (cC e dst v) h'):WD T base ops bf Q (i::is) rs e h:=by
 subst he;exact sX ⟨0,λn _ r hr=>by simp only[eR,ho,hm,hw,hq,hop,hn,hrs,cond_true];exact hr⟩ H
theorem Te{ops:List aV}{bf:List Nat}{rs rs':List Rec}{Q:Env->Heap->Prop}{i mask:Nat}{is:List Nat}{dst:Option Nat}{op:AOp}{g:Option (Nat×Bool)}{er:Env}{v:Value}{h2:Heap}(ho:bH ops i=some ⟨dst,op,g⟩)(hm:bH bf i=some mask)(he:bO e (cS ⟨dst,op,g⟩)=er)(hw:bN er g=some true)
 (hq:jR op=false)(hop:aop {h with log:=[]} h.next er op=some (.val v h2))(hrs:bC {h2 with log:=aC base h.log h2.log} base h2.log mask rs=some rs')
 (H:WD T base ops bf Q is rs' (cC e dst v) {h2 with log:=aC base h.log h2.log}):WD T base ops bf Q (i::is) rs e h:=by
 subst he;exact sX ⟨0,λn _ r hr=>by simp only[eR,ho,hm,hw,hq,hop,hrs,cond_false];exact hr⟩ H
theorem P6{ops:List aV}{bf:List Nat}{rs:List Rec}{Q:Env->Heap->Prop}{i mask:Nat}{is:List Nat}{dst:Option Nat}{op:AOp}{g:Option (Nat×Bool)}{er:Env}{fn:Fn}{args:List Value}{h3:Heap}(ho:bH ops i=some ⟨dst,op,g⟩)(hm:bH bf i=some mask)(he:bO e (cS ⟨dst,op,g⟩)=er)(hw:bN er g=some true)
 (hq:jR op=false)(hop:aop {h with log:=[]} h.next er op=some (.call fn args h3))(H:FW T fn args {h with log:=[]} (KD (WD T base ops bf Q is) base mask rs dst e h.log)):WD T base ops bf Q (i::is) rs e h:=by
 subst he;obtain⟨r,h4,⟨m1,hf⟩,⟨H⟩⟩:=H;unfold kD at H;split at H
 ·split at H
  ·rename_i rs' hrs;exact sX ⟨m1,λn hn r hr=>by simp only[eR,ho,hm,hw,hq,hop,hf n hn,hrs,cond_false];exact hr⟩ H
  ·exact H.elim
 ·exact H.elim
end Go.A
end
section
namespace Go.A
variable {T:Nat->Option an}
theorem tB{base N:Nat}{rnd:Option Nat}{c:aR}{e:Env}{ds:Dfs}{h:Heap}{r:bB×Env×Dfs×Heap}(H:∀n,(Az T (n+N)).exec base rnd c e ds h=some r):Ev T base rnd c e ds h r:=
 ⟨N,λn hn=>by
  have:=H (n-N);rw[F2,show n-N+N=n by omega]at this;exact this⟩
theorem wh{base:Nat}{rnd:Option Nat}{c:aR}{e e1:Env}{ds ds1:Dfs}{h h1:Heap}{r:bB×Env×Dfs×Heap}(hc:c= .seq (cL c) (cR c))(H1:Ev T base rnd (cL c) e ds h (.normal,e1,ds1,h1))(H2:Ev T base rnd (cR c) e1 ds1 h1 r):Ev T base rnd c e ds h r:=by
 obtain⟨m1,q1⟩:=H1;obtain⟨m2,q2⟩:=H2;refine⟨m1+m2+1,λn hn=> ?_⟩;obtain⟨k,rfl⟩:∃k,n=k+1:=⟨n-1,by omega⟩;rw[hc];simp only[cB,q1 k (by omega)];exact q2 k (by omega)
theorem CW.WY{f:Nat}{args:List Value}{h:Heap}{Q:Res->Heap->Prop}{c:aR}{rs:List (Nat×Option (Option Nat))}{x:bB}{e:Env}{ds:Dfs}{h1:Heap}(hf:T f=some (.code c rs))(H:Ev T h.next none c (dZ 0 args) [] h (x,e,ds,h1))(hq:vZ rs h Q x e ds h1):CW T f args h Q:=
 CW.code hf ⟨x,e,ds,h1,H,hq⟩
theorem R.none{P:Program}{w:World}{n:Nat}(hn:P.globals.size<=n):R P (λ_=>none) ⟨[],n,[]⟩ w:=
 {big:=hn
  kP:=λg o _ h=>by cases h
  obj:=λb o h=>by cases h
  lt:=λb o h=>by cases h
  dom:=λb k h=>by cases h
  j7:=λb b' o o' k k' _ h=>by cases h}
end Go.A
end
section
namespace Go.A
variable {T:Nat->Option an} {base:Nat} {rnd:Option Nat} {Q:XQ} {e:Env} {ds:Dfs} {h:Heap}
theorem Heap.gN(h:Heap)(o:bG):(h.push o).get h.next=some o:=by rw[Heap.dD,if_pos rfl]
theorem Heap.ew{h:Heap}{o:bG}{x:Nat}(hx:x<h.next):(h.push o).get x=h.get x:=by rw[Heap.dD,if_neg (by omega)]
theorem Heap.aI{h:Heap}{base b:Nat}{o o':bG}(hb:h.get b=some o'):(h.wr base b o).get b=some o:=by rw[Heap.lQ,if_pos rfl,hb];rfl
theorem Heap.CM(h:Heap)(base b:Nat)(o:bG):(h.wr base b o).get b=(h.get b).map λ_=>o:=by rw[Heap.lQ,if_pos rfl]
theorem Heap.dV{h:Heap}{base b:Nat}{o:bG}{x:Nat}(hx:x≠b):(h.wr base b o).get x=h.get x:=by rw[Heap.lQ,if_neg hx]
theorem Heap.sj(h:Heap)(o:bG):(h.push o).log=h.log:=rfl
theorem Heap.aB{h:Heap}{base b:Nat}{o:bG}(hb:base<=b):(h.wr base b o).log=h.log:=by
 simp only[Heap.wr,blt_eq];rw[decide_eq_false (by omega)];rfl
theorem eG{x:Operand}{v:Value}(hx:ev h e x=some v):aop h base e (.mov x)=some (.val v h):=by simp only[aop,hx,cH]
theorem uR{c a b:Operand}{v:Value}(hc:ev h e c=some (.bool true))(hx:ev h e a=some v):aop h base e (.pick c a b)=some (.val v h):=by simp only[aop,hc,hx,cH]
theorem Am{c a b:Operand}{v:Value}(hc:ev h e c=some (.bool false))(hx:ev h e b=some v):aop h base e (.pick c a b)=some (.val v h):=by simp only[aop,hc,hx,cH]
theorem uj{z:List Value}:aop h base e (.new z)=some (.val (.pointer (some ⟨h.next,0,none⟩)) (h.push (.cells z true 1))):=rfl
theorem TF{x:Operand}{v:Value}{vs:List Value}(hx:ev h e x=some v)(hc:cellsOf v=vs):aop h base e (.box x)=some (.val (.pointer (some ⟨h.next,0,none⟩)) (h.push (.cells vs true 1))):=by simp only[aop,hx,cH,hc]
theorem p8{z cs:List Value}{ps:List (Nat×Nat×Operand)}(hf:iW h e z ps=some cs):aop h base e (.build z ps)=some (.val (.agg cs.toArray) h):=by simp only[aop,hf]
theorem mT{z cs:List Value}{n m:Nat}{ps:List (Nat×Nat×Operand)}(hf:iW h e (eS n z) ps=some cs)(hm:cm z=m):aop h base e (.dz z n ps)=some (.val (.slice (some ⟨h.next,0,none⟩) n n) (h.push (.cells cs true m))):=by simp only[aop,hf,hm]
theorem bY{x:Operand}{b o sz:Nat}{vs:List Value}{own:Bool}{v:Value}(hx:ev h e x=some (.pointer (some ⟨b,o,none⟩)))(hb:h.get b=some (.cells vs own sz))(hv:bH vs o=some v):aop h base e (.load none x)=some (.val v h):=by
 simp only[aop,hx,cH,pn,hb,hv]
theorem dh{x:Operand}{n b o sz:Nat}{vs l:List Value}{own:Bool}(hx:ev h e x=some (.pointer (some ⟨b,o,none⟩)))(hb:h.get b=some (.cells vs own sz))(hv:cw n (bU o vs)=l)(hl:Nat.beq (cm l) n=true):
 aop h base e (.load (some n) x)=some (.val (.agg l.toArray) h):=by
 simp only[aop,hx,cH,pn,hb,hv,hl,cond_true]
theorem jy{x y:Operand}{n b o sz:Nat}{vs ws:List Value}{v:Value}(hx:ev h e x=some (.pointer (some ⟨b,o,none⟩)))(hy:ev h e y=some v)(hb:h.get b=some (.cells vs true sz))
 (hc:(Nat.beq (cm (cellsOf v)) n&&Nat.ble (o+n) (cm vs)&&dY (cellsOf v))=true)(hw:cU vs o (cellsOf v)=ws):aop h base e (.store n x y)=some (.val (.tuple #[]) (h.wr base b (.cells ws true sz))):=by
 simp only[aop,hx,hy,cH,rC,hb,hc,hw,cond_true]
theorem vI{op:BinOp}{x y:Operand}{a b v:Value}(hx:ev h e x=some a)(hy:ev h e y=some b)(hv:aq op a b=some v):aop h base e (.bin (.num op) x y)=some (.val v h):=by simp only[aop,hx,hy,cH,hv]
theorem TE{neq:Bool}{x y:Operand}{a b:Bool}(hx:ev h e x=some (.bool a))(hy:ev h e y=some (.bool b)):aop h base e (.bin (.beq neq) x y)=some (.val (.bool (bif neq then !(a==b)else a==b)) h):=by simp only[aop,hx,hy]
theorem Cc{k:NK}{neq b:Bool}{x y:Operand}{v u:Value}(hx:ev h e x=some v)(hy:ev h e y=some u)(hn:pG k v u=some b):aop h base e (.bin (.nil k neq) x y)=some (.val (.bool (bif neq then !b else b)) h):=by simp only[aop,hx,hy,cH,hn]
theorem TD{neq b:Bool}{ls:List dU}{x y:Operand}{xs ys:Array Value}(hx:ev h e x=some (.agg xs))(hy:ev h e y=some (.agg ys))(hn:bJ ls xs.toList ys.toList=some b):aop h base e (.bin (.agg neq ls) x y)=some (.val (.bool (bif neq then !b else b)) h):=by
 simp only[aop,hx,hy,cH,hn]
theorem QE{x:Operand}{b:Bool}(hx:ev h e x=some (.bool b)):aop h base e (.un .not x)=some (.val (.bool !b) h):=by simp only[aop,hx,cH,yg]
theorem cT{off b o:Nat}{x:Operand}(hx:ev h e x=some (.pointer (some ⟨b,o,none⟩))):aop h base e (.dN off x)=some (.val (.pointer (some ⟨b,o+off,none⟩)) h):=by simp only[aop,hx]
theorem iT{size b o len cap i:Nat}{k:IntKind}{x y:Operand}(hx:ev h e x=some (.slice (some ⟨b,o,none⟩) len cap))(hy:ev h e y=some (.int k (i:Nat)))(hi:i<len):aop h base e (.aO size x y)=some (.val (.pointer (some ⟨b,o+i*size,none⟩)) h):=by
 have:(.int k (i:Nat):Value)= .int k (Int.ofNat i):=rfl;rw[this]at hy;simp only[aop,hx,hy,blt_eq,decide_eq_true hi,cond_true]
theorem yZ{x:Operand}{i:Nat}{vs:Array Value}{v:Value}(hx:ev h e x=some (.tuple vs))(hv:bH vs.toList i=some v):aop h base e (.extract x i)=some (.val v h):=by simp only[aop,hx,cH,hv]
theorem Ai{x:Operand}{a:Option Addr}{n c:Nat}(hx:ev h e x=some (.slice a n c)):aop h base e (.len 1 x)=some (.val (.int .i64 n) h):=by simp only[aop,hx]
theorem I9{fn:Fn}{fs cs:List Operand}{as bs:List Value}(h1:evs h e fs=some as)(h2:evs h e cs=some bs):aop h base e (.eM fn fs cs)=some (.val (.func fn as.toArray bs.toArray) h):=by simp only[aop,h1,h2]
theorem gp{x:Operand}{b o:Nat}(hx:ev h e x=some (.pointer (some ⟨b,o,none⟩))):aop h base e (.bX x)=some (.val (.pointer (some ⟨b,o,none⟩)) h):=by simp only[aop,hx,cH]
theorem vE{f:Operand}{args:List Operand}{fv:Value}{as:List Value}{g:Nat}{first cap:Array Value}{all:List Value}(hf:ev h e f=some fv)(ha:evs h e args=some as)(hv:fv= .func (.func g) first cap)(hl:eD first.toList (eD as cap.toList)=all):
 aop h base e (.call f args)=some (.call (.func g) all h):=by subst hv;simp only[aop,hf,ha,oU,hl]
theorem ct{n:Int}(h1: -9223372036854775808<=n)(h2:n<9223372036854775808):fN .i64 n=n:=by
 rw[s8,IntKind.wrap_i64];omega
theorem QT{k:IntKind}{a b:Int}:aq .lss (.int k a) (.int k b)=some (.bool (decide (a<b))):=by simp[aq,arith,mH]
theorem QS{k:IntKind}{a b:Int}:aq .leq (.int k a) (.int k b)=some (.bool (decide (a<=b))):=by simp[aq,arith,mH]
theorem Gi{k:IntKind}{a b:Int}:aq .gtr (.int k a) (.int k b)=some (.bool (decide (b<a))):=by simp[aq,arith,mH]
theorem sq{k:IntKind}{a b:Int}:aq .geq (.int k a) (.int k b)=some (.bool (decide (b<=a))):=by simp[aq,arith,mH]
theorem KQ{k:IntKind}{a b:Int}:aq .eql (.int k a) (.int k b)=some (.bool (a==b)):=by simp[aq,arith,mH]
theorem KU{k:IntKind}{a b:Int}:aq .neq (.int k a) (.int k b)=some (.bool (a !=b)):=by simp[aq,arith,mH]
theorem kK{k:IntKind}{a b c:Int}(hc:fN k (a+b)=c):aq .add (.int k a) (.int k b)=some (.int k c):=by simp[aq,arith,hc]
theorem mA{k:IntKind}{a b c:Int}(hc:fN k (a-b)=c):aq .sub (.int k a) (.int k b)=some (.int k c):=by simp[aq,arith,hc]
theorem UT{n:Nat}(hn:n<9223372036854775807):aq .add (.int .i64 n) (.int .i64 1)=some (.int .i64 (n+1:Nat)):=kK (by rw[ct]<;>omega)
theorem Rf{l m:List (Nat×bG)}(hk:l.map (·.1)=m.map (·.1))(hn:(m.map (·.1)).Nodup)(hg:∀b,b∈m.map (·.1)->fm l b=fm m b):l=m:=by
 induction m generalizing l with
 |nil=>simpa using hk
 |cons p m ih=>
  obtain⟨k,o⟩:=p;cases l with
  |nil=>simp at hk
  |cons q l=>
   obtain⟨k',o'⟩:=q;simp only[List.map_cons,List.cons.injEq]at hk;obtain⟨h1,h2⟩:=hk;subst h1;simp only[List.map_cons,List.nodup_cons]at hn;have h3:=hg k' (by simp);simp only[fm,cond_eq_ite,beq_eq,decide_true,if_true]at h3;cases h3;congr 1;refine ih h2 hn.2 λb hb=> ?_;have h4:=hg b (by simp[hb]);have hne:k'≠b:=λe=>hn.1 (e▸hb);simpa only[fm,cond_eq_ite,beq_eq,decide_eq_true_eq,if_neg hne]using h4
structure WF (h:Heap):Prop where
 nodup:(h.cE.map (·.1)).Nodup
 lt:∀b,b∈h.cE.map (·.1)->b<h.next
theorem qP{a n b:Nat}:b∈dy a n↔a<=b/\b<a+n:=by
 induction n with
 |zero=>simp[dy]
 |succ n ih=>simp[dy,ih];omega
theorem Aw(a n:Nat):(dy a n).Nodup:=by
 induction n with
 |zero=>simp[dy]
 |succ n ih=>simp only[dy,List.nodup_cons,qP];exact⟨by omega,ih⟩
theorem WF.as{base:Nat}{h h':Heap}(hw:WF h)(hA:AS base h h'):WF h' where
 nodup:=by
  rw[hA.keys,List.nodup_append];refine⟨Aw _ _,hw.nodup,λa ha b hb=> ?_⟩;rw[qP]at ha;have:=hw.lt b hb;omega
 lt:=λb hb=>by
  rw[hA.keys,List.mem_append]at hb;have:=hA.next
  rcases hb with hb|hb
  ·rw[qP]at hb;omega
  ·have:=hw.lt b hb;omega
theorem WF.log{h:Heap}(hw:WF h)(l:List Nat):WF {h with log:=l}:=⟨hw.nodup,hw.lt⟩
theorem WF.push{h:Heap}(hw:WF h)(o:bG):WF (h.push o):=hw.as (AS.push 0 h o)
structure Ext (h h':Heap):Prop where
 next:h.next<=h'.next
 log:h'.log=h.log
 old:∀b,b<h.next->h'.get b=h.get b
 wf:WF h->WF h'
theorem Ext.refl(h:Heap):Ext h h:=⟨Nat.le_refl _,rfl,λ_ _=>rfl,id⟩
theorem Ext.trans{a b c:Heap}(h:Ext a b)(g:Ext b c):Ext a c:=⟨Nat.le_trans h.next g.next,g.log.trans h.log,λx hx=>(g.old x (Nat.lt_of_lt_of_le hx h.next)).trans (h.old x hx),λw=>g.wf (h.wf w)⟩
theorem Ext.push{a b:Heap}(h:Ext a b)(o:bG):Ext a (b.push o):=⟨Nat.le_succ_of_le h.next,h.log,λx hx=>(Heap.ew (Nat.lt_of_lt_of_le hx h.next)).trans (h.old x hx),λw=>(h.wf w).push o⟩
theorem Ext.wr{a b:Heap}(h:Ext a b){base x:Nat}{o:bG}(hx:a.next<=x)(hb:base<=x):Ext a (b.wr base x o):=⟨h.next,(Heap.aB hb).trans h.log,λy hy=>(Heap.dV (by omega)).trans (h.old y hy),λw=>(h.wf w).as (AS.wr base b x o)⟩
theorem Ho{l:List (Nat×bG)}{b:Nat}(hb:b ∉ l.map (·.1)):fm l b=none:=by
 induction l with
 |nil=>rfl
 |cons p l ih=>
  obtain⟨k,o⟩:=p;simp only[List.map_cons,List.mem_cons,not_or]at hb;simp only[fm,cond_eq_ite,beq_eq,decide_eq_true_eq];rw[if_neg (Ne.symm hb.1)];exact ih hb.2
theorem F7{h h1:Heap}{v:Value}(hw:WF h)(hA:AS h.next h h1)(hl:h1.log=h.log)(h0:h.log=[])(hv:cG v=true):gcA h h1 v=h:=by
 have hA':=hA.keys;have e:bU (h1.next-h.next) h1.cE=h.cE:=by
  rw[aT];have hlen:(dy h.next (h1.next-h.next)).length=h1.next-h.next:=by
   generalize h1.next-h.next=n
   induction n with
   |zero=>rfl
   |succ n ih=>simp[dy,ih]
  have hk:(h1.cE.drop (h1.next-h.next)).map (·.1)=h.cE.map (·.1):=by
   rw[List.map_drop,hA',List.drop_append_of_le_length (by omega),List.drop_of_length_le (by omega),List.nil_append]
  refine Rf hk hw.nodup λb hb=> ?_;have hbl:=hw.lt b hb;have hs:=hA.same b hbl hbl (by rw[hl,h0];rfl);have hsplit:h1.cE=h1.cE.take (h1.next-h.next)++h1.cE.drop (h1.next-h.next):=(List.take_append_drop _ _).symm;have hkt:(h1.cE.take (h1.next-h.next)).map (·.1)=dy h.next (h1.next-h.next):=by
   rw[List.map_take,hA',List.take_append_of_le_length (by omega),List.take_of_length_le (by omega)]
  have:=lu _ h.next _ (h1.cE.drop (h1.next-h.next)) hkt b hbl
  rw[←hsplit]at this;exact this.symm.trans hs
 simp only[gcA,hv,hl,h0,fD,Bool.and_true,cond_true,mX,e];cases h;simp at h0⊢;exact h0
structure Rdy (h:Heap):Prop where
 wf:WF h
 log:h.log=[]
def Pu(T:Nat->Option an)(f:Nat)(args:List Value)(h:Heap)(v:Value):Prop:=CW T f args h λr h'=>r= .ret v/\h'=h
structure N8 (rs:List (Nat×Option (Option Nat))) (v0:Value) (x:bB) (e:Env) (ds:Dfs) (h1:Heap):Prop where
 ok:(x= .normal∨x= .ret)/\ds=[]/\h1.log=[]/\∃vs,bR h1 e rs=some vs/\eE vs=v0
theorem aA{rs:List (Nat×Option (Option Nat))}{v0:Value}{vs:List Value}(hl:h.log=[])(hr:bR h e rs=some vs)(hv:eE vs=v0):N8 rs v0 .ret e [] h:=⟨⟨.inr rfl,rfl,hl,vs,hr,hv⟩⟩
theorem Pu.of(hp:aF T){f:Nat}{args:List Value}{c:aR}{rs:List (Nat×Option (Option Nat))}{v0:Value}(hf:T f=some (.code c rs))(hr:Rdy h)(hv:cG v0=true)(H:WE T h.next none c (N8 rs v0) (dZ 0 args) [] h):Pu T f args h v0:=by
 obtain⟨x,e,ds,h1,⟨m,hm⟩,⟨hx,rfl,hl,vs,hvs,rfl⟩⟩:=H.ok;have hA:=(eX.all hp m).exec _ _ _ _ _ _ _ _ _ _ (hm m (Nat.le_refl _)) (Nat.le_refl _);refine CW.code hf ⟨x,e,[],h1,⟨m,hm⟩,?_⟩;unfold vZ;have hg:=F7 hr.wf hA (hl.trans hr.log.symm) hr.log hv;rcases hx with rfl|rfl
 ·simp only[hvs,hg];exact⟨trivial,trivial⟩
 ·simp only[hvs,hg];exact⟨trivial,trivial⟩
theorem FW.pu{f:Nat}{args:List Value}{v:Value}{K:Env->Dfs->Heap->Prop}{dst:Option Nat}(H:Pu T f args {h with log:=[]} v)(hK:K (cC e dst v) ds h):FW T (.func f) args {h with log:=[]} (KO K Q base dst e ds h.log):=by
 refine .func (CW.mono H ?_);rintro r h' ⟨rfl,rfl⟩;exact⟨hK⟩
theorem Rdy.of{h:Heap}(hw:WF h):Rdy {h with log:=[]}:=⟨hw.log [],rfl⟩
theorem FW.puD{f:Nat}{args:List Value}{v:Value}{K:List Rec->Env->Heap->Prop}{mask:Nat}{rs rs':List Rec}{dst:Option Nat}(H:Pu T f args {h with log:=[]} v)(hrs:bC h base [] mask rs=some rs')(hK:K rs' (cC e dst v) h):
 FW T (.func f) args {h with log:=[]} (KD K base mask rs dst e h.log):=by
 refine .func (CW.mono H ?_);rintro r h' ⟨rfl,rfl⟩;refine⟨?_⟩;show(match bC {h with log:=aC base h.log []} base [] mask rs with
  |some rs'=>K rs' (cC e dst v) {h with log:=aC base h.log []}
  |none=>False)
 have:({h with log:=aC base h.log []}:Heap)=h:=rfl;rw[this,hrs];exact hK
structure rJ (h:Heap) (b o n sz:Nat) (cs:List Value):Prop where
 lt:b<h.next
 obj:∃vs own s,h.get b=some (.cells vs own s)/\cw (n*sz) (bU o vs)=cs
 len:cs.length=n*sz
inductive aJ (h:Heap) (sz:Nat):Value->Nat->List Value->Prop
 |nil {c}:aJ h sz (.slice none 0 c) 0 []
 |mem {b o n cap cs}:rJ h b o n sz cs->n<=cap->aJ h sz (.slice (some ⟨b,o,none⟩) n cap) n cs
theorem rJ.ext{h h':Heap}{b o n sz:Nat}{cs:List Value}(s:rJ h b o n sz cs)(x:Ext h h'):rJ h' b o n sz cs:=by
 obtain⟨vs,own,t,h1,h2⟩:=s.obj;exact⟨Nat.lt_of_lt_of_le s.lt x.next,⟨vs,own,t,(x.old _ s.lt).trans h1,h2⟩,s.len⟩
theorem aJ.ext{h h':Heap}{sz n:Nat}{v:Value}{cs:List Value}(s:aJ h sz v n cs)(x:Ext h h'):aJ h' sz v n cs:=by
 cases s with
 |nil=>exact .nil
 |mem s hc=>exact .mem (s.ext x) hc
theorem aJ.form{h:Heap}{sz n:Nat}{v:Value}{cs:List Value}(s:aJ h sz v n cs):∃a c,v= .slice a n c:=by
 cases s<;>exact⟨_,_,rfl⟩
theorem aJ.log{h:Heap}{sz n:Nat}{v:Value}{cs:List Value}(s:aJ h sz v n cs)(l:List Nat):aJ {h with log:=l} sz v n cs:=by
 cases s with
 |nil=>exact .nil
 |mem s hc=>exact .mem ⟨s.lt,s.obj,s.len⟩ hc
theorem aJ.inv{h:Heap}{sz n:Nat}{v:Value}{cs:List Value}(s:aJ h sz v n cs):(∃c,v= .slice none 0 c/\n=0/\cs=[])∨∃b o cap,v= .slice (some ⟨b,o,none⟩) n cap/\rJ h b o n sz cs/\n<=cap:=by
 cases s with
 |nil=>exact .inl ⟨_,rfl,rfl,rfl⟩
 |mem s hc=>exact .inr ⟨_,_,_,rfl,s,hc⟩
theorem aJ.len{h:Heap}{sz n:Nat}{v:Value}{cs:List Value}(s:aJ h sz v n cs):cs.length=n*sz:=by
 cases s with
 |nil=>simp
 |mem s _=>exact s.len
theorem tJ{k:IntKind}{a b:Int}(h:b<=a):aq .geq (.int k a) (.int k b)=some (.bool true):=by rw[sq,decide_eq_true h]
theorem nY{k:IntKind}{a b:Int}(h:a<b):aq .geq (.int k a) (.int k b)=some (.bool false):=by rw[sq,decide_eq_false (by omega)]
theorem rf{k:IntKind}{a b:Int}(h:a<=b):aq .leq (.int k a) (.int k b)=some (.bool true):=by rw[QS,decide_eq_true h]
theorem qZ{k:IntKind}{a b:Int}(h:b<a):aq .leq (.int k a) (.int k b)=some (.bool false):=by rw[QS,decide_eq_false (by omega)]
theorem ei{k:IntKind}{a b:Int}(h:a<b):aq .lss (.int k a) (.int k b)=some (.bool true):=by rw[QT,decide_eq_true h]
theorem eH{k:IntKind}{a b:Int}(h:b<=a):aq .lss (.int k a) (.int k b)=some (.bool false):=by rw[QT,decide_eq_false (by omega)]
theorem jD{k:IntKind}{a b:Int}(h:b<a):aq .gtr (.int k a) (.int k b)=some (.bool true):=by rw[Gi,decide_eq_true h]
theorem ji{k:IntKind}{a b:Int}(h:a<=b):aq .gtr (.int k a) (.int k b)=some (.bool false):=by rw[Gi,decide_eq_false (by omega)]
theorem wK{k:IntKind}{a b:Int}(h:a=b):aq .eql (.int k a) (.int k b)=some (.bool true):=by rw[KQ];simp[h]
theorem pq{k:IntKind}{a b:Int}(h:a≠b):aq .eql (.int k a) (.int k b)=some (.bool false):=by rw[KQ];simp[h]
theorem jE{k:IntKind}{a b:Int}(h:a≠b):aq .neq (.int k a) (.int k b)=some (.bool true):=by rw[KU];simp[h]
theorem tK{k:IntKind}{a b:Int}(h:a=b):aq .neq (.int k a) (.int k b)=some (.bool false):=by rw[KU];simp[h]
def Al(T:Nat->Option an)(f:Nat)(args:List Value)(h:Heap)(Q:Value->Heap->Prop):Prop:=CW T f args h λr h'=>Ext h h'∧∃v,r= .ret v/\Q v h'
structure Uv (rs:List (Nat×Option (Option Nat))) (Q:Value->Heap->Prop) (x:bB) (e:Env) (ds:Dfs) (h1:Heap):Prop where
 ok:(x= .normal∨x= .ret)/\ds=[]/\h1.log=[]/\∃vs,bR h1 e rs=some vs/\Q (eE vs) h1
theorem cF{rs:List (Nat×Option (Option Nat))}{Q:Value->Heap->Prop}{vs:List Value}(hl:h.log=[])(hr:bR h e rs=some vs)(hq:Q (eE vs) h):Uv rs Q .ret e [] h:=⟨⟨.inr rfl,rfl,hl,vs,hr,hq⟩⟩
theorem Ext.nr{h h1:Heap}(hr:Rdy h)(hA:AS h.next h h1)(hl:h1.log=[]):Ext h h1:=
 ⟨hA.next,hl.trans hr.log.symm,λb hb=>hA.same b hb hb (by rw[hl];rfl),λw=>w.as hA⟩
theorem Al.of(hp:aF T){f:Nat}{args:List Value}{c:aR}{rs:List (Nat×Option (Option Nat))}{Q:Value->Heap->Prop}(hf:T f=some (.code c rs))(hr:Rdy h)(hQ:∀v h1,cG v=true->Q v h1->Q v h)(H:WE T h.next none c (Uv rs Q) (dZ 0 args) [] h):Al T f args h Q:=by
 obtain⟨x,e,ds,h1,⟨m,hm⟩,⟨hx,rfl,hl,vs,hvs,hq⟩⟩:=H.ok;have hA:=(eX.all hp m).exec _ _ _ _ _ _ _ _ _ _ (hm m (Nat.le_refl _)) (Nat.le_refl _);refine CW.code hf ⟨x,e,[],h1,⟨m,hm⟩,?_⟩;have key:Ext h (gcA h h1 (eE vs))/\Q (eE vs) (gcA h h1 (eE vs)):=by
  cases hv:cG (eE vs)with
  |true=>
   rw[F7 hr.wf hA (hl.trans hr.log.symm) hr.log hv];exact⟨.refl _,hQ _ _ hv hq⟩
  |false=>
   have:gcA h h1 (eE vs)=h1:=by simp[gcA,hv]
   rw[this];exact⟨.nr hr hA hl,hq⟩
 unfold vZ;rcases hx with rfl|rfl
 ·simp only[hvs];exact⟨key.1,_,rfl,key.2⟩
 ·simp only[hvs];exact⟨key.1,_,rfl,key.2⟩
theorem Ext.KI{h h':Heap}(x:Ext {h with log:=[]} h'):Ext h {h' with log:=aC base h.log h'.log}:=by
 have:h'.log=[]:=x.log;refine⟨x.next,by rw[this];rfl,x.old,λw=>(x.wf (w.log [])).log _⟩
theorem FW.al{f:Nat}{args:List Value}{Q':Value->Heap->Prop}{K:Env->Dfs->Heap->Prop}{dst:Option Nat}(H:Al T f args {h with log:=[]} Q')(hlog:∀v (h':Heap) l,Q' v h'→Q' v {h' with log:=l})
 (hK:∀v h',Ext h h'→Q' v h'→K (cC e dst v) ds h'):FW T (.func f) args {h with log:=[]} (KO K Q base dst e ds h.log):=by
 refine .func (CW.mono H ?_);rintro r h' ⟨hx,v,rfl,hq⟩;exact⟨hK v _ hx.KI (hlog v h' _ hq)⟩
theorem FW.alD{f:Nat}{args:List Value}{Q':Value->Heap->Prop}{K:List Rec->Env->Heap->Prop}{mask:Nat}{rs:List Rec}{dst:Option Nat}(H:Al T f args {h with log:=[]} Q')(hlog:∀v (h':Heap) l,Q' v h'→Q' v {h' with log:=l})
 (hK:∀v h',Ext h h'→Q' v h'→∃rs',bC h' base [] mask rs=some rs'∧K rs' (cC e dst v) h'):FW T (.func f) args {h with log:=[]} (KD K base mask rs dst e h.log):=by
 refine .func (CW.mono H ?_);rintro r h' ⟨hx,v,rfl,hq⟩;refine⟨?_⟩;obtain⟨rs',h1,h2⟩:=hK v _ (hx.KI (base:=base)) (hlog v h' _ hq);show(match bC {h' with log:=aC base h.log h'.log} base h'.log mask rs with
  |some rs'=>K rs' (cC e dst v) {h' with log:=aC base h.log h'.log}
  |none=>False)
 have hl:h'.log=[]:=hx.log;rw[hl]at h1 h2⊢;rw[h1];exact h2
theorem Py:bR h e []=some []:=rfl
theorem lU{t:Nat}{v:Value}{rs:List (Nat×Option (Option Nat))}{vs:List Value}(ht:geT e t=some v)(hr:bR h e rs=some vs):bR h e ((t,none)::rs)=some (v::vs):=by simp only[bR,ht,hr]
theorem dF{t n b o s:Nat}{own:Bool}{ws l:List Value}{rs:List (Nat×Option (Option Nat))}{vs:List Value}(ht:geT e t=some (.pointer (some ⟨b,o,none⟩)))(hb:h.get b=some (.cells ws own s))(hl:cw n (bU o ws)=l)(hn:Nat.beq (cm l) n=true)(hr:bR h e rs=some vs):
 bR h e ((t,some (some n))::rs)=some (.agg l.toArray::vs):=by simp only[bR,ht,pn,hb,hl,hn,cond_true,hr]
theorem xU{t b o s:Nat}{own:Bool}{ws:List Value}{v:Value}{rs:List (Nat×Option (Option Nat))}{vs:List Value}(ht:geT e t=some (.pointer (some ⟨b,o,none⟩)))(hb:h.get b=some (.cells ws own s))(hl:bH ws o=some v)(hr:bR h e rs=some vs):
 bR h e ((t,some none)::rs)=some (v::vs):=by simp only[bR,ht,pn,hb,hl,hr]
theorem bh{log:List Nat}{mask:Nat}:bC h base log mask []=some []:=rfl
theorem Pt{log:List Nat}{mask:Nat}{r:Rec}{rs rs':List Rec}(hb:Nat.testBit mask r.i=true)(H:bC h base log mask rs=some rs'):bC h base log mask (r::rs)=some rs':=by
 simp only[bC,hb,cond_true,H]
theorem Pv{log:List Nat}{mask:Nat}{r:Rec}{rs rs':List Rec}(hb:Nat.testBit mask r.i=false)(hq:rz h base r=true)(hm:Ik log r=true)(H:bC h base log mask rs=some rs'):bC h base log mask (r::rs)=some (r::rs'):=by
 simp only[bC,hb,hq,hm,Bool.and_true,cond_true,cond_false,H]
theorem PA{r:Rec}{b:Nat}(hk:r.k= .made b):rz h base r=true:=by simp only[rz,hk]
theorem aa{r:Rec}(hk:r.k= .quiet)(hv:aop h base r.e r.o.op=some (.val r.v h))(hs:iy r.v r.v=true):rz h base r=true:=by
 have hb:Nat.beq h.next h.next=true:=by rw[beq_eq];simp
 simp only[rz,hk,hv,hs,hb,Bool.and_self]
theorem Bw:oI h base []=true:=rfl
theorem e9{r:Rec}{rs:List Rec}(h1:rz h base r=true)(h2:oI h base rs=true):oI h base (r::rs)=true:=by simp only[oI,h1,cond_true,h2]
theorem aX(a:Option Addr):iy (.pointer a) (.pointer a)=true:=by simp[iy,jo]
theorem dg(k:IntKind)(n:Int):iy (.int k n) (.int k n)=true:=by simp[iy,jo]
theorem BK(b:Bool):iy (.bool b) (.bool b)=true:=by simp[iy,jo]
theorem eV(a:Option Addr)(n c:Nat):iy (.slice a n c) (.slice a n c)=true:=by simp[iy,jo]
theorem pS{c:Array Value}(h:jN c.toList c.toList=true):iy (.agg c) (.agg c)=true:=h
theorem iI:jN [] []=true:=rfl
theorem di{v:Value}{l:List Value}(h1:jo v v=true)(h2:jN l l=true):jN (v::l) (v::l)=true:=by simp only[jN,h1,cond_true,h2]
theorem iw(a:Option Addr):jo (.pointer a) (.pointer a)=true:=by simp[jo]
theorem iu(k:IntKind)(n:Int):jo (.int k n) (.int k n)=true:=by simp[jo]
theorem MH(a:Option Addr)(n c:Nat):jo (.slice a n c) (.slice a n c)=true:=by simp[jo]
theorem iN{b o n c size:Nat}{vs cs:List Value}{own:Bool}{s:Nat}(hb:h.get b=some (.cells vs own s))(hc:cw (n*size) (bU o vs)=cs)(hl:cs.length=n*size):dn h size (.slice (some ⟨b,o,none⟩) n c)=some (cs,n):=by
 simp only[dn,hb,hc,bS,hl,beq_eq,decide_true,cond_true]
theorem BE{size n:Nat}{v:Value}{cs:List Value}(s:aJ h size v n cs):dn h size v=some (cs,n):=by
 cases s with
 |nil=>rfl
 |mem s _=>
  obtain⟨vs,own,t,h1,h2⟩:=s.obj;exact iN h1 h2 s.len
theorem mS{size bytes n c:Nat}{x y:Operand}{v:Value}{cs:List Value}(hx:ev h e x=some (.slice none 0 0))(hy:ev h e y=some v)(hs:dn h size v=some (cs,n))(hn:n≠0)(hb:(2*(0+n)+768)*bytes<=281474976710656)(hc:c=UNK):
 aop h base e (.append size bytes x y)=some (.val (.slice (some ⟨h.next,0,none⟩) n c) (h.push (.cells cs true size))):=by
 have h0:Nat.beq n 0=false:=by rw[beq_eq];simpa using hn
 have h1:Nat.ble ((2*(0+n)+768)*bytes) 281474976710656=true:=by rw[ble_eq];simpa using hb
 subst hc;simp only[aop,hx,hy,hs,jb,h0,h1,cond_true,cond_false,Nat.beq,Bool.and_self,fC]
theorem jO{size bytes len n q:Nat}{x y:Operand}{v:Value}{vs cs ws:List Value}(hx:ev h e x=some (.slice (some ⟨q,0,none⟩) len UNK))(hy:ev h e y=some v)(hs:dn h size v=some (cs,n))(hn:n≠0)(hq:h.get q=some (.cells vs true size))(hl:vs.length=len*size)
 (hsz:0<size)(h1:dY cs=true)(hb:(2*(len+n)+768)*bytes<=281474976710656)(hw:eD vs cs=ws):
 aop h base e (.append size bytes x y)=some (.val (.slice (some ⟨h.next,0,none⟩) (len+n) UNK) ((h.wr base q .dead).push (.cells ws true size))):=by
 have h0:Nat.beq n 0=false:=by rw[beq_eq];simpa using hn
 have h2:Nat.ble ((2*(len+n)+768)*bytes) 281474976710656=true:=by rw[ble_eq];simpa using hb
 have h3:Nat.beq UNK UNK=true:=by rw[beq_eq];simp
 have h4:Nat.beq size size=true:=by rw[beq_eq];simp
 have h5:Nat.ble (0+(len+n)*size) (cm vs)=false:=by
  rw[ble_eq,bS,hl,Nat.add_mul];have:0<n*size:=Nat.mul_pos (Nat.pos_of_ne_zero hn) hsz;simp;omega
 have h6:Nat.beq (len*size) (cm vs)=true:=by rw[beq_eq,bS,hl];simp
 simp only[aop,hx,hy,hs,jb,h0,h2,hq,h3,h4,h5,h6,h1,Bool.and_true,Bool.false_and,cond_true,cond_false,hw,fC,Nat.beq]
theorem vC{size bytes len n q o c s:Nat}{own:Bool}{x y:Operand}{v:Value}{vs cs ws:List Value}(hx:ev h e x=some (.slice (some ⟨q,o,none⟩) len c))(hy:ev h e y=some v)(hs:dn h size v=some (cs,n))(hn:n≠0)(hc:c<len+n)(hu:c<UNK)
 (hq:h.get q=some (.cells vs own s))(hl:o+len*size<=vs.length)(hb:(2*(len+n)+768)*bytes<=281474976710656)(hw:eD (cw (len*size) (bU o vs)) cs=ws):
 aop h base e (.append size bytes x y)=some (.val (.slice (some ⟨h.next,0,none⟩) (len+n) UNK) (h.push (.cells ws true size))):=by
 have h0:Nat.beq n 0=false:=by rw[beq_eq];simpa using hn
 have h2:Nat.ble ((2*(len+n)+768)*bytes) 281474976710656=true:=by rw[ble_eq];simpa using hb
 have h3:Nat.beq c UNK=false:=by rw[beq_eq];simp;omega
 have h4:Nat.ble (len+n) c=false:=by rw[ble_eq];simp;omega
 have h5:Nat.ble (o+len*size) (cm vs)=true:=by rw[ble_eq,bS];simpa using hl
 simp only[aop,hx,hy,hs,jb,h0,h2,hq,h3,h4,h5,cond_true,cond_false,hw,fC]
theorem vD{size bytes len c:Nat}{a:Option Addr}{x y:Operand}{v:Value}(hx:ev h e x=some (.slice a len c))(hy:ev h e y=some v)(hs:dn h size v=some ([],0))(hc:len<=c):aop h base e (.append size bytes x y)=some (.val (.slice a len c) h):=by
 have h2:Nat.ble len c=true:=by rw[ble_eq];simpa using hc
 simp only[aop,hx,hy,hs,jb,h2,cond_true,Nat.beq,fC]
theorem kY{ops:List aV}{bf:List Nat}{rs rs':List Rec}{Q:Env->Heap->Prop}{i mask:Nat}{is:List Nat}{dst:Option Nat}{op:AOp}{g:Option (Nat×Bool)}{er:Env}{v:Value}{h2 h3:Heap}{lg:List Nat}(ho:bH ops i=some ⟨dst,op,g⟩)(hm:bH bf i=some mask)
 (he:bO e (cS ⟨dst,op,g⟩)=er)(hw:bN er g=some true)(hq:jR op=false)(hop:aop {h with log:=[]} h.next er op=some (.val v h2))(h3e:({h2 with log:=aC base h.log h2.log}:Heap)=h3)(hlg:h2.log=lg)
 (hrs:bC h3 base lg mask rs=some rs')(H:WD T base ops bf Q is rs' (cC e dst v) h3):WD T base ops bf Q (i::is) rs e h:=by
 subst h3e;subst hlg;exact Te ho hm he hw hq hop hrs H
theorem OA(o:bG):(({h with log:=[]}:Heap).push o).log=[]:=rfl
theorem qx{b:Nat}(hb:b<h.next)(o:bG):(({h with log:=[]}:Heap).wr h.next b o).log=[b]:=by
 simp[Heap.wr,blt_eq,hb,fF]
theorem N9(o:bG):({({h with log:=[]}:Heap).push o with log:=aC base h.log (({h with log:=[]}:Heap).push o).log}:Heap)=h.push o:=rfl
theorem F1{b:Nat}(hb:b<h.next)(hbb:base<=b)(o:bG):({({h with log:=[]}:Heap).wr h.next b o with log:=aC base h.log (({h with log:=[]}:Heap).wr h.next b o).log}:Heap)=h.wr base b o:=by
 rw[qx hb];have h1:Nat.blt b base=false:=by rw[blt_eq];simp;omega
 simp only[Heap.wr,aC,h1,cond_false]
theorem yp{ops:List aV}{bf:List Nat}{rs rs':List Rec}{Q:Env->Heap->Prop}{i mask:Nat}{is:List Nat}{dst:Option Nat}{x y:Operand}{n b o sz:Nat}{vs ws:List Value}{v:Value}{g:Option (Nat×Bool)}{er:Env}(ho:bH ops i=some ⟨dst, .store n x y,g⟩)(hm:bH bf i=some mask)
 (he:bO e (cS ⟨dst, .store n x y,g⟩)=er)(hw:bN er g=some true)(hx:ev {h with log:=[]} er x=some (.pointer (some ⟨b,o,none⟩)))(hy:ev {h with log:=[]} er y=some v)(hb:h.get b=some (.cells vs true sz))
 (hc:(Nat.beq (cm (cellsOf v)) n&&Nat.ble (o+n) (cm vs)&&dY (cellsOf v))=true)(hws:cU vs o (cellsOf v)=ws)(hlt:b<h.next)(hbb:base<=b)(hrs:bC (h.wr base b (.cells ws true sz)) base [b] mask rs=some rs')
 (H:WD T base ops bf Q is rs' (cC e dst (.tuple #[])) (h.wr base b (.cells ws true sz))):WD T base ops bf Q (i::is) rs e h:=
 kY ho hm he hw rfl (jy (h:={h with log:=[]}) hx hy hb hc hws) (F1 hlt hbb _) (qx hlt _) hrs H
theorem yj{ops:List aV}{bf:List Nat}{rs rs':List Rec}{Q:Env->Heap->Prop}{i mask:Nat}{is:List Nat}{dst:Option Nat}{g:Option (Nat×Bool)}{er:Env}{size bytes n:Nat}{x y:Operand}{v:Value}{cs:List Value}
 (ho:bH ops i=some ⟨dst, .append size bytes x y,g⟩)(hm:bH bf i=some mask)(he:bO e (cS ⟨dst, .append size bytes x y,g⟩)=er)(hwt:bN er g=some true)
 (hx:ev {h with log:=[]} er x=some (.slice none 0 0))(hy:ev {h with log:=[]} er y=some v)(hs:dn {h with log:=[]} size v=some (cs,n))(hn:n≠0)(hb:(2*(0+n)+768)*bytes<=281474976710656)
 (hrs:bC (h.push (.cells cs true size)) base [] mask rs=some rs')(H:WD T base ops bf Q is rs' (cC e dst (.slice (some ⟨h.next,0,none⟩) n UNK)) (h.push (.cells cs true size))):WD T base ops bf Q (i::is) rs e h:=
 kY ho hm he hwt rfl (mS (h:={h with log:=[]}) hx hy hs hn hb rfl) (N9 _) (OA _) hrs H
theorem Heap.CL{h:Heap}{o:bG}{x:Nat}(h1:x<=h.next)(h2:h.next<=x):(h.push o).get x=some o:=by rw[Heap.dD,if_pos (Nat.le_antisymm h1 h2)]
theorem Heap.Hp{h:Heap}{base b:Nat}{o:bG}{x:Nat}(h1:x<=b)(h2:b<=x):(h.wr base b o).get x=(h.get x).map λ_=>o:=by rw[Heap.lQ,if_pos (Nat.le_antisymm h1 h2),Nat.le_antisymm h1 h2]
theorem aG{log:List Nat}{mask i:Nat}{o:aV}{e:Env}{v:Value}{k:Rk}{rs rs':List Rec}(hb:Nat.testBit mask i=true)(H:bC h base log mask rs=some rs'):bC h base log mask (⟨i,o,e,v,k⟩::rs)=some rs':=Pt hb H
theorem ah{log:List Nat}{mask i:Nat}{o:aV}{e:Env}{v:Value}{k:Rk}{rs rs':List Rec}(hb:Nat.testBit mask i=false)(hq:rz h base ⟨i,o,e,v,k⟩=true)(hm:Ik log ⟨i,o,e,v,k⟩=true)(H:bC h base log mask rs=some rs'):
 bC h base log mask (⟨i,o,e,v,k⟩::rs)=some (⟨i,o,e,v,k⟩::rs'):=Pv hb hq hm H
theorem vm{size n:Nat}{v:Value}{cs:List Value}{l:List Nat}(hs:dn h size v=some (cs,n)):dn {h with log:=l} size v=some (cs,n):=by
 have:dn {h with log:=l} size v=dn h size v:=by unfold dn;rfl
 rw[this];exact hs
theorem Cp{x:Operand}{k:IntKind}{n d:Nat}(hx:ev h e x=some (.int k (n:Nat))):bnd h e d (some x)=some n:=by
 have:(.int k (n:Nat):Value)= .int k (Int.ofNat n):=rfl;rw[this]at hx;simp only[bnd,hx,oF]
theorem Cn{d:Nat}:bnd h e d none=some d:=rfl
theorem tN(n:Nat):Nat.beq n n=true:=by rw[beq_eq];simp
theorem fu{a b:Nat}(h:a<=b):Nat.ble a b=true:=by rw[ble_eq];simpa using h
theorem fS{a b:Nat}(h:a<b):Nat.blt a b=true:=by rw[blt_eq];simpa using h
theorem sE{a b:Nat}(h:¬a<b):Nat.blt a b=false:=by rw[blt_eq];simpa using h
theorem pF{a b:Nat}(h:a≠b):Nat.beq a b=false:=by rw[beq_eq];simpa using h
theorem vJ{size b o n i:Nat}{k:IntKind}{x y:Operand}{vs:List Value}{own:Bool}(hx:ev h e x=some (.slice (some ⟨b,o,none⟩) n UNK))(hy:ev h e y=some (.int k (i:Nat)))(hb:h.get b=some (.cells vs own size))(hi:i<=n)(h0:0<n):
 aop h base e (.slice (.sl size) x none (some y) none)=some (.val (.slice (some ⟨b,o,none⟩) i UNK) h):=by
 simp only[aop,hx,iz,Cp hy,Cn,hb,tN,fu (Nat.zero_le _),fu hi,fS h0,Bool.true_or,Bool.and_true,cond_true,fC,Nat.zero_mul,Nat.add_zero,Nat.sub_zero]
theorem qG{size b o n i:Nat}{k:IntKind}{x y:Operand}{vs:List Value}{own:Bool}(hx:ev h e x=some (.slice (some ⟨b,o,none⟩) n UNK))(hy:ev h e y=some (.int k (i:Nat)))(hb:h.get b=some (.cells vs own size))(hi:i<n):
 aop h base e (.slice (.sl size) x (some y) none none)=some (.val (.slice (some ⟨b,o+i*size,none⟩) (n-i) UNK) h):=by
 simp only[aop,hx,iz,Cp hy,Cn,hb,tN,fu (Nat.le_of_lt hi),fu (Nat.le_refl n),fS hi,Bool.true_or,Bool.and_true,cond_true,fC]
theorem FH{z vs ws:List Value}{x:Operand}{b o n c sz:Nat}(hx:ev h e x=some (.slice (some ⟨b,o,none⟩) n c))(hn:n≠0)(hb:h.get b=some (.cells vs true sz))(hl:o+(eS n z).length<=vs.length)(h1:dY (eS n z)=true)(hw:cU vs o (eS n z)=ws):
 aop h base e (.clear z x)=some (.val (.tuple #[]) (h.wr base b (.cells ws true sz))):=by
 have h5:Nat.ble (o+cm (eS n z)) (cm vs)=true:=by rw[bS,bS];exact fu hl
 simp only[aop,hx,pF hn,hb,h5,h1,Bool.and_true,cond_true,cond_false,hw]
theorem Er{b:Nat}(hb:b<h.next)(o:bG):({({h with log:=[]}:Heap).wr h.next b o with log:=aC base h.log (({h with log:=[]}:Heap).wr h.next b o).log}:Heap)=h.wr base b o:=by
 rw[qx hb];rfl
theorem eY{α:Type}{l m:List α}{o:Nat}(ho:o+m.length<=l.length):cU l o m=l.take o++m++l.drop (o+m.length):=by
 apply List.ext_getElem?;intro i;rw[ni m l o i ho];by_cases h1:o<=i/\i<o+m.length
 ·rw[if_pos h1,List.getElem?_append_left (by simp;omega),List.getElem?_append_right (by simp;omega)];congr 1;simp;omega
 ·rw[if_neg h1];by_cases h2:i<o
  ·rw[List.getElem?_append_left (by simp;omega),List.getElem?_append_left (by simp;omega),List.getElem?_take_of_lt h2]
  ·rw[List.getElem?_append_right (by simp;omega),List.getElem?_drop];congr 1;simp;omega
structure Upd (h h':Heap) (b:Nat) (o:bG):Prop where
 next:h.next<=h'.next
 log:h'.log=[b]
 old:∀x,x<h.next->x≠b->h'.get x=h.get x
 obj:h'.get b=some o
 wf:WF h->WF h'
end Go.A
end
section
namespace Go.A
theorem z1(h:Heap)(o:bG):(h.push o).next=h.next+1:=rfl
theorem z2(h:Heap)(base b:Nat)(o:bG):(h.wr base b o).next=h.next:=rfl
theorem z3(h:Heap)(o:bG):(h.push o).get h.next=some o:=Heap.gN h o
theorem z4{h:Heap}{o:bG}{x:Nat}(hx:x<h.next):(h.push o).get x=h.get x:=Heap.ew hx
theorem z5{h:Heap}{base b:Nat}{o:bG}{x:Nat}(hx:x≠b):(h.wr base b o).get x=h.get x:=Heap.dV hx
theorem z6(h:Heap)(base b:Nat)(o:bG):(h.wr base b o).get b=(h.get b).map λ_=>o:=Heap.CM h base b o
theorem z7{α β:Type}(f:α->β)(a:α):Option.map f (some a)=some (f a):=rfl
theorem z8{h:Heap}{o:bG}{x:Nat}(h1:x<=h.next)(h2:h.next<=x):(h.push o).get x=some o:=Heap.CL h1 h2
theorem z9{h:Heap}{base b:Nat}{o:bG}{x:Nat}(h1:x<=b)(h2:b<=x):(h.wr base b o).get x=(h.get x).map λ_=>o:=Heap.Hp h1 h2
end Go.A
end
section
namespace Go.A
variable {T:Nat->Option an} {base:Nat} {rnd:Option Nat} {Q:XQ} {e:Env} {ds:Dfs} {h:Heap}
def eF(lo:Nat)(l:List Nat):Prop:=∀x∈l,lo<=x
theorem eF.nil(lo:Nat):eF lo []:=λx hx=>by cases hx
theorem eF.merge{lo base:Nat}:∀{m l:List Nat},eF lo l->eF lo m->eF lo (aC base l m)
 |[],l,h1,_=>h1
 |b::m,l,h1,h2=>by
  simp only[aC];refine eF.merge ?_ λx hx=>h2 x (List.mem_cons_of_mem _ hx);have hb:=h2 b (List.mem_cons_self ..);simp only[cond_eq_ite];split
  ·split
   ·exact h1
   ·intro x hx;rcases List.mem_cons.1 hx with rfl|hx
    ·exact hb
    ·exact h1 x hx
  ·exact h1
structure Lk (lo:Nat) (h h':Heap):Prop where
 next:h.next<=h'.next
 log:eF lo h.log->eF lo h'.log
 old:∀x,x<lo->h'.get x=h.get x
 wf:WF h->WF h'
theorem Lk.refl(lo:Nat)(h:Heap):Lk lo h h:=⟨Nat.le_refl _,id,λ_ _=>rfl,id⟩
theorem Lk.trans{lo:Nat}{a b c:Heap}(x:Lk lo a b)(y:Lk lo b c):Lk lo a c:=⟨Nat.le_trans x.next y.next,λh=>y.log (x.log h),λz hz=>(y.old z hz).trans (x.old z hz),λw=>y.wf (x.wf w)⟩
theorem Lk.push{lo:Nat}{a b:Heap}(x:Lk lo a b)(hlo:lo<=b.next)(o:bG):Lk lo a (b.push o):=x.trans ⟨Nat.le_succ _,id,λz hz=>Heap.ew (by omega),λw=>w.push o⟩
theorem Lk.wr{lo:Nat}{a b:Heap}(x:Lk lo a b){base y:Nat}{o:bG}(hy:lo<=y):Lk lo a (b.wr base y o):=
 x.trans ⟨Nat.le_refl _,λhl=>by
  simp only[Heap.wr,cond_eq_ite];split
  ·split
   ·exact hl
   ·intro z hz;rcases List.mem_cons.1 hz with rfl|hz
    ·exact hy
    ·exact hl z hz
  ·exact hl,λz hz=>Heap.dV (by omega),λw=>w.as (AS.wr _ _ _ _)⟩
theorem Ext.lk{lo:Nat}{a b:Heap}(x:Ext a b)(hlo:lo<=a.next):Lk lo a b:=⟨x.next,λh=>by rw[x.log];exact h,λz hz=>x.old z (by omega),x.wf⟩
theorem qX{l:List Nat}{x:Nat}(h:x ∉ l):fF l x=false:=by
 cases e:fF l x with
 |false=>rfl
 |true=>exact(h (iX.1 e)).elim
theorem Lk.nr{lo:Nat}{h h':Heap}(hA:AS h.next h h')(hlo:lo<=h.next)(hl:eF lo h'.log):Lk lo h h':=
 ⟨hA.next,λ_=>hl,λx hx=>hA.same x (by omega) (by omega) (qX λhm=>by have:=hl x hm;omega),λw=>w.as hA⟩
theorem Lk.call{lo:Nat}{h h2:Heap}(x:Lk lo {h with log:=[]} h2):Lk lo h {h2 with log:=aC base h.log h2.log}:=
 ⟨x.next,λhl=>hl.merge (x.log (eF.nil _)),x.old,λw=>(x.wf (w.log [])).log _⟩
def Gr(T:Nat->Option an)(f:Nat)(args:List Value)(h:Heap)(lo:Nat)(Q:Value->Heap->Prop):Prop:=CW T f args h λr h'=>Lk lo h h'∧∃v,r= .ret v/\Q v h'
structure Ry (rs:List (Nat×Option (Option Nat))) (lo:Nat) (Q:Value->Heap->Prop) (x:bB) (e:Env) (ds:Dfs) (h1:Heap):Prop where
 ok:(x= .normal∨x= .ret)/\ds=[]/\eF lo h1.log/\∃vs,bR h1 e rs=some vs/\Q (eE vs) h1
theorem CC{rs:List (Nat×Option (Option Nat))}{lo:Nat}{Q:Value->Heap->Prop}{vs:List Value}(hl:eF lo h.log)(hr:bR h e rs=some vs)(hq:Q (eE vs) h):Ry rs lo Q .ret e [] h:=⟨⟨.inr rfl,rfl,hl,vs,hr,hq⟩⟩
theorem vY{rs:List (Nat×Option (Option Nat))}{lo:Nat}{Q:Value->Heap->Prop}{vs:List Value}(hl:eF lo h.log)(hr:bR h e rs=some vs)(hq:Q (eE vs) h):Ry rs lo Q .normal e [] h:=⟨⟨.inl rfl,rfl,hl,vs,hr,hq⟩⟩
theorem lN{h h1:Heap}{v:Value}(hA:AS h.next h h1):(∀x,x<h.next->(gcA h h1 v).get x=h1.get x)/\h.next<=(gcA h h1 v).next/\(gcA h h1 v).log=h1.log/\(cG v=false->gcA h h1 v=h1):=by
 unfold gcA;cases hc:(cG v&&fD h1 h.next h1.log)with
 |false=>exact⟨λ_ _=>rfl,hA.next,rfl,λ_=>rfl⟩
 |true=>
  refine⟨λx hx=> ?_,Nat.le_refl _,rfl,λhn=>by rw[hn]at hc;cases hc⟩;have hA':=hA.keys;have hlen:(dy h.next (h1.next-h.next)).length=h1.next-h.next:=by
   generalize h1.next-h.next=n
   induction n with
   |zero=>rfl
   |succ n ih=>simp[dy,ih]
  have hkt:(h1.cE.take (h1.next-h.next)).map (·.1)=dy h.next (h1.next-h.next):=by
   rw[List.map_take,hA',List.take_append_of_le_length (by omega),List.take_of_length_le (by omega)]
  have:=lu _ h.next _ (h1.cE.drop (h1.next-h.next)) hkt x hx
  rw[List.take_append_drop]at this;show fm (bU (h1.next-h.next) h1.cE) x=fm h1.cE x;rw[aT];exact this.symm
theorem wr0(l:Nat)(o:bG):({h with cE:=iS h.cE l o}:Heap)=h.wr 0 l o:=rfl
def busy:bG->Bool
 | .loop _ _ _ _ 1 _=>true
 |_=>false
theorem sY{f:Operand}{ps:List Nat}{asg body:aR}{g:Nat}{first cap:Array Value}(hr:oq h rnd=true)(hf:ev h e f=some (.func (.func g) first cap))(hnc:gi (T g)=false)
 (H:CW T g (eD first.toList (eD [.func (.yield h.next) #[] #[]] cap.toList)) {h.push (.loop e ps asg body 0 .normal)with log:=[]} fun r h2=>∃v,r= .ret v∧∃e' ps' a' b' st iK,h2.get h.next=some (.loop e' ps' a' b' st iK)∧Nat.beq st 1=false∧
   Q iK e ds (({h2 with log:=aC base h.log h2.log}:Heap).wr base h.next .dead)):WE T base rnd (.rangeFunc f ps asg body) Q e ds h:=by
 obtain⟨r,h2,⟨m,hm⟩,v,rfl,e',ps',a',b',st,iK,hl,hst,hq⟩:=H;refine⟨⟨iK,e,ds,_,⟨m+1,λn hn=> ?_⟩,hq⟩⟩;obtain⟨k,rfl⟩:∃k,n=k+1:=⟨n-1,by omega⟩;simp only[cB,hr,hf,hnc,cond_true,cond_false,hm k (by omega),hl,hst]
theorem FW.BR(hp:aF T){fn:Fn}{args:List Value}{Q:Res->Heap->Prop}(H:FW T fn args h Q)(hl:h.log=[]):FW T fn args h λr h'=>AS h.next h h'∧Q r h':=by
 obtain⟨r,h',⟨m,hm⟩,hq⟩:=H;exact⟨r,h',⟨m,hm⟩,(eX.all hp m).jA _ _ _ _ _ (hm m (Nat.le_refl _)) hl,hq⟩
theorem FW.mono'{fn:Fn}{args:List Value}{Q Q':Res->Heap->Prop}(H:FW T fn args h Q)(hq:∀r h',Q r h'→Q' r h'):FW T fn args h Q':=
 let⟨r,h',h1,h2⟩:=H;⟨r,h',h1,hq _ _ h2⟩
theorem AS.zero{base:Nat}{h h':Heap}(a:AS base h h'):AS 0 h h':=⟨a.next,a.keys,λb hb=>by omega,λb hb=>by omega⟩
theorem zn{h h1:Heap}{v:Value}(hA:AS 0 h h1):(∀x,x<h.next->(gcA h h1 v).get x=h1.get x)/\h.next<=(gcA h h1 v).next/\(gcA h h1 v).log=h1.log:=by
 unfold gcA;cases hc:(cG v&&fD h1 h.next h1.log)with
 |false=>exact⟨λ_ _=>rfl,hA.next,rfl⟩
 |true=>
  refine⟨λx hx=> ?_,Nat.le_refl _,rfl⟩;have hA':=hA.keys;have hlen:(dy h.next (h1.next-h.next)).length=h1.next-h.next:=by
   generalize h1.next-h.next=n
   induction n with
   |zero=>rfl
   |succ n ih=>simp[dy,ih]
  have hkt:(h1.cE.take (h1.next-h.next)).map (·.1)=dy h.next (h1.next-h.next):=by
   rw[List.map_take,hA',List.take_append_of_le_length (by omega),List.take_of_length_le (by omega)]
  have:=lu _ h.next _ (h1.cE.drop (h1.next-h.next)) hkt x hx
  rw[List.take_append_drop]at this;show fm (bU (h1.next-h.next) h1.cE) x=fm h1.cE x;rw[aT];exact this.symm
structure PW (l wb:Nat) (H0:Heap) (L:bG) (O:List (Nat×Nat)->bG) (done:List (Nat×Nat)) (H:Heap):Prop where
 old:∀x,x<l->x≠wb->H.get x=H0.get x
 obj:H.get wb=some (O done)
 loop:H.get l=some L
 nx:l<H.next
inductive Own (lo:Nat) (h:Heap) (sz:Nat):Value->Nat->List Value->Prop
 |nil:Own lo h sz (.slice none 0 0) 0 []
 |full {q n cs}:lo<=q->q<h.next->h.get q=some (.cells cs true sz)->cs.length=n*sz->n≠0->Own lo h sz (.slice (some ⟨q,0,none⟩) n UNK) n cs
theorem Own.slice{lo sz n:Nat}{v:Value}{cs:List Value}(s:Own lo h sz v n cs)(hn:n<4000000):aJ h sz v n cs:=by
 cases s with
 |nil=>exact .nil
 |full h1 h2 h3 h4 h5=>
  refine .mem ⟨h2,⟨_,_,_,h3,?_⟩,h4⟩ (by unfold UNK;omega);rw[bI,aT,List.drop_zero,List.take_of_length_le (by omega)]
theorem Own.keep{lo sz n:Nat}{h':Heap}{v:Value}{cs:List Value}(s:Own lo h sz v n cs)(hn:h.next<=h'.next)(ha:∀z,lo<=z->z<h.next->h'.get z=h.get z):Own lo h' sz v n cs:=by
 cases s with
 |nil=>exact .nil
 |full h1 h2 h3 h4 h5=>exact .full h1 (by omega) ((ha _ h1 h2).trans h3) h4 h5
theorem Own.ext{lo sz n:Nat}{h':Heap}{v:Value}{cs:List Value}(s:Own lo h sz v n cs)(x:Ext h h'):Own lo h' sz v n cs:=s.keep x.next λz _ hz=>x.old z hz
theorem Own.log{lo sz n:Nat}{v:Value}{cs:List Value}(s:Own lo h sz v n cs)(m:List Nat):Own lo {h with log:=m} sz v n cs:=s.keep (h':={h with log:=m}) (Nat.le_refl _) λ_ _ _=>rfl
theorem Own.low{lo lo' sz n:Nat}{v:Value}{cs:List Value}(s:Own lo h sz v n cs)(hl:lo'≤lo):Own lo' h sz v n cs:=by
 cases s with
 |nil=>exact .nil
 |full h1 h2 h3 h4 h5=>exact .full (by omega) h2 h3 h4 h5
structure Lx (lo:Nat) (h h':Heap):Prop where
 next:h.next<=h'.next
 log:h'.log=h.log
 old:∀z,z<lo->h'.get z=h.get z
 wf:WF h->WF h'
theorem Lx.refl(lo:Nat)(h:Heap):Lx lo h h:=⟨Nat.le_refl _,rfl,λ_ _=>rfl,id⟩
theorem Lx.trans{lo:Nat}{a b c:Heap}(x:Lx lo a b)(y:Lx lo b c):Lx lo a c:=⟨Nat.le_trans x.next y.next,y.log.trans x.log,λz hz=>(y.old z hz).trans (x.old z hz),λw=>y.wf (x.wf w)⟩
theorem Lx.push{lo:Nat}{a b:Heap}(x:Lx lo a b)(hlo:lo<=b.next)(o:bG):Lx lo a (b.push o):=x.trans ⟨Nat.le_succ _,rfl,λz hz=>Heap.ew (by omega),λw=>w.push o⟩
theorem Lx.wr{lo:Nat}{a b:Heap}(x:Lx lo a b){base y:Nat}{o:bG}(hy:lo<=y)(hb:base<=y):Lx lo a (b.wr base y o):=x.trans ⟨Nat.le_refl _,Heap.aB hb,λz hz=>Heap.dV (by omega),λw=>w.as (AS.wr _ _ _ _)⟩
theorem Ext.lx{lo:Nat}{a b:Heap}(x:Ext a b)(hlo:lo<=a.next):Lx lo a b:=⟨x.next,x.log,λz hz=>x.old z (by omega),x.wf⟩
theorem Lx.ext{a b:Heap}(x:Lx a.next a b):Ext a b:=⟨x.next,x.log,x.old,x.wf⟩
theorem Qc{lo sz bytes n:Nat}{dst:Option Nat}{os:List aV}{x y:Operand}{v u:Value}{cs c1:List Value}(s:Own lo h sz v n cs)(hn:n<1000000)(hsz:0<sz)(hb:bytes<=100000)(hlo:lo<=h.next)(hbase:base<=lo)
 (hx:ev h e x=some v)(hy:ev h e y=some u)(hs:dn h sz u=some (c1,1))(hl1:c1.length=sz)(h1:dY c1=true)
 (hK:∀v' h',Own lo h' sz v' (n+1) (cs++c1)->Lx lo h h'→WO T base rnd Q os (cC e dst v') ds h'):WO T base rnd Q (⟨dst, .append sz bytes x y,none⟩::os) e ds h:=by
 have hbd:(2*(n+1)+768)*bytes<=281474976710656:=by
  have:(2*(n+1)+768)*bytes<=2000768*100000:=Nat.mul_le_mul (by omega) hb;omega
 cases s with
 |nil=>
  refine aD (mS (n:=1) hx hy hs (by omega) (by simpa using hbd) rfl) ?_;refine hK _ _ ?_ ((Lx.refl lo h).push hlo _);have:=Own.full (lo:=lo) (h:=h.push (.cells c1 true sz)) (sz:=sz) (q:=h.next) (n:=1) (cs:=c1) hlo (Nat.lt_succ_self _) (Heap.gN _ _) (by omega) (by omega);exact this
 | @full q _ _ q1 q2 q3 q4 q5=>
   refine aD (jO (n:=1) (vs:=cs) (ws:=cs++c1) hx hy hs (by omega) q3 q4 hsz h1 hbd (dH _ _)) ?_;refine hK _ _ ?_ (((Lx.refl lo h).wr q1 (by omega)).push hlo _);refine .full hlo (Nat.lt_succ_self _) ?_ (by rw[List.length_append,q4,hl1,Nat.add_mul,Nat.one_mul]) (by omega);exact Heap.gN _ _
structure Ws (S:Nat->Prop) (h h':Heap):Prop where
 next:h.next<=h'.next
 log:∀z∈h'.log,z∈h.log∨S z
 old:∀z,z<h.next->¬S z->h'.get z=h.get z
 wf:WF h->WF h'
theorem Ws.nr{S:Nat->Prop}{h h':Heap}(hA:AS h.next h h')(hl:∀z∈h'.log,S z):Ws S h h':=
 ⟨hA.next,λz hz=> .inr (hl z hz),λz hz hn=>hA.same z hz hz (qX λhm=>hn (hl z hm)),λw=>w.as hA⟩
theorem zA{base z:Nat}:∀{m l:List Nat},z∈aC base l m->z∈l∨z∈m
 |[],l,h=> .inl h
 |b::m,l,h=>by
  simp only[aC]at h;rcases zA (m:=m) h with h|h
  ·revert h;rw[cond_eq_ite,cond_eq_ite];split
   ·split
    ·exact .inl
    ·intro h;rcases List.mem_cons.1 h with rfl|h
     ·exact .inr (List.mem_cons_self ..)
     ·exact .inl h
   ·exact .inl
  ·exact .inr (List.mem_cons_of_mem _ h)
theorem Ws.call{S:Nat->Prop}{h h2:Heap}(x:Ws S {h with log:=[]} h2):Ws S h {h2 with log:=aC base h.log h2.log}:=
 ⟨x.next,λz hz=>(zA hz).imp id λq=>(x.log z q).elim (λq=>by cases q) id,x.old,λw=>(x.wf (w.log [])).log _⟩
def Gs(T:Nat->Option an)(f:Nat)(args:List Value)(h:Heap)(S:Nat->Prop)(Q:Value->Heap->Prop):Prop:=CW T f args h λr h'=>Ws S h h'∧∃v,r= .ret v/\Q v h'
structure Uw (rs:List (Nat×Option (Option Nat))) (S:Nat->Prop) (Q:Value->Heap->Prop) (x:bB) (e:Env) (ds:Dfs) (h1:Heap):Prop where
 ok:(x= .normal∨x= .ret)/\ds=[]/\(∀z∈h1.log,S z)/\∃vs,bR h1 e rs=some vs/\Q (eE vs) h1
theorem gX{rs:List (Nat×Option (Option Nat))}{S:Nat->Prop}{Q:Value->Heap->Prop}{vs:List Value}(hl:∀z∈h.log,S z)(hr:bR h e rs=some vs)(hq:Q (eE vs) h):Uw rs S Q .ret e [] h:=⟨⟨.inr rfl,rfl,hl,vs,hr,hq⟩⟩
theorem Gs.of(hp:aF T){f:Nat}{args:List Value}{c:aR}{rs:List (Nat×Option (Option Nat))}{S:Nat->Prop}{Q:Value->Heap->Prop}(hf:T f=some (.code c rs))
 (hQ:∀v h1 h2,cG v=true->h.next<=h2.next->(∀x,x<h.next->h2.get x=h1.get x)->Q v h1->Q v h2)(H:WE T h.next none c (Uw rs S Q) (dZ 0 args) [] h):Gs T f args h S Q:=by
 obtain⟨x,e,ds,h1,⟨m,hm⟩,⟨hx,rfl,hl,vs,hvs,hq⟩⟩:=H.ok;have hA:=(eX.all hp m).exec _ _ _ _ _ _ _ _ _ _ (hm m (Nat.le_refl _)) (Nat.le_refl _);obtain⟨g1,g2,g3,g4⟩:=lN (v:=eE vs) hA;have key:Ws S h (gcA h h1 (eE vs))/\∃v,Res.ret (eE vs)= .ret v/\Q v (gcA h h1 (eE vs)):=by
  refine⟨Ws.nr (hA.gc' _) (by rw[g3];exact hl),_,rfl,?_⟩;cases hv:cG (eE vs)with
  |true=>exact hQ _ _ _ hv g2 g1 hq
  |false=>rw[g4 hv];exact hq
 refine CW.code hf ⟨x,e,[],h1,⟨m,hm⟩,?_⟩;unfold vZ;rcases hx with rfl|rfl<;>(simp only[hvs];exact key)
theorem FW.gs{f:Nat}{args:List Value}{S:Nat->Prop}{Q':Value->Heap->Prop}{K:Env->Dfs->Heap->Prop}{dst:Option Nat}(H:Gs T f args {h with log:=[]} S Q')(hlog:∀v (h':Heap) l,Q' v h'→Q' v {h' with log:=l})(hK:∀v h',Ws S h h'→Q' v h'→K (cC e dst v) ds h'):
 FW T (.func f) args {h with log:=[]} (KO K Q base dst e ds h.log):=by
 refine .func (CW.mono H ?_);rintro r h2 ⟨hx,v,rfl,hq⟩;exact⟨hK v _ hx.call (hlog v h2 _ hq)⟩
theorem FW.gsD{f:Nat}{args:List Value}{S:Nat->Prop}{Q':Value->Heap->Prop}{K:List Rec->Env->Heap->Prop}{mask:Nat}{rs:List Rec}{dst:Option Nat}(H:Gs T f args {h with log:=[]} S Q')(hlog:∀v (h':Heap) l,Q' v h'→Q' v {h' with log:=l})
 (hK:∀v h' lg,Ws S h h'→(∀z∈lg,S z)->Q' v h'→∃rs',bC h' base lg mask rs=some rs'∧K rs' (cC e dst v) h'):FW T (.func f) args {h with log:=[]} (KD K base mask rs dst e h.log):=by
 refine .func (CW.mono H ?_);rintro r h2 ⟨hx,v,rfl,hq⟩;obtain⟨rs',q1,q2⟩:=hK v {h2 with log:=aC base h.log h2.log} h2.log hx.call (λz hz=>(hx.log z hz).elim (λq=>by cases q) id) (hlog v h2 _ hq);refine⟨?_⟩;show kD K base mask rs dst e h.log (.ret v) h2;unfold kD;simp only[q1];exact q2
theorem yq{base b:Nat}{o:bG}{S:Nat->Prop}(hl:∀z∈h.log,S z)(hb:S b):∀z∈(h.wr base b o).log,S z:=by
 intro z hz;simp only[Heap.wr,cond_eq_ite]at hz;split at hz
 ·split at hz
  ·exact hl z hz
  ·rcases List.mem_cons.1 hz with rfl|hz
   ·exact hb
   ·exact hl z hz
 ·exact hl z hz
theorem Ws.trans{S:Nat->Prop}{a b c:Heap}(x:Ws S a b)(y:Ws S b c):Ws S a c:=
 ⟨Nat.le_trans x.next y.next,λz hz=>(y.log z hz).elim (x.log z) .inr,λz hz hn=>(y.old z (Nat.lt_of_lt_of_le hz x.next) hn).trans (x.old z hz hn),λw=>y.wf (x.wf w)⟩
theorem Ext.ws{S:Nat->Prop}{a b:Heap}(x:Ext a b):Ws S a b:=⟨x.next,λz hz=> .inl (x.log▸hz),λz hz _=>x.old z hz,x.wf⟩
theorem vF{k k':IntKind}{n m:Int}{x:Operand}(hx:ev h e x=some (.int k' n))(hm:fN k n=m):aop h base e (.conv (.int k) x)=some (.val (.int k m) h):=by
 subst hm;simp only[aop,hx,cH,vU,fC]
theorem HD(k:IntKind)(n:Nat):oF (.int k (n:Int))=some n:=rfl
theorem GQ{z:List Value}{bytes l c m:Nat}{k1 k2:IntKind}{x y:Operand}(hx:ev h e x=some (.int k1 (l:Nat)))(hy:ev h e y=some (.int k2 (c:Nat)))(h1:l<=c)(h2:bytes*c<=281474976710656)(h3:c<1000000)(hm:cm z=m):
 aop h base e (.mkSlice z bytes x y)=some (.val (.slice (some ⟨h.next,0,none⟩) l c) (h.push (.cells (eS c z) true m))):=by
 subst hm;simp only[aop,hx,hy,HD,fu h1,fu h2,fS (show c<UNK by unfold UNK;omega),Bool.and_self,cond_true]
theorem Rg{size b o n c m s sz k:Nat}{x y:Operand}{vs l ws:List Value}{u:Value}(hx:ev h e x=some (.slice (some ⟨b,o,none⟩) n c))(hy:ev h e y=some u)(hs:dn h size u=some (l,m))(hb:h.get b=some (.cells vs true sz))(hk:Nat.min m n=k)(hle:o+k*size<=vs.length)
 (h1:dY (cw (k*size) l)=true)(hw:cU vs o (cw (k*size) l)=ws):aop h base e (.copy size x y)=some (.val (.int .i64 k) (h.wr base b (.cells ws true sz))):=by
 subst hk;have h2:Nat.ble (o+Nat.min m n*size) (cm vs)=true:=by rw[bS];exact fu hle
 simp only[aop,hx,hy,hs,hb,h2,h1,Bool.and_self,cond_true,hw]
theorem GK{ops:List aV}{bf:List Nat}{rs rs':List Rec}{Q:Env->Heap->Prop}{i mask:Nat}{is:List Nat}{dst:Option Nat}{g:Option (Nat×Bool)}{er:Env}{size b o n c m sz k:Nat}{x y:Operand}{vs l ws:List Value}{u:Value}
 (ho:bH ops i=some ⟨dst, .copy size x y,g⟩)(hm:bH bf i=some mask)(he:bO e (cS ⟨dst, .copy size x y,g⟩)=er)(hwt:bN er g=some true)
 (hx:ev {h with log:=[]} er x=some (.slice (some ⟨b,o,none⟩) n c))(hy:ev {h with log:=[]} er y=some u)(hs:dn {h with log:=[]} size u=some (l,m))(hb:h.get b=some (.cells vs true sz))(hk:Nat.min m n=k)(hle:o+k*size<=vs.length)
 (h1:dY (cw (k*size) l)=true)(hw:cU vs o (cw (k*size) l)=ws)(hlt:b<h.next)(hbb:base<=b)(hrs:bC (h.wr base b (.cells ws true sz)) base [b] mask rs=some rs')
 (H:WD T base ops bf Q is rs' (cC e dst (.int .i64 k)) (h.wr base b (.cells ws true sz))):WD T base ops bf Q (i::is) rs e h:=
 kY ho hm he hwt rfl (Rg (h:={h with log:=[]}) (s:=0) hx hy hs hb hk hle h1 hw) (F1 hlt hbb _) (qx hlt _) hrs H
theorem vG{len size i:Nat}{k:IntKind}{x y:Operand}{cs:Array Value}{v:Value}(hx:ev h e x=some (.agg cs))(hy:ev h e y=some (.int k (i:Nat)))(hi:i<len)(hv:bH cs.toList (i*size)=some v):aop h base e (.qR len size none x y)=some (.val v h):=by
 have:(.int k (i:Nat):Value)= .int k (Int.ofNat i):=rfl;rw[this]at hy;simp only[aop,hx,hy,fS hi,cond_true,hv,cH]
def mi(a b:Int):Int:=if b<a then b else a
theorem Ak{x y:Operand}{a b:Int}(hx:ev h e x=some (.int .i64 a))(hy:ev h e y=some (.int .i64 b)):aop h base e (.eC false [x,y])=some (.val (.int .i64 (mi a b)) h):=by
 simp only[aop,evs,hx,hy,mmA,if_true,cH,mi];rfl
theorem nH{n:Nat}(h2:n<18446744073709551616):fN .u64 (n:Int)=n:=by
 have e1:((n:Nat):Int)=Int.ofNat n:=rfl;rw[e1];simp only[fN,fS h2,cond_true]
theorem RR{a b:Nat}(ha:a<18446744073709551616)(hb:b<18446744073709551616):aq .or (.int .u64 a) (.int .u64 b)=some (.int .u64 ((Nat.lor a b:Nat):Int)):=by
 have e1:((a:Nat):Int)=Int.ofNat a:=rfl;have e2:((b:Nat):Int)=Int.ofNat b:=rfl;rw[e1,e2];simp only[aq,arith,nL,fS ha,fS hb,Bool.and_self,cond_true,if_true];rfl
theorem qy{a b:Nat}(ha:a<18446744073709551616)(hb:b<18446744073709551616):aq .and (.int .u64 a) (.int .u64 b)=some (.int .u64 ((Nat.land a b:Nat):Int)):=by
 have e1:((a:Nat):Int)=Int.ofNat a:=rfl;have e2:((b:Nat):Int)=Int.ofNat b:=rfl;rw[e1,e2];simp only[aq,arith,nL,fS ha,fS hb,Bool.and_self,cond_true,if_true];rfl
theorem sw{a n:Nat}{k:IntKind}(hn:n<=64):aq .shr (.int .u64 a) (.int k n)=some (.int .u64 ((Nat.shiftRight a n:Nat):Int)):=by
 have e1:((a:Nat):Int)=Int.ofNat a:=rfl;have e2:((n:Nat):Int)=Int.ofNat n:=rfl;rw[e1,e2];simp only[aq,ot,Nat.min_eq_left hn];rfl
theorem tI{a b:Nat}(h:a+b<18446744073709551616):aq .add (.int .u64 a) (.int .u64 b)=some (.int .u64 ((a+b:Nat):Int)):=kK (by rw[←Int.natCast_add];exact nH h)
theorem KW{a:Nat}:aq .rem (.int .i64 a) (.int .i64 8)=some (.int .i64 ((a % 8:Nat):Int)):=by
 have e:(a:Int).tmod 8=((a % 8:Nat):Int):=by rw[Int.tmod_eq_emod_of_nonneg (by omega)];omega
 simp[aq,arith,e]
theorem KV{a:Nat}(h1:a<9223372036854775808):aq .quo (.int .i64 a) (.int .i64 8)=some (.int .i64 ((a / 8:Nat):Int)):=by
 have e:fN .i64 ((a:Int).tdiv 8)=((a / 8:Nat):Int):=by
  rw[Int.tdiv_eq_ediv_of_nonneg (by omega),ct (by omega) (by omega)];omega
 have e2:aq .quo (.int .i64 a) (.int .i64 8)=some (.int .i64 (fN .i64 ((a:Int).tdiv 8))):=rfl;rw[e2,e]
theorem ri{z:Nat}:∀{m l:List Nat},z∈l->z∈aC base l m
 |[],l,h=>h
 |b::m,l,h=>by
  simp only[aC];refine ri (m:=m) ?_;rw[cond_eq_ite,cond_eq_ite];split
  ·split
   ·exact h
   ·exact List.mem_cons_of_mem _ h
  ·exact h
theorem mem_merge{z:Nat}(hz:z<base):∀{m l:List Nat},z∈m->z∈aC base l m
 |b::m,l,h=>by
  simp only[aC];rcases List.mem_cons.1 h with rfl|h
  ·refine ri ?_;rw[fS hz,cond_true,cond_eq_ite];split
   ·rename_i hh;exact iX.1 hh
   ·exact List.mem_cons_self ..
  ·exact mem_merge hz h
theorem vR{l:Nat}{a:Env}{b:List Nat}{c d:aR}{st:Nat}{p:bB}(hl:h.get l=some (.loop a b c d st p))(hb:l<base):∀{lg:List Nat},l∈lg->fD h base lg=false
 |x::lg,hm=>by
  have ih:l∈lg->fD h base lg=false:=vR hl hb;by_cases hx:x=l
  ·subst hx;simp only[fD,fS hb,cond_true,hl]
  ·have hm':l∈lg:=by rcases List.mem_cons.1 hm with h1|h1;exact absurd h1.symm hx;exact h1
   simp only[fD,cond_eq_ite,ih hm'];split
   ·split<;>simp
   ·rfl
theorem F6{h1:Heap}{v:Value}{l:Nat}{a:Env}{b:List Nat}{c d:aR}{st:Nat}{p:bB}(hl:h1.get l=some (.loop a b c d st p))(hb:l<h.next)(hm:l∈h1.log):gcA h h1 v=h1:=by
 unfold gcA;rw[vR hl hb hm,Bool.and_false,cond_false]
theorem Af{b:Nat}{o:bG}(hb:b<base):(h.wr base b o).log=if fF h.log b=true then h.log else b::h.log:=by
 unfold Heap.wr;rw[fS hb];simp only[cond_eq_ite,if_true]
theorem dw{b z:Nat}{o:bG}(hz:z∈(h.wr base b o).log):z=b∨z∈h.log:=by
 by_cases hb:b<base
 ·rw[Af hb]at hz;by_cases hh:fF h.log b=true
  ·rw[if_pos hh]at hz;exact .inr hz
  ·rw[if_neg hh]at hz;exact List.mem_cons.1 hz
 ·rw[Heap.aB (by omega)]at hz;exact .inr hz
theorem lZ{b:Nat}{o:bG}(hb:b<base):b∈(h.wr base b o).log:=by
 rw[Af hb];by_cases hh:fF h.log b=true
 ·rw[if_pos hh];exact iX.1 hh
 ·rw[if_neg hh];exact List.mem_cons_self ..
structure YQX (l:Nat) (L LX:bG) (lo N n:Nat) (R S:Heap->Prop) (x:bB) (e:Env) (ds:Dfs) (h3:Heap):Prop where
 busy:∃o,h3.get l=some o/\busy o=true
 log:∀z∈h3.log,lo<=z/\z<N
 rel:(x= .normal/\∀h5:Heap,n<=h5.next->(∀z,z<n->z≠l->h5.get z=h3.get z)->h5.get l=some L->R h5)∨(x= .ret/\∀h5:Heap,h5.next=h3.next->(∀z,z≠l->h5.get z=h3.get z)->h5.get l=some LX->S h5)
structure YAX (T:Nat->Option an) (l:Nat) (e:Env) (ps:List Nat) (asg body:aR) (lo N n:Nat) (R S:Heap->Prop) (x:bB) (e2:Env) (ds2:Dfs) (h2:Heap):Prop where
 x:x= .normal
 loop:h2.get l=some (.loop e ps asg body 0 .normal)
 body:WE T n (some l) body (YQX l (.loop e ps asg body 0 .normal) (.loop e ps asg body 2 .ret) lo N n R S) e2 ds2 (h2.wr 0 l (.loop e ps asg body 1 .normal))
theorem FW.NF(hp:aF T){l lo N:Nat}{e e1:Env}{ps:List Nat}{asg body:aR}{args:List Value}{R S:Heap->Prop}(hl:h.get l=some (.loop e ps asg body 0 .normal))(he:jq e ps args=some e1)(hlN:l<h.next)(hlo:lo<=l/\l<N)
 (H:WE T h.next (some l) asg (YAX T l e ps asg body lo N h.next R S) e1 [] h):
 FW T (.yield l) args h λr h'=>(∀z∈h'.log,lo<=z/\z<N)/\(r= .ret (.bool true)/\R h'∨r= .ret (.bool false)/\l∈h'.log/\S h'):=by
 obtain⟨x,e2,ds2,h2,⟨m,hm⟩,⟨rfl,hl2,H2⟩⟩:=H.ok;obtain⟨x3,e3,ds3,h3,⟨m3,hm3⟩,⟨⟨o,ho,hb⟩,hlog,hrel⟩⟩:=H2.ok;have hnr:notReady (h2.get l)=false:=by rw[hl2];rfl
 have hloop:∃a b c d p,o= .loop a b c d 1 p:=by
  unfold A.busy at hb;split at hb
  ·exact⟨_,_,_,_,_,rfl⟩
  ·cases hb
 obtain⟨oa,ob,oc,od,op,rfl⟩:=hloop;rcases hrel with⟨rfl,hrel⟩|⟨rfl,hrel⟩
 ·have A1:=(eX.all hp m).exec _ _ _ _ _ _ _ _ _ _ (hm m (Nat.le_refl _)) (Nat.le_refl _);have A2:=(eX.all hp m3).exec _ _ _ _ _ _ _ _ _ _ (hm3 m3 (Nat.le_refl _)) A1.next
  have A3:AS 0 h (h3.wr 0 l (.loop e ps asg body 0 .normal)):=((A1.zero.trans (AS.wr 0 h2 l _)).trans A2.zero).trans (AS.wr 0 h3 l _);obtain⟨g1,g2,g3⟩:=zn (v:= .bool true) A3;refine⟨.ret (.bool true),gcA h (h3.wr 0 l (.loop e ps asg body 0 .normal)) (.bool true),⟨m+m3+1,λn hn=> ?_⟩,?_, .inl ⟨rfl,?_⟩⟩
  ·obtain⟨k,rfl⟩:∃k,n=k+1:=⟨n-1,by omega⟩;have q1:=hm k (by omega);have q2:=hm3 k (by omega);rw[←wr0]at q2;simp only[gu,hl,he,q1,hnr,cond_false,q2,ho];rfl
  ·rw[g3];exact hlog
  ·refine hrel _ g2 (λz hz hne=>(g1 z hz).trans (Heap.dV hne)) ((g1 l hlN).trans ?_);exact Heap.aI ho
 ·refine⟨.ret (.bool false),h3.wr h.next l (.loop e ps asg body 2 .ret),⟨m+m3+1,λn hn=> ?_⟩,?_, .inr ⟨rfl,lZ hlN,?_⟩⟩
  ·obtain⟨k,rfl⟩:∃k,n=k+1:=⟨n-1,by omega⟩;have q1:=hm k (by omega);have q2:=hm3 k (by omega);rw[←wr0]at q2;simp only[gu,hl,he,q1,hnr,cond_false,q2,ho]
  ·intro z hz;rcases dw hz with rfl|hz
   ·exact hlo
   ·exact hlog z hz
  ·exact hrel _ rfl (λz hne=>Heap.dV hne) (Heap.aI ho)
structure I7 {α:Type} (T:Nat->Option an) (lo N l:Nat) (V:α->Value) (all:List α) (P:List α->Heap->Prop) (S:Heap->Prop):Prop where
 pW:∀done x H,x∈all->Rdy H->N<=H.next->P done H->FW T (.yield l) [V x] H λr H'=>(∀z∈H'.log,lo<=z/\z<N)/\(r= .ret (.bool true)/\P (done++[x]) H'∨r= .ret (.bool false)/\l∈H'.log/\S H')
 eO:∀done H H',P done H->N<=H'.next->(∀x,x<N->H'.get x=H.get x)->P done H'
 PD:∀H m,S H->S {H with log:=m}
 GA:∀H,S H->∃a b c d,H.get l=some (.loop a b c d 2 .ret)
theorem I7.call(hp:aF T){α:Type}{lo N l:Nat}{V:α->Value}{all:List α}{P:List α->Heap->Prop}{S:Heap->Prop}(Y:I7 T lo N l V all P S){K:Env->Dfs->Heap->Prop}{dst:Option Nat}{done:List α}{x:α}(hx:x∈all)(hw:WF h)(hlo:lo<=h.next)(hN:N<=h.next)(hlb:l<base)(hP:P done h)
 (hK:∀h',Lk lo h h'→(∀z,N<=z->z<h.next->h'.get z=h.get z)->P (done++[x]) h'→K (cC e dst (.bool true)) ds h')
 (hX:∀h',Lk lo h h'→l∈h'.log->S h'→K (cC e dst (.bool false)) ds h'):FW T (.yield l) [V x] {h with log:=[]} (KO K Q base dst e ds h.log):=by
 refine FW.mono' (FW.BR hp (Y.pW done x _ hx (.of hw) hN (Y.eO _ _ _ hP hN λ_ _=>rfl)) rfl) ?_;rintro r h2 ⟨hA,hl,hq⟩;have hk:Lk lo {h with log:=[]} h2:=Lk.nr hA hlo λz hz=>(hl z hz).1;rcases hq with⟨rfl,hq⟩|⟨rfl,hm,hq⟩
 ·refine⟨hK _ hk.call (λz h1 h3=> ?_) (Y.eO _ _ _ hq (Nat.le_trans hN hA.next) λ_ _=>rfl)⟩;exact hA.same z h3 h3 (qX λhm=>by have:=(hl z hm).2;omega)
 ·exact⟨hX _ hk.call (mem_merge hlb hm) (Y.PD _ _ hq)⟩
def GrX(T:Nat->Option an)(f:Nat)(args:List Value)(h:Heap)(lo:Nat)(P S:Heap->Prop):Prop:=CW T f args h λr h'=>Lk lo h h'∧∃v,r= .ret v/\(P h'∨S h')
structure RA (rs:List (Nat×Option (Option Nat))) (lo l:Nat) (P S:Heap->Prop) (x:bB) (e:Env) (ds:Dfs) (h1:Heap):Prop where
 ok:(x= .normal∨x= .ret)/\ds=[]/\eF lo h1.log/\(∃vs,bR h1 e rs=some vs)/\(P h1∨l∈h1.log/\S h1)
theorem JS{rs:List (Nat×Option (Option Nat))}{lo l:Nat}{P S:Heap->Prop}{vs:List Value}(hl:eF lo h.log)(hr:bR h e rs=some vs)(hm:l∈h.log)(hq:S h):RA rs lo l P S .ret e [] h:=⟨⟨.inr rfl,rfl,hl,⟨vs,hr⟩, .inr ⟨hm,hq⟩⟩⟩
theorem JQ{rs:List (Nat×Option (Option Nat))}{lo l:Nat}{P S:Heap->Prop}{vs:List Value}(hl:eF lo h.log)(hr:bR h e rs=some vs)(hq:P h):RA rs lo l P S .normal e [] h:=⟨⟨.inl rfl,rfl,hl,⟨vs,hr⟩, .inl hq⟩⟩
theorem GrX.of(hp:aF T){f:Nat}{args:List Value}{c:aR}{rs:List (Nat×Option (Option Nat))}{lo l:Nat}{P S:Heap->Prop}(hf:T f=some (.code c rs))(hlo:lo<=h.next)(hlN:l<h.next)
 (hP:∀h1 h2:Heap,h.next<=h2.next->(∀x,x<h.next->h2.get x=h1.get x)->P h1->P h2)(hS:∀H,S H->∃a b c d,H.get l=some (.loop a b c d 2 .ret))(H:WE T h.next none c (RA rs lo l P S) (dZ 0 args) [] h):GrX T f args h lo P S:=by
 obtain⟨x,e,ds,h1,⟨m,hm⟩,⟨hx,rfl,hl,⟨vs,hvs⟩,hq⟩⟩:=H.ok;have hA:=(eX.all hp m).exec _ _ _ _ _ _ _ _ _ _ (hm m (Nat.le_refl _)) (Nat.le_refl _);obtain⟨g1,g2,g3,g4⟩:=lN (v:=eE vs) hA;have key:Lk lo h (gcA h h1 (eE vs))/\∃v,Res.ret (eE vs)= .ret v/\(P (gcA h h1 (eE vs))∨S (gcA h h1 (eE vs))):=by
  refine⟨Lk.nr (hA.gc' _) hlo (by rw[g3];exact hl),_,rfl,?_⟩;rcases hq with hq|⟨hml,hq⟩
  ·exact .inl (hP _ _ g2 g1 hq)
  ·obtain⟨a,b,c,d,hlp⟩:=hS _ hq;rw[F6 hlp hlN hml];exact .inr hq
 refine CW.code hf ⟨x,e,[],h1,⟨m,hm⟩,?_⟩;unfold vZ;rcases hx with rfl|rfl<;>(simp only[hvs];exact key)
theorem sC{base:Nat}:∀{m l:List Nat},eF base m->aC base l m=l
 |[],_,_=>rfl
 |b::m,l,h=>by
  have hb:=h b (List.mem_cons_self ..);simp only[aC,sE (show¬b<base by omega),cond_false];exact sC λx hx=>h x (List.mem_cons_of_mem _ hx)
theorem Ae{h1:Heap}{f:Operand}{g lo:Nat}{first cap:Array Value}{ps:List Nat}{asg body:aR}{P S:Heap->Prop}(hr:oq h1 rnd=true)(hf:ev h1 e f=some (.func (.func g) first cap))(hnc:gi (T g)=false)
 (hlo:base<=lo)(hlo2:lo<=h1.next)(hlog:h1.log=[])(w1:WF h1)
 (HG:GrX T g (eD first.toList (eD [.func (.yield h1.next) #[] #[]] cap.toList)) {h1.push (.loop e ps asg body 0 .normal)with log:=[]} lo P S)
 (hP:∀H,P H->∃a b c d,H.get h1.next=some (.loop a b c d 0 .normal))(hS:∀H,S H->∃a b c d,H.get h1.next=some (.loop a b c d 2 .ret))
 (K1:∀h2 h3:Heap,h3.log=[]->WF h3->h1.next<h3.next->h3.next=h2.next->(∀z,z≠h1.next->h3.get z=h2.get z)->P h2->Q .normal e ds h3)
 (K2:∀h2 h3:Heap,h3.log=[]->WF h3->h1.next<h3.next->h3.next=h2.next->(∀z,z≠h1.next->h3.get z=h2.get z)->S h2->Q .ret e ds h3):WE T base rnd (.rangeFunc f ps asg body) Q e ds h1:=by
 refine sY hr hf hnc (CW.mono HG ?_);rintro r h2 ⟨hk,v,rfl,hq⟩;have hl2:eF base h2.log:=λz hz=>Nat.le_trans hlo (hk.log (eF.nil _) z hz);have q1:(({h2 with log:=aC base h1.log h2.log}:Heap).wr base h1.next .dead).log=[]:=by
  rw[Heap.aB (by omega)];show aC base h1.log h2.log=[];rw[sC hl2,hlog]
 have q2:WF (({h2 with log:=aC base h1.log h2.log}:Heap).wr base h1.next .dead):=((hk.wf ((w1.push _).log _)).log _).as (AS.wr _ _ _ _);have q3:h1.next<h2.next:=hk.next
 have q4:∀z,z≠h1.next->(({h2 with log:=aC base h1.log h2.log}:Heap).wr base h1.next .dead).get z=h2.get z:=λz hne=>Heap.dV hne
 rcases hq with hq|hq
 ·obtain⟨a,b,c,d,hl⟩:=hP _ hq;exact⟨_,rfl,_,_,_,_,_,_,hl,rfl,K1 h2 _ q1 q2 q3 rfl q4 hq⟩
 ·obtain⟨a,b,c,d,hl⟩:=hS _ hq;exact⟨_,rfl,_,_,_,_,_,_,hl,rfl,K2 h2 _ q1 q2 q3 rfl q4 hq⟩
structure Xq {α:Type} (px:bB) (T:Nat->Option an) (lo N l:Nat) (V:α->List Value) (all:List α) (P:List α->Heap->Prop) (S:Heap->Prop):Prop where
 pW:∀done x H,x∈all->Rdy H->N<=H.next->P done H->FW T (.yield l) (V x) H λr H'=>(∀z∈H'.log,lo<=z/\z<N)/\(r= .ret (.bool true)/\P (done++[x]) H'∨r= .ret (.bool false)/\l∈H'.log/\S H')
 eO:∀done H H',P done H->N<=H'.next->(∀x,x<N->H'.get x=H.get x)->P done H'
 PD:∀H m,S H->S {H with log:=m}
 GA:∀H,S H->∃a b c d,H.get l=some (.loop a b c d 2 px)
theorem Nn{b:aR}(H:WE T base rnd b Q e ds h):WE T base rnd (.scope b) Q e ds h:=by
 obtain⟨x,e',ds',h',⟨m,h1⟩,h2⟩:=H.ok;exact⟨_,_,_,_,⟨m+1,λn hn=>by
  obtain⟨k,rfl⟩:∃k,n=k+1:=⟨n-1,by omega⟩;simp only[cB,h1 k (by omega)]⟩,h2⟩
def iB(h:Heap)(q:Nat):Prop:=∃vs own t,h.get q=some (.cells vs own t)/\cV vs=false
theorem uq{q n:Nat}(hq:q<n)(hd:iB h q):∀{l:List Nat},q∈l->fD h n l=false
 |b::l,hm=>by
  obtain⟨vs,own,t,g,hs⟩:=hd;rcases List.mem_cons.1 hm with rfl|hm
  ·simp only[fD,fS hq,cond_true,g,hs,cond_false]
  ·have ih:=uq hq ⟨vs,own,t,g,hs⟩ hm;simp only[fD];split<;>simp[ih,cond_eq_ite]
theorem rX{h1:Heap}{v:Value}{q:Nat}(hq:q<h.next)(hm:q∈h1.log)(hd:iB h1 q):gcA h h1 v=h1:=by
 unfold gcA;rw[uq hq hd hm,Bool.and_false];rfl
theorem Oq{v:Value}(hl:h.log=[]):∀x,(gcA h h v).get x=h.get x:=by
 intro x;unfold gcA;rw[hl];cases cG v<;>simp[fD,mX,Heap.get,aT]
structure YQK (l q:Nat) (L:bG) (lo n:Nat) (R:Heap->Prop) (x:bB) (e:Env) (ds:Dfs) (h3:Heap):Prop where
 x:x= .normal
 busy:∃o,h3.get l=some o/\busy o=true
 log:∀z∈h3.log,lo<=z
 kept:q∈h3.log
 Xn:iB h3 q
 rel:R (h3.wr 0 l L)
structure YAK (T:Nat->Option an) (l q:Nat) (e:Env) (ps:List Nat) (asg body:aR) (lo n:Nat) (R:Heap->Prop) (x:bB) (e2:Env) (ds2:Dfs) (h2:Heap):Prop where
 x:x= .normal
 loop:h2.get l=some (.loop e ps asg body 0 .normal)
 body:WE T n (some l) body (YQK l q (.loop e ps asg body 0 .normal) lo n R) e2 ds2 (h2.wr 0 l (.loop e ps asg body 1 .normal))
theorem FW.FA(hp:aF T){l q lo:Nat}{e e1:Env}{ps:List Nat}{asg body:aR}{args:List Value}{R:Heap->Prop}(hl:h.get l=some (.loop e ps asg body 0 .normal))(he:jq e ps args=some e1)(hlN:l<h.next)(hq:q<h.next)(hql:q≠l)
 (H:WE T h.next (some l) asg (YAK T l q e ps asg body lo h.next R) e1 [] h):FW T (.yield l) args h λr h'=>r= .ret (.bool true)/\(∀z∈h'.log,lo<=z)/\q∈h'.log/\R h':=by
 obtain⟨x,e2,ds2,h2,⟨m,hm⟩,⟨rfl,hl2,H2⟩⟩:=H.ok;obtain⟨x3,e3,ds3,h3,⟨m3,hm3⟩,⟨rfl,⟨o,ho,hb⟩,hlog,hk,⟨vs,own,t,gq,hs⟩,hrel⟩⟩:=H2.ok;have hnr:notReady (h2.get l)=false:=by rw[hl2];rfl
 have hloop:∃a b c d p,o= .loop a b c d 1 p:=by
  unfold A.busy at hb;split at hb
  ·exact⟨_,_,_,_,_,rfl⟩
  ·cases hb
 obtain⟨oa,ob,oc,od,op,rfl⟩:=hloop;have hgc:gcA h (h3.wr 0 l (.loop e ps asg body 0 .normal)) (.bool true)=h3.wr 0 l (.loop e ps asg body 0 .normal):=rX (q:=q) hq (by rw[Heap.aB (by omega)];exact hk) ⟨vs,own,t,(Heap.dV hql).trans gq,hs⟩;refine⟨.ret (.bool true),gcA h (h3.wr 0 l (.loop e ps asg body 0 .normal)) (.bool true),⟨m+m3+1,λn hn=> ?_⟩,rfl,?_,?_,?_⟩
 ·obtain⟨k,rfl⟩:∃k,n=k+1:=⟨n-1,by omega⟩;have q1:=hm k (by omega);have q2:=hm3 k (by omega);rw[←wr0]at q2;simp only[gu,hl,he,q1,hnr,cond_false,q2,ho];rfl
 ·rw[hgc,Heap.aB (by omega)];exact hlog
 ·rw[hgc,Heap.aB (by omega)];exact hk
 ·rw[hgc];exact hrel
structure Cb {α:Type} (T:Nat->Option an) (lo N l q:Nat) (V:α->Value) (all:List α) (P:List α->Heap->Prop):Prop where
 hq:q<N
 pW:∀done x rest H,all=done++x::rest->Rdy H->N<=H.next->P done H->FW T (.yield l) [V x] H λr H'=>r= .ret (.bool true)/\(∀z∈H'.log,lo<=z)/\q∈H'.log/\iB H' q/\P (done++[x]) H'
 eO:∀done H H',P done H->H.next<=H'.next->(∀x,x<H.next->H'.get x=H.get x)->P done H'
theorem Cb.call(hp:aF T){α:Type}{lo N l q:Nat}{V:α->Value}{all:List α}{P:List α->Heap->Prop}(Y:Cb T lo N l q V all P){K:Env->Dfs->Heap->Prop}{dst:Option Nat}{done rest:List α}{x:α}(hx:all=done++x::rest)(hw:WF h)(hlo:lo<=h.next)(hN:N<=h.next)(hqb:q<base)(hP:P done h)
 (hK:∀h',Lk lo h h'→q∈h'.log/\iB h' q->P (done++[x]) h'→K (cC e dst (.bool true)) ds h'):FW T (.yield l) [V x] {h with log:=[]} (KO K Q base dst e ds h.log):=by
 refine FW.mono' (FW.BR hp (Y.pW done x rest _ hx (.of hw) hN (Y.eO _ _ _ hP (Nat.le_refl _) λ_ _=>rfl)) rfl) ?_;rintro r h2 ⟨hA,rfl,hl,hm,hd,hq⟩;have hk:Lk lo {h with log:=[]} h2:=Lk.nr hA hlo λz hz=>hl z hz;exact⟨hK _ hk.call ⟨mem_merge hqb hm,hd⟩ (Y.eO _ _ _ hq (Nat.le_refl _) λ_ _=>rfl)⟩
theorem Gr.ofK(hp:aF T){f:Nat}{args:List Value}{c:aR}{rs:List (Nat×Option (Option Nat))}{lo:Nat}{Q Q':Value->Heap->Prop}(hf:T f=some (.code c rs))(hlo:lo<=h.next)
 (hQ:∀v h1,AS h.next h h1->Q v h1->Q' v (gcA h h1 v))(H:WE T h.next none c (Ry rs lo Q) (dZ 0 args) [] h):Gr T f args h lo Q':=by
 obtain⟨x,e,ds,h1,⟨m,hm⟩,⟨hx,rfl,hl,vs,hvs,hq⟩⟩:=H.ok;have hA:=(eX.all hp m).exec _ _ _ _ _ _ _ _ _ _ (hm m (Nat.le_refl _)) (Nat.le_refl _);obtain⟨g1,g2,g3,g4⟩:=lN (v:=eE vs) hA;have key:Lk lo h (gcA h h1 (eE vs))/\∃v,Res.ret (eE vs)= .ret v/\Q' v (gcA h h1 (eE vs)):=
  ⟨Lk.nr (hA.gc' _) hlo (by rw[g3];exact hl),_,rfl,hQ _ _ hA hq⟩
 refine CW.code hf ⟨x,e,[],h1,⟨m,hm⟩,?_⟩;unfold vZ;rcases hx with rfl|rfl<;>(simp only[hvs];exact key)
theorem Gc{α:Type}{lo N l q:Nat}{V:α->Value}{all done:List α}{P:List α->Heap->Prop}(Y:Cb T lo N l q V all P){v:Value}{h1:Heap}(hq:q<h.next)(hA:AS h.next h h1)(hlog:h.log=[])(p:v= .tuple #[]/\P done h1/\(h1=h∨q∈h1.log/\iB h1 q)):v= .tuple #[]/\P done (gcA h h1 v):=by
 obtain⟨hv,hP,hm⟩:=p;refine⟨hv,?_⟩;rcases hm with rfl|⟨hm,hd⟩
 ·exact Y.eO _ _ _ hP (lN hA).2.1 λx _=>Oq hlog x
 ·rw[rX hq hm hd];exact hP
theorem Ac{h1:Heap}{f:Operand}{g lo:Nat}{first cap:Array Value}{ps:List Nat}{asg body:aR}{P:Heap->Prop}(hr:oq h1 rnd=true)(hf:ev h1 e f=some (.func (.func g) first cap))(hnc:gi (T g)=false)
 (hlo:base<=lo)(hlo2:lo<=h1.next)(hlog:h1.log=[])(w1:WF h1)
 (HG:Gr T g (eD first.toList (eD [.func (.yield h1.next) #[] #[]] cap.toList)) {h1.push (.loop e ps asg body 0 .normal)with log:=[]} lo λv h'=>v= .tuple #[]/\P h')
 (hP:∀H,P H->∃a b c d,H.get h1.next=some (.loop a b c d 0 .normal))
 (K:∀h2 h3:Heap,h3.log=[]->WF h3->h1.next<h3.next->h3.next=h2.next->(∀z,z≠h1.next->h3.get z=h2.get z)->(∀z,z<lo->h3.get z=h1.get z)->P h2->Q .normal e ds h3):WE T base rnd (.rangeFunc f ps asg body) Q e ds h1:=by
 refine sY hr hf hnc (CW.mono HG ?_);rintro r h2 ⟨hk,v,rfl,rfl,hq⟩;have hl2:eF base h2.log:=λz hz=>Nat.le_trans hlo (hk.log (eF.nil _) z hz);have q1:(({h2 with log:=aC base h1.log h2.log}:Heap).wr base h1.next .dead).log=[]:=by
  rw[Heap.aB (by omega)];show aC base h1.log h2.log=[];rw[sC hl2,hlog]
 have q2:WF (({h2 with log:=aC base h1.log h2.log}:Heap).wr base h1.next .dead):=((hk.wf ((w1.push _).log _)).log _).as (AS.wr _ _ _ _);have q3:h1.next<h2.next:=hk.next
 have q4:∀z,z≠h1.next->(({h2 with log:=aC base h1.log h2.log}:Heap).wr base h1.next .dead).get z=h2.get z:=λz hne=>Heap.dV hne
 obtain⟨a,b,c,d,hl⟩:=hP _ hq;refine⟨_,rfl,_,_,_,_,_,_,hl,rfl,K h2 _ q1 q2 q3 rfl q4 (λz hz=>(q4 z (by omega)).trans ((hk.old z hz).trans ?_)) hq⟩;exact Heap.ew (by omega)
structure GP {α:Type} (T:Nat->Option an) (lo N l q:Nat) (V:α->List Value) (all:List α) (P:List α->Heap->Prop) (W:Heap->Nat->Prop):Prop where
 hq:q<N
 pW:∀done x H,x∈all->done.length<100000->Rdy H->N<=H.next->P done H->FW T (.yield l) (V x) H λr H'=>r= .ret (.bool true)/\(∀z∈H'.log,lo<=z)/\q∈H'.log/\iB H' q/\P (done++[x]) H'∧(∀z,z<H.next->¬W H z->H'.get z=H.get z)/\(∀z,W H' z->W H z∨H.next<=z)
 eO:∀done H H',P done H->H.next<=H'.next->(∀x,x<H.next->H'.get x=H.get x)->P done H'
 wst:∀done H H',P done H->H.next<=H'.next->(∀x,x<H.next->H'.get x=H.get x)->∀z,W H' z->W H z
 wlt:∀done H z,P done H->W H z->z<H.next
theorem GP.call(hp:aF T){α:Type}{lo N l q:Nat}{V:α->List Value}{all:List α}{P:List α->Heap->Prop}{W:Heap->Nat->Prop}(Y:GP T lo N l q V all P W){K:Env->Dfs->Heap->Prop}{dst:Option Nat}{done:List α}{x:α}(hx:x∈all)(hlen:done.length<100000)(hw:WF h)(hlo:lo<=h.next)(hN:N<=h.next)(hqb:q<base)(hP:P done h)
 (hK:∀h',Lk lo h h'→q∈h'.log/\iB h' q->P (done++[x]) h'→(∀z,z<h.next->¬W h z->h'.get z=h.get z)->(∀z,W h' z->W h z∨h.next<=z)->K (cC e dst (.bool true)) ds h'):FW T (.yield l) (V x) {h with log:=[]} (KO K Q base dst e ds h.log):=by
 have hP0:P done {h with log:=[]}:=Y.eO _ _ _ hP (Nat.le_refl _) λ_ _=>rfl;refine FW.mono' (FW.BR hp (Y.pW done x _ hx hlen (.of hw) hN hP0) rfl) ?_;rintro r h2 ⟨hA,rfl,hl,hm,hd,hq,hk1,hk2⟩;have hk:Lk lo {h with log:=[]} h2:=Lk.nr hA hlo λz hz=>hl z hz;refine⟨hK _ hk.call ⟨mem_merge hqb hm,hd⟩ (Y.eO _ _ _ hq (Nat.le_refl _) λ_ _=>rfl) (λz hz hn=>hk1 z hz λq=>hn (Y.wst _ h {h with log:=[]} hP (Nat.le_refl _) (λ_ _=>rfl) z q)) λz hz=> ?_⟩;have h3:=Y.wst _ h2 {h2 with log:=aC base h.log h2.log} hq (Nat.le_refl _) (λ_ _=>rfl) z hz;exact(hk2 z h3).imp (λq=>Y.wst _ h {h with log:=[]} hP (Nat.le_refl _) (λ_ _=>rfl) z q) id
theorem Kv{α:Type}{lo N l q:Nat}{V:α->List Value}{all done:List α}{P:List α->Heap->Prop}{W:Heap->Nat->Prop}(Y:GP T lo N l q V all P W){v:Value}{h1:Heap}(hq:q<h.next)(hA:AS h.next h h1)(p:v= .tuple #[]/\P done h1/\(((∀x,x<h.next->h1.get x=h.get x)/\P done h)∨q∈h1.log/\iB h1 q)):v= .tuple #[]/\P done (gcA h h1 v):=by
 obtain⟨hv,hP,hm⟩:=p;refine⟨hv,?_⟩;rcases hm with⟨he,h0⟩|⟨hm,hd⟩
 ·obtain⟨g1,g2,_⟩:=lN (v:=v) hA;exact Y.eO _ _ _ h0 g2 λx hx=>(g1 x hx).trans (he x hx)
 ·rw[rX hq hm hd];exact hP
structure Xr (rs:List (Nat×Option (Option Nat))) (S:Nat->Prop) (Q Qp:Value->Heap->Prop) (x:bB) (e:Env) (ds:Dfs) (h1:Heap):Prop where
 ok:ds=[]/\(∀z∈h1.log,S z)/\(((x= .normal∨x= .ret)/\∃vs,bR h1 e rs=some vs/\Q (eE vs) h1)∨∃v,x= .panic v/\Qp v h1)
structure SE (T:Nat->Option an) (base:Nat) (c:aR) (K:bB->Env->Option Value->Heap->Prop) (e:Env) (p:Option Value) (h:Heap):Prop where
 ok:∃x e' p' h',(∃m,∀n,m<=n->iP T n base c e p h=some (x,e',p',h'))/\K x e' p' h'
variable {p:Option Value} {K:bB->Env->Option Value->Heap->Prop} {KO':Env->Option Value->Heap->Prop}
end Go.A
end
section
namespace Go.A
variable {T:Nat->Option an} {base:Nat} {rnd:Option Nat} {Q Q':XQ} {e e2:Env} {ds:Dfs} {h:Heap} {os:List aV} {dst:Option Nat} {v u:Value} {x y:Operand} {keep k2:List Nat} {K:Env->Dfs->Heap->Prop}
theorem y1(H:Q .normal e2 ds h)(he:bO e keep=e2:=by simp only[bO,cC,geT,dZ,cond_true,cond_false,Nat.beq];exact rfl):KR keep Q .normal e ds h:=UM he H
theorem y3(H:K e2 ds h)(he:bO e keep=e2:=by simp only[bO,cC,geT,dZ,cond_true,cond_false,Nat.beq];exact rfl):WO T base rnd (KR keep (KS K Q)) [] e ds h:=bL (UM he (Ku H))
theorem y4{b:aR}(H:WO T base rnd (KR keep (KS (WE T base rnd b Q) Q)) os e ds h):WE T base rnd (.seq (.region os keep) b) Q e ds h:=BQ (tY H)
theorem yM(H:WO T base rnd Q os (cC e dst v) ds h)(hx:ev h e x=some v:=by exact rfl):WO T base rnd Q (⟨dst, .mov x,none⟩::os) e ds h:=aD (eG hx) H
theorem yE{i:Nat}{vs:Array Value}(H:WO T base rnd Q os (cC e dst v) ds h)(hx:ev h e x=some (.tuple vs):=by exact rfl)(hv:bH vs.toList i=some v:=by exact rfl):WO T base rnd Q (⟨dst, .extract x i,none⟩::os) e ds h:=aD (yZ hx hv) H
theorem yL{b o sz:Nat}{vs:List Value}{own:Bool}(H:WO T base rnd Q os (cC e dst v) ds h)(hx:ev h e x=some (.pointer (some ⟨b,o,none⟩)):=by exact rfl)
 (hb:h.get b=some (.cells vs own sz):=by first|assumption|exact z3 _ _|exact Go.A.z8 (by omega) (by omega)|(simp(disch:=first|omega|(simp only[z1,z2];omega))only[z3,z4,z5,z6,z7,z1,z2, *];done)|(simp(disch:=first|omega|(simp only[z1,z2];omega))only[z3,z4,z5,z6,z7,z1,z2, *];exact rfl)|(simp(disch:=first|omega|(simp only[z1,z2];omega)|(simp only[z1,z2];done)|fail)only[z8,z4,z5,z9,z7,z1,z2, *];done)|(simp(disch:=first|omega|(simp only[z1,z2];omega)|(simp only[z1,z2];done)|fail)only[z8,z4,z5,z9,z7,z1,z2, *];exact rfl))
 (hv:bH vs o=some v:=by exact rfl):WO T base rnd Q (⟨dst, .load none x,none⟩::os) e ds h:=aD (bY hx hb hv) H
theorem yN{n b o sz:Nat}{vs l:List Value}{own:Bool}(H:WO T base rnd Q os (cC e dst (.agg l.toArray)) ds h)(hx:ev h e x=some (.pointer (some ⟨b,o,none⟩)):=by exact rfl)
 (hb:h.get b=some (.cells vs own sz):=by first|assumption|exact z3 _ _|exact Go.A.z8 (by omega) (by omega)|(simp(disch:=first|omega|(simp only[z1,z2];omega))only[z3,z4,z5,z6,z7,z1,z2, *];done)|(simp(disch:=first|omega|(simp only[z1,z2];omega))only[z3,z4,z5,z6,z7,z1,z2, *];exact rfl)|(simp(disch:=first|omega|(simp only[z1,z2];omega)|(simp only[z1,z2];done)|fail)only[z8,z4,z5,z9,z7,z1,z2, *];done)|(simp(disch:=first|omega|(simp only[z1,z2];omega)|(simp only[z1,z2];done)|fail)only[z8,z4,z5,z9,z7,z1,z2, *];exact rfl))
 (hv:cw n (bU o vs)=l:=by exact rfl)(hl:Nat.beq (cm l) n=true:=by exact rfl):WO T base rnd Q (⟨dst, .load (some n) x,none⟩::os) e ds h:=aD (dh hx hb hv hl) H
theorem yS{n b o sz:Nat}{vs ws:List Value}(H:WO T base rnd Q os (cC e dst (.tuple #[])) ds (h.wr base b (.cells ws true sz)))(hx:ev h e x=some (.pointer (some ⟨b,o,none⟩)):=by exact rfl)(hy:ev h e y=some v:=by exact rfl)
 (hb:h.get b=some (.cells vs true sz):=by first|assumption|exact z3 _ _|exact Go.A.z8 (by omega) (by omega)|(simp(disch:=first|omega|(simp only[z1,z2];omega))only[z3,z4,z5,z6,z7,z1,z2, *];done)|(simp(disch:=first|omega|(simp only[z1,z2];omega))only[z3,z4,z5,z6,z7,z1,z2, *];exact rfl)|(simp(disch:=first|omega|(simp only[z1,z2];omega)|(simp only[z1,z2];done)|fail)only[z8,z4,z5,z9,z7,z1,z2, *];done)|(simp(disch:=first|omega|(simp only[z1,z2];omega)|(simp only[z1,z2];done)|fail)only[z8,z4,z5,z9,z7,z1,z2, *];exact rfl))
 (hc:(Nat.beq (cm (cellsOf v)) n&&Nat.ble (o+n) (cm vs)&&dY (cellsOf v))=true:=by exact rfl)(hw:cU vs o (cellsOf v)=ws:=by exact rfl):WO T base rnd Q (⟨dst, .store n x y,none⟩::os) e ds h:=aD (jy hx hy hb hc hw) H
theorem yF{off b o:Nat}(H:WO T base rnd Q os (cC e dst (.pointer (some ⟨b,o+off,none⟩))) ds h)(hx:ev h e x=some (.pointer (some ⟨b,o,none⟩)):=by exact rfl):WO T base rnd Q (⟨dst, .dN off x,none⟩::os) e ds h:=aD (cT hx) H
theorem yB{vs:List Value}(H:WO T base rnd Q os (cC e dst (.pointer (some ⟨h.next,0,none⟩))) ds (h.push (.cells vs true 1)))(hx:ev h e x=some v:=by exact rfl)(hc:cellsOf v=vs:=by exact rfl):WO T base rnd Q (⟨dst, .box x,none⟩::os) e ds h:=aD (TF hx hc) H
theorem yT{c:Operand}(H:WO T base rnd Q os (cC e dst v) ds h)(hc:ev h e c=some (.bool true):=by exact rfl)(hx:ev h e x=some v:=by exact rfl):WO T base rnd Q (⟨dst, .pick c x y,none⟩::os) e ds h:=aD (uR hc hx) H
theorem yU{c:Operand}(H:WO T base rnd Q os (cC e dst v) ds h)(hc:ev h e c=some (.bool false):=by exact rfl)(hx:ev h e y=some v:=by exact rfl):WO T base rnd Q (⟨dst, .pick c x y,none⟩::os) e ds h:=aD (Am hc hx) H
theorem yO{op:AOp}{t:Nat}{b:Bool}(H:WO T base rnd Q (⟨dst,op,none⟩::os) e ds h)(hg:geT e t=some (.bool b):=by exact rfl):WO T base rnd Q (⟨dst,op,some (t,b)⟩::os) e ds h:=Vy hg H
theorem yP{op:AOp}{t:Nat}{b c:Bool}(H:WO T base rnd Q os (cC e dst (.tuple #[])) ds h)(hg:geT e t=some (.bool c):=by exact rfl)(hx:c= !b:=by exact rfl):WO T base rnd Q (⟨dst,op,some (t,b)⟩::os) e ds h:=Tg hg hx H
theorem yC{f:Operand}{args:List Operand}{fv:Value}{as:List Value}{g:Nat}{first cap:Array Value}{all:List Value}(H:FW T (.func g) all {h with log:=[]} (KO (WO T base rnd Q os) Q base dst e ds h.log))(hf:ev h e f=some fv:=by exact rfl)(ha:evs h e args=some as:=by exact rfl)(hv:fv= .func (.func g) first cap:=by exact rfl)(hl:eD first.toList (eD as cap.toList)=all:=by exact rfl):
 WO T base rnd Q (⟨dst, .call f args,none⟩::os) e ds h:=kZ (vE hf ha hv hl) H
theorem yX{c:Operand}{a b:aR}(H:WE T base rnd b Q e ds h)(hc:ev h e c=some (.bool false):=by exact rfl):WE T base rnd (.cond c a b) Q e ds h:=Nl hc H
theorem yY{c:Operand}{a b:aR}(H:WE T base rnd a Q e ds h)(hc:ev h e c=some (.bool true):=by exact rfl):WE T base rnd (.cond c a b) Q e ds h:=Qb hc H
theorem yA{b:Bool}(H:WO T base rnd Q os (cC e dst (.bool !b)) ds h)(hx:ev h e x=some (.bool b):=by exact rfl):WO T base rnd Q (⟨dst, .un .not x,none⟩::os) e ds h:=aD (QE hx) H
theorem yD{a:Option Addr}{n c:Nat}(H:WO T base rnd Q os (cC e dst (.int .i64 n)) ds h)(hx:ev h e x=some (.slice a n c):=by exact rfl):WO T base rnd Q (⟨dst, .len 1 x,none⟩::os) e ds h:=aD (Ai hx) H
section
variable {k:IntKind} {a b:Int}
theorem yt{op:BinOp}{u:Value}(H:WO T base rnd Q os (cC e dst (.bool true)) ds h)(hx:ev h e x=some v:=by exact rfl)(hy:ev h e y=some u:=by exact rfl)(hv:aq op v u=some (.bool true):=by first|exact tJ (by omega)|exact rf (by omega)|exact ei (by omega)|exact jD (by omega)|exact wK (by omega)|exact jE (by omega)):
 WO T base rnd Q (⟨dst, .bin (.num op) x y,none⟩::os) e ds h:=aD (vI hx hy hv) H
theorem yf{op:BinOp}{u:Value}(H:WO T base rnd Q os (cC e dst (.bool false)) ds h)(hx:ev h e x=some v:=by exact rfl)(hy:ev h e y=some u:=by exact rfl)(hv:aq op v u=some (.bool false):=by first|exact nY (by omega)|exact qZ (by omega)|exact eH (by omega)|exact ji (by omega)|exact pq (by omega)|exact tK (by omega)):
 WO T base rnd Q (⟨dst, .bin (.num op) x y,none⟩::os) e ds h:=aD (vI hx hy hv) H
theorem Xl{n:Nat}(H:WO T base rnd Q os (cC e dst (.int .i64 (n+1:Nat))) ds h)(hx:ev h e x=some (.int .i64 n):=by exact rfl)(hy:ev h e y=some (.int .i64 1):=by exact rfl)(hn:n<9223372036854775807:=by omega):WO T base rnd Q (⟨dst, .bin (.num .add) x y,none⟩::os) e ds h:=aD (vI hx hy (UT hn)) H
end
section
variable {ops:List aV} {bf:List Nat} {rs:List Rec} {R:Env->Heap->Prop} {i mask:Nat} {is:List Nat} {g:Option (Nat×Bool)} {er:Env}
theorem qM(H:WD T base ops bf R is (⟨i,⟨dst, .mov x,g⟩,er,v, .quiet⟩::rs) (cC e dst v) h)(ho:bH ops i=some ⟨dst, .mov x,g⟩:=by exact rfl)(hm:bH bf i=some mask:=by exact rfl)(he:bO e (cS ⟨dst, .mov x,g⟩)=er:=by exact rfl)(hw:bN er g=some true:=by exact rfl)(hx:ev h er x=some v:=by exact rfl):WD T base ops bf R (i::is) rs e h:=bW ho hm he hw rfl rfl (eG hx) H
theorem qF{off b o:Nat}(H:WD T base ops bf R is (⟨i,⟨dst, .dN off x,g⟩,er, .pointer (some ⟨b,o+off,none⟩), .quiet⟩::rs) (cC e dst (.pointer (some ⟨b,o+off,none⟩))) h)(ho:bH ops i=some ⟨dst, .dN off x,g⟩:=by exact rfl)(hm:bH bf i=some mask:=by exact rfl)(he:bO e (cS ⟨dst, .dN off x,g⟩)=er:=by exact rfl)(hw:bN er g=some true:=by exact rfl)(hx:ev h er x=some (.pointer (some ⟨b,o,none⟩)):=by exact rfl):
 WD T base ops bf R (i::is) rs e h:=bW ho hm he hw rfl rfl (cT hx) H
theorem qL{b o sz:Nat}{vs:List Value}{own:Bool}(H:WD T base ops bf R is (⟨i,⟨dst, .load none x,g⟩,er,v, .quiet⟩::rs) (cC e dst v) h)(ho:bH ops i=some ⟨dst, .load none x,g⟩:=by exact rfl)(hm:bH bf i=some mask:=by exact rfl)(he:bO e (cS ⟨dst, .load none x,g⟩)=er:=by exact rfl)(hw:bN er g=some true:=by exact rfl)(hx:ev h er x=some (.pointer (some ⟨b,o,none⟩)):=by exact rfl)
 (hb:h.get b=some (.cells vs own sz):=by first|assumption|exact z3 _ _|exact Go.A.z8 (by omega) (by omega)|(simp(disch:=first|omega|(simp only[z1,z2];omega))only[z3,z4,z5,z6,z7,z1,z2, *];done)|(simp(disch:=first|omega|(simp only[z1,z2];omega))only[z3,z4,z5,z6,z7,z1,z2, *];exact rfl)|(simp(disch:=first|omega|(simp only[z1,z2];omega)|(simp only[z1,z2];done)|fail)only[z8,z4,z5,z9,z7,z1,z2, *];done)|(simp(disch:=first|omega|(simp only[z1,z2];omega)|(simp only[z1,z2];done)|fail)only[z8,z4,z5,z9,z7,z1,z2, *];exact rfl))
 (hv:bH vs o=some v:=by exact rfl):WD T base ops bf R (i::is) rs e h:=bW ho hm he hw rfl rfl (bY hx hb hv) H
theorem qN{n b o sz:Nat}{vs l:List Value}{own:Bool}(H:WD T base ops bf R is (⟨i,⟨dst, .load (some n) x,g⟩,er, .agg l.toArray, .quiet⟩::rs) (cC e dst (.agg l.toArray)) h)(ho:bH ops i=some ⟨dst, .load (some n) x,g⟩:=by exact rfl)(hm:bH bf i=some mask:=by exact rfl)(he:bO e (cS ⟨dst, .load (some n) x,g⟩)=er:=by exact rfl)(hw:bN er g=some true:=by exact rfl)(hx:ev h er x=some (.pointer (some ⟨b,o,none⟩)):=by exact rfl)
 (hb:h.get b=some (.cells vs own sz):=by first|assumption|exact z3 _ _|exact Go.A.z8 (by omega) (by omega)|(simp(disch:=first|omega|(simp only[z1,z2];omega))only[z3,z4,z5,z6,z7,z1,z2, *];done)|(simp(disch:=first|omega|(simp only[z1,z2];omega))only[z3,z4,z5,z6,z7,z1,z2, *];exact rfl)|(simp(disch:=first|omega|(simp only[z1,z2];omega)|(simp only[z1,z2];done)|fail)only[z8,z4,z5,z9,z7,z1,z2, *];done)|(simp(disch:=first|omega|(simp only[z1,z2];omega)|(simp only[z1,z2];done)|fail)only[z8,z4,z5,z9,z7,z1,z2, *];exact rfl))
 (hv:cw n (bU o vs)=l:=by exact rfl)(hl:Nat.beq (cm l) n=true:=by exact rfl):WD T base ops bf R (i::is) rs e h:=bW ho hm he hw rfl rfl (dh hx hb hv hl) H
theorem qE{j:Nat}{vs:Array Value}(H:WD T base ops bf R is (⟨i,⟨dst, .extract x j,g⟩,er,v, .quiet⟩::rs) (cC e dst v) h)(ho:bH ops i=some ⟨dst, .extract x j,g⟩:=by exact rfl)(hm:bH bf i=some mask:=by exact rfl)(he:bO e (cS ⟨dst, .extract x j,g⟩)=er:=by exact rfl)(hw:bN er g=some true:=by exact rfl)(hx:ev h er x=some (.tuple vs):=by exact rfl)(hv:bH vs.toList j=some v:=by exact rfl):
 WD T base ops bf R (i::is) rs e h:=bW ho hm he hw rfl rfl (yZ hx hv) H
theorem qC{f:Operand}{args:List Operand}{fv:Value}{as:List Value}{k:Nat}{first cap:Array Value}{all:List Value}(H:FW T (.func k) all {h with log:=[]} (KD (WD T base ops bf R is) base mask rs dst e h.log))(ho:bH ops i=some ⟨dst, .call f args,g⟩:=by exact rfl)(hm:bH bf i=some mask:=by exact rfl)(he:bO e (cS ⟨dst, .call f args,g⟩)=er:=by exact rfl)(hw:bN er g=some true:=by exact rfl)
 (hf:ev {h with log:=[]} er f=some fv:=by exact rfl)(ha:evs {h with log:=[]} er args=some as:=by exact rfl)(hv:fv= .func (.func k) first cap:=by exact rfl)(hl:eD first.toList (eD as cap.toList)=all:=by exact rfl):WD T base ops bf R (i::is) rs e h:=P6 ho hm he hw rfl (vE hf ha hv hl) H
end
end Go.A
end
section
namespace Go.A
variable {T:Nat->Option an} {base:Nat} {rnd:Option Nat} {Q:XQ} {e:Env} {ds:Dfs} {h:Heap}
def mx(a b:Int):Int:=if b>a then b else a
theorem oL{base:Nat}{h:Heap}{e:Env}{len size b o i:Nat}{k:IntKind}{x y:Operand}(hx:ev h e x=some (.pointer (some ⟨b,o,none⟩)))(hy:ev h e y=some (.int k (i:Nat)))(hi:i<len):aop h base e (.dA len size x y)=some (.val (.pointer (some ⟨b,o+i*size,none⟩)) h):=by
 have e0:(.int k (i:Nat):Value)= .int k (Int.ofNat i):=rfl;rw[e0]at hy;simp only[aop,hx,hy,fS hi,cond_true]
theorem FK{base:Nat}{h:Heap}{e:Env}{x y:Operand}{a b:Int}(hx:ev h e x=some (.int .i64 a))(hy:ev h e y=some (.int .i64 b)):aop h base e (.eC true [x,y])=some (.val (.int .i64 (mx a b)) h):=by
 simp only[aop,evs,hx,hy,mmA,if_true,cH,mx]
theorem bZ{x y:Operand}{b n sz:Nat}{vs cs:List Value}(hx:ev h e x=some (.pointer (some ⟨b,0,none⟩)))(hy:ev h e y=some (.agg cs.toArray))(hb:h.get b=some (.cells vs true sz))(hn:cs.length=n)(hv:vs.length=n)(h1:dY cs=true):
 aop h base e (.store n x y)=some (.val (.tuple #[]) (h.wr base b (.cells cs true sz))):=by
 have hc:cellsOf (.agg cs.toArray)=cs:=by show cs.toArray.toList=cs;simp
 refine jy hx hy hb ?_ ?_
 ·rw[hc,bS,bS,hn,hv,h1,tN,Nat.zero_add,fu (Nat.le_refl n)];rfl
 ·rw[hc,eY (by omega)];simp only[List.take_zero,List.nil_append,Nat.zero_add];rw[List.drop_of_length_le (by omega),List.append_nil]
theorem oN{x y:Operand}{b o sz:Nat}{vs:List Value}{v:Value}(hx:ev h e x=some (.pointer (some ⟨b,o,none⟩)))(hy:ev h e y=some v)(hb:h.get b=some (.cells vs true sz))(hc:cellsOf v=[v])(h1:dY [v]=true)(ho:o<vs.length):
 aop h base e (.store 1 x y)=some (.val (.tuple #[]) (h.wr base b (.cells (vs.set o v) true sz))):=by
 refine jy hx hy hb ?_ ?_
 ·rw[hc,h1,bS,bS,fu (by omega)];rfl
 ·rw[hc];show qY vs o v=vs.set o v;clear hx hy hb;induction vs generalizing o with
  |nil=>simp at ho
  |cons w vs ih=>
   cases o with
   |zero=>rfl
   |succ o=>simp only[qY,List.set_cons_succ];rw[ih (by simpa using ho)]
theorem TG{op:UnOp}{x:Operand}{a v:Value}(hx:ev h e x=some a)(hv:yg op a=some v):aop h base e (.un op x)=some (.val v h):=by simp only[aop,hx,cH,hv]
theorem FL{base:Nat}{h:Heap}{e:Env}:aop h base e .mkMap=some (.val (.map (some h.next)) (h.push (.map []))):=rfl
theorem SX(a:Option Nat):iy (.map a) (.map a)=true:=by simp[iy,jo]
theorem KT{a b:Int}(h1: -9223372036854775808<=a*b)(h2:a*b<9223372036854775808):aq .mul (.int .i64 a) (.int .i64 b)=some (.int .i64 (a*b)):=by
 simp[aq,arith,ct h1 h2]
theorem uC{base:Nat}:∀{m l:List Nat},eF base m->aC base l m=l
 |[],_,_=>rfl
 |b::m,l,h=>by
  have hb:=h b (List.mem_cons_self ..);simp only[aC,sE (show¬b<base by omega),cond_false];exact uC λx hx=>h x (List.mem_cons_of_mem _ hx)
theorem FW.gs0{base:Nat}{Q:XQ}{e:Env}{ds:Dfs}{h:Heap}{f:Nat}{args:List Value}{S:Nat->Prop}{Q':Value->Heap->Prop}{K:Env->Dfs->Heap->Prop}{dst:Option Nat}(H:Gs T f args {h with log:=[]} S Q')(hlog:∀v (h':Heap) l,Q' v h'→Q' v {h' with log:=l})(hS:∀z,S z->base<=z)(hK:∀v h',h.next<=h'.next->h'.log=h.log->(∀z,z<h.next->¬S z->h'.get z=h.get z)->(WF h->WF h')->Q' v h'→K (cC e dst v) ds h'):
 FW T (.func f) args {h with log:=[]} (KO K Q base dst e ds h.log):=by
 refine .func (CW.mono H ?_);rintro r h2 ⟨hx,v,rfl,hq⟩;exact⟨hK v _ hx.next (uC λz hz=>hS z ((hx.log z hz).elim (λq=>by cases q) id)) hx.old (λw=>(hx.wf (w.log [])).log _) (hlog v h2 _ hq)⟩
theorem jP{base:Nat}{h:Heap}{e:Env}{size b o n i j:Nat}{x:Operand}{lo hi:Option Operand}(hx:ev h e x=some (.pointer (some ⟨b,o,none⟩)))(hl:bnd h e 0 lo=some i)(hh:bnd h e n hi=some j)(h1:i<=j)(h2:j<=n)(h3:i<n)(h4:n<1000000):
 aop h base e (.slice (.arr n size) x lo hi none)=some (.val (.slice (some ⟨b,o+i*size,none⟩) (j-i) (n-i)) h):=by
 simp only[aop,hx,iz,hl,hh,pF (show n≠UNK by unfold UNK;omega),fu h1,fu h2,pF (show n≠i by omega),Bool.and_self,cond_true,cond_false,fC]
theorem Cd{base:Nat}{h:Heap}{e:Env}{size b o n i j:Nat}{x:Operand}{lo hi:Option Operand}(hx:ev h e x=some (.pointer (some ⟨b,o,none⟩)))(hl:bnd h e 0 lo=some i)(hh:bnd h e n hi=some j)(h1:i<=j)(h2:j<=n)(h3:i<n)(h4:n<1000000):
 aop h base e (.slice (.arr n size) x lo hi none)=some (.val (.slice (some ⟨b,o+i*size,none⟩) (j-i) (n-i)) h):=by
 simp only[aop,hx,iz,hl,hh,pF (show n≠UNK by unfold UNK;omega),fu h1,fu h2,pF (show n≠i by omega),Bool.and_self,cond_true,cond_false,fC]
theorem nF{base:Nat}{h:Heap}{e:Env}{ops:List aV}{bf:List Nat}{rs rs':List Rec}{Q:Env->Heap->Prop}{i mask:Nat}{is:List Nat}{dst:Option Nat}{g:Option (Nat×Bool)}{er:Env}{x y:Operand}{b o sz:Nat}{vs:List Value}{v:Value}
 (ho:bH ops i=some ⟨dst, .store 1 x y,g⟩)(hm:bH bf i=some mask)(he:bO e (cS ⟨dst, .store 1 x y,g⟩)=er)(hwt:bN er g=some true)(hx:ev {h with log:=[]} er x=some (.pointer (some ⟨b,o,none⟩)))(hy:ev {h with log:=[]} er y=some v)(hb:h.get b=some (.cells vs true sz))
 (hc:cellsOf v=[v])(h1:dY [v]=true)(ho':o<vs.length)(hlt:b<h.next)(hbb:base<=b)(hrs:bC (h.wr base b (.cells (vs.set o v) true sz)) base [b] mask rs=some rs')
 (H:WD T base ops bf Q is rs' (cC e dst (.tuple #[])) (h.wr base b (.cells (vs.set o v) true sz))):WD T base ops bf Q (i::is) rs e h:=
 kY ho hm he hwt rfl (oN (h:={h with log:=[]}) hx hy hb hc h1 ho') (F1 hlt hbb _) (qx hlt _) hrs H
theorem pU{base:Nat}{h:Heap}{e:Env}{ops:List aV}{bf:List Nat}{rs rs':List Rec}{Q:Env->Heap->Prop}{i mask:Nat}{is:List Nat}{dst:Option Nat}{g:Option (Nat×Bool)}{er:Env}{x y:Operand}{b n sz:Nat}{vs cs:List Value}
 (ho:bH ops i=some ⟨dst, .store n x y,g⟩)(hm:bH bf i=some mask)(he:bO e (cS ⟨dst, .store n x y,g⟩)=er)(hwt:bN er g=some true)(hx:ev {h with log:=[]} er x=some (.pointer (some ⟨b,0,none⟩)))(hy:ev {h with log:=[]} er y=some (.agg cs.toArray))(hb:h.get b=some (.cells vs true sz))
 (hn:cs.length=n)(hv:vs.length=n)(h1:dY cs=true)(hlt:b<h.next)(hbb:base<=b)(hrs:bC (h.wr base b (.cells cs true sz)) base [b] mask rs=some rs')
 (H:WD T base ops bf Q is rs' (cC e dst (.tuple #[])) (h.wr base b (.cells cs true sz))):WD T base ops bf Q (i::is) rs e h:=
 kY ho hm he hwt rfl (bZ (h:={h with log:=[]}) hx hy hb hn hv h1) (F1 hlt hbb _) (qx hlt _) hrs H
theorem gI{base:Nat}{e:Env}{h:Heap}{ops:List aV}{bf:List Nat}{rs rs':List Rec}{Q:Env->Heap->Prop}{i mask:Nat}{is:List Nat}{dst:Option Nat}{x y:Operand}{n b o sz:Nat}{vs ws:List Value}{v:Value}{g:Option (Nat×Bool)}{er:Env}(ho:bH ops i=some ⟨dst, .store n x y,g⟩)(hm:bH bf i=some mask)
 (he:bO e (cS ⟨dst, .store n x y,g⟩)=er)(hw:bN er g=some true)(hx:ev {h with log:=[]} er x=some (.pointer (some ⟨b,o,none⟩)))(hy:ev {h with log:=[]} er y=some v)(hb:h.get b=some (.cells vs true sz))
 (hc:(Nat.beq (cm (cellsOf v)) n&&Nat.ble (o+n) (cm vs)&&dY (cellsOf v))=true)(hws:cU vs o (cellsOf v)=ws)(hlt:b<h.next)(hrs:bC (h.wr base b (.cells ws true sz)) base [b] mask rs=some rs')
 (H:WD T base ops bf Q is rs' (cC e dst (.tuple #[])) (h.wr base b (.cells ws true sz))):WD T base ops bf Q (i::is) rs e h:=
 kY ho hm he hw rfl (jy (h:={h with log:=[]}) hx hy hb hc hws) (Er hlt _) (qx hlt _) hrs H
theorem cW{base:Nat}{rnd:Option Nat}{Q:XQ}{e:Env}{E0:Env}{ds:Dfs}{h:Heap}{a b:aR}{P:Heap->Prop}(H1:WE T base rnd a (λx e' ds' h'=>x= .normal/\e'=E0/\ds'=[]/\P h') e ds h)(H2:∀h',P h'→WE T base rnd b Q E0 [] h'):WE T base rnd (.seq a b) Q e ds h:=by
 refine BQ (H1.mono ?_);rintro x e' ds' h' ⟨rfl,rfl,rfl,hp⟩;exact Ku (H2 h' hp)
theorem ux{base:Nat}{h:Heap}{b:Nat}(hb:b<h.next)(o o':bG):({(({h with log:=[]}:Heap).wr h.next b o).push o' with log:=aC base h.log ((({h with log:=[]}:Heap).wr h.next b o).push o').log}:Heap)=(h.wr base b o).push o':=
 congrArg (λk:Heap=>k.push o') (Er hb o)
theorem Nj{base:Nat}{e:Env}{h:Heap}{lo sz bytes n:Nat}{ops:List aV}{bf:List Nat}{rs:List Rec}{Q:Env->Heap->Prop}{i mask:Nat}{is:List Nat}{dst:Option Nat}{g:Option (Nat×Bool)}{er:Env}{x y:Operand}{v u:Value}{cs c1:List Value}
 (s:Own lo h sz v n cs)(hn:n<1000000)(hsz:0<sz)(hb:bytes<=100000)
 (ho:bH ops i=some ⟨dst, .append sz bytes x y,g⟩)(hm:bH bf i=some mask)(he:bO e (cS ⟨dst, .append sz bytes x y,g⟩)=er)(hwt:bN er g=some true)
 (hx:ev {h with log:=[]} er x=some v)(hy:ev {h with log:=[]} er y=some u)(hs:dn {h with log:=[]} sz u=some (c1,1))(hl1:c1.length=sz)(h1:dY c1=true)(h1':dY cs=true)
 (hlg:eF lo h.log)(hw:WF h)
 (hK:∀h' lg,Own h.next h' sz (.slice (some ⟨h.next,0,none⟩) (n+1) UNK) (n+1) (cs++c1)->h.next<h'.next->eF lo h'.log->WF h'→(∀z,z<h.next->(∀q a c,v= .slice (some ⟨q,0,none⟩) a c->z≠q)->h'.get z=h.get z)->∃rs',bC h' base lg mask rs=some rs'∧WD T base ops bf Q is rs' (cC e dst (.slice (some ⟨h.next,0,none⟩) (n+1) UNK)) h'):WD T base ops bf Q (i::is) rs e h:=by
 have hbd:(2*(n+1)+768)*bytes<=281474976710656:=by
  have:(2*(n+1)+768)*bytes<=2000768*100000:=Nat.mul_le_mul (by omega) hb;omega
 cases s with
 |nil=>
  have:=Own.full (lo:=h.next) (h:=h.push (.cells c1 true sz)) (sz:=sz) (q:=h.next) (n:=1) (cs:=c1) (Nat.le_refl _) (Nat.lt_succ_self _) (Heap.gN _ _) (by omega) (by omega);obtain⟨rs',q1,q2⟩:=hK _ [] this (Nat.lt_succ_self _) hlg (hw.push _) (λz hz _=>Heap.ew hz);exact yj (n:=1) ho hm he hwt hx hy hs (by omega) (by simpa using hbd) q1 q2
 | @full q _ _ q1 q2 q3 q4 q5=>
   have hF:Own h.next ((h.wr base q .dead).push (.cells (cs++c1) true sz)) sz (.slice (some ⟨h.next,0,none⟩) (n+1) UNK) (n+1) (cs++c1):= .full (Nat.le_refl _) (Nat.lt_succ_self _) (Heap.gN _ _) (by rw[List.length_append,q4,hl1,Nat.add_mul,Nat.one_mul]) (by omega)
   obtain⟨rs',p1,p2⟩:=hK _ [q] hF (Nat.lt_succ_self _) (((Lk.refl lo h).wr (base:=base) (o:= .dead) q1).log hlg) ((hw.as (AS.wr base _ q .dead)).push _) (λz hz hne=>(Heap.ew (by exact hz)).trans (Heap.dV (hne q _ _ rfl)));exact kY ho hm he hwt rfl (jO (h:={h with log:=[]}) (n:=1) (vs:=cs) (ws:=cs++c1) hx hy hs (by omega) q3 q4 hsz h1 hbd (dH _ _)) (ux q2 _ _) (qx q2 .dead) p1 p2
theorem WF.bK{h:Heap}(w:WF h){x:Nat}{o:bG}(hx:h.get x=some o):x<h.next:=by
 refine w.lt x (Classical.byContradiction λhn=> ?_);have:=Ho hn;rw[show fm h.cE x=h.get x from rfl,hx]at this;cases this
theorem Rdy.self{h:Heap}(hr:Rdy h):({h with log:=[]}:Heap)=h:=by
 have:=hr.log;cases h;cases this;rfl
end Go.A
end
section
namespace Go.A
variable {T:Nat->Option an} {base:Nat} {rnd:Option Nat} {Q:XQ} {e:Env} {ds:Dfs} {h:Heap}
structure QK (h:Heap) (rs:List (Nat×Option (Option Nat))) (S:Nat->Prop) (Q:Value->Heap->Prop) (x:bB) (e:Env) (ds:Dfs) (h1:Heap):Prop where
 ok:(x= .normal∨x= .ret)/\ds=[]/\(∀z∈h1.log,S z)/\(h1=h∨∃q,q<h.next/\q∈h1.log/\iB h1 q)/\∃vs,bR h1 e rs=some vs/\Q (eE vs) h1
theorem Oo{v:Value}:gcA h h v=h:=by
 unfold gcA;cases cG v&&fD h h.next h.log<;>simp[mX,aT]
theorem Gs.ofK(hp:aF T){f:Nat}{args:List Value}{c:aR}{rs:List (Nat×Option (Option Nat))}{S:Nat->Prop}{Q:Value->Heap->Prop}(hf:T f=some (.code c rs))
 (H:WE T h.next none c (QK h rs S Q) (dZ 0 args) [] h):Gs T f args h S Q:=by
 obtain⟨x,e,ds,h1,⟨m,hm⟩,⟨hx,rfl,hl,hk,vs,hvs,hq⟩⟩:=H.ok;have hA:=(eX.all hp m).exec _ _ _ _ _ _ _ _ _ _ (hm m (Nat.le_refl _)) (Nat.le_refl _);have hg:gcA h h1 (eE vs)=h1:=by
  rcases hk with rfl|⟨q,hq1,hq2,hq3⟩
  ·exact Oo
  ·exact rX hq1 hq2 hq3
 have key:Ws S h h1/\∃v,Res.ret (eE vs)= .ret v/\Q v h1:=⟨Ws.nr hA hl,_,rfl,hq⟩;refine CW.code hf ⟨x,e,[],h1,⟨m,hm⟩,?_⟩;unfold vZ;rcases hx with rfl|rfl<;>(simp only[hvs,hg];exact key)
theorem He{h1:Heap}{rs:List (Nat×Option (Option Nat))}{S:Nat->Prop}{Q:Value->Heap->Prop}{vs:List Value}(hl:∀z∈h1.log,S z)(hk:h1=h∨∃q,q<h.next/\q∈h1.log/\iB h1 q)(hr:bR h1 e rs=some vs)(hq:Q (eE vs) h1):QK h rs S Q .normal e [] h1:=⟨⟨.inl rfl,rfl,hl,hk,vs,hr,hq⟩⟩
theorem BS{b:Nat}{o:bG}(hb:b<base):b∈(h.wr base b o).log:=by
 simp only[Heap.wr,cond_eq_ite,fS hb,if_true];split
 ·rename_i hh;exact iX.1 hh
 ·exact List.mem_cons_self
theorem DN{v:Value}(hv:mO v=false):∀{l:List Value},v∈l->cV l=false
 |a::l,hm=>by
  simp only[cV];rcases List.mem_cons.1 hm with rfl|hm
  ·rw[hv];rfl
  ·rw[DN hv hm];cases mO a<;>rfl
end Go.A
end
section
namespace Go.A
variable {T:Nat->Option an} {base:Nat} {rnd:Option Nat} {Q:XQ} {e:Env} {ds:Dfs} {h:Heap} {os:List aV} {dst:Option Nat} {v:Value} {x y:Operand}
theorem yW{op:BinOp}{a b:Value}(H:WO T base rnd Q os (cC e dst v) ds h)(hx:ev h e x=some a:=by exact rfl)(hy:ev h e y=some b:=by exact rfl)(hv:aq op a b=some v:=by with_reducible assumption):WO T base rnd Q (⟨dst, .bin (.num op) x y,none⟩::os) e ds h:=aD (vI hx hy hv) H
theorem yV{n b o sz:Nat}{vs l:List Value}{own:Bool}(H:WO T base rnd Q os (cC e dst (.agg l.toArray)) ds h)(hx:ev h e x=some (.pointer (some ⟨b,o,none⟩)):=by exact rfl)(hb:h.get b=some (.cells vs own sz):=by assumption)(hv:cw n (bU o vs)=l:=by assumption)(hl:Nat.beq (cm l) n=true:=by assumption):WO T base rnd Q (⟨dst, .load (some n) x,none⟩::os) e ds h:=aD (dh hx hb hv hl) H
theorem yI{size b o len cap i:Nat}{k:IntKind}(H:WO T base rnd Q os (cC e dst (.pointer (some ⟨b,o+i*size,none⟩))) ds h)(hx:ev h e x=some (.slice (some ⟨b,o,none⟩) len cap):=by exact rfl)(hy:ev h e y=some (.int k (i:Nat)):=by exact rfl)(hi:i<len:=by omega):WO T base rnd Q (⟨dst, .aO size x y,none⟩::os) e ds h:=aD (iT hx hy hi) H
section
variable {ops:List aV} {bf:List Nat} {rs:List Rec} {R:Env->Heap->Prop} {i mask:Nat} {is:List Nat} {g:Option (Nat×Bool)} {er:Env}
theorem qW{op:BinOp}{a b:Value}(H:WD T base ops bf R is (⟨i,⟨dst, .bin (.num op) x y,g⟩,er,v, .quiet⟩::rs) (cC e dst v) h)(ho:bH ops i=some ⟨dst, .bin (.num op) x y,g⟩:=by exact rfl)(hm:bH bf i=some mask:=by exact rfl)(he:bO e (cS ⟨dst, .bin (.num op) x y,g⟩)=er:=by exact rfl)(hw:bN er g=some true:=by exact rfl)(hx:ev h er x=some a:=by exact rfl)(hy:ev h er y=some b:=by exact rfl)(hv:aq op a b=some v:=by with_reducible assumption):WD T base ops bf R (i::is) rs e h:=bW ho hm he hw rfl rfl (vI hx hy hv) H
theorem qV{n b o sz:Nat}{vs l:List Value}{own:Bool}(H:WD T base ops bf R is (⟨i,⟨dst, .load (some n) x,g⟩,er, .agg l.toArray, .quiet⟩::rs) (cC e dst (.agg l.toArray)) h)(ho:bH ops i=some ⟨dst, .load (some n) x,g⟩:=by exact rfl)(hm:bH bf i=some mask:=by exact rfl)(he:bO e (cS ⟨dst, .load (some n) x,g⟩)=er:=by exact rfl)(hw:bN er g=some true:=by exact rfl)(hx:ev h er x=some (.pointer (some ⟨b,o,none⟩)):=by exact rfl)(hb:h.get b=some (.cells vs own sz):=by assumption)(hv:cw n (bU o vs)=l:=by assumption)(hl:Nat.beq (cm l) n=true:=by assumption):WD T base ops bf R (i::is) rs e h:=bW ho hm he hw rfl rfl (dh hx hb hv hl) H
theorem qK{b o sz:Nat}{vs:List Value}{own:Bool}(H:WD T base ops bf R is (⟨i,⟨dst, .load none x,g⟩,er,v, .quiet⟩::rs) (cC e dst v) h)(ho:bH ops i=some ⟨dst, .load none x,g⟩:=by exact rfl)(hm:bH bf i=some mask:=by exact rfl)(he:bO e (cS ⟨dst, .load none x,g⟩)=er:=by exact rfl)(hw:bN er g=some true:=by exact rfl)(hx:ev h er x=some (.pointer (some ⟨b,o,none⟩)):=by exact rfl)(hb:h.get b=some (.cells vs own sz):=by assumption)(hv:bH vs o=some v:=by assumption):WD T base ops bf R (i::is) rs e h:=bW ho hm he hw rfl rfl (bY hx hb hv) H
theorem qI{size b o len cap j:Nat}{k:IntKind}(H:WD T base ops bf R is (⟨i,⟨dst, .aO size x y,g⟩,er, .pointer (some ⟨b,o+j*size,none⟩), .quiet⟩::rs) (cC e dst (.pointer (some ⟨b,o+j*size,none⟩))) h)(ho:bH ops i=some ⟨dst, .aO size x y,g⟩:=by exact rfl)(hm:bH bf i=some mask:=by exact rfl)(he:bO e (cS ⟨dst, .aO size x y,g⟩)=er:=by exact rfl)(hw:bN er g=some true:=by exact rfl)(hx:ev h er x=some (.slice (some ⟨b,o,none⟩) len cap):=by exact rfl)(hy:ev h er y=some (.int k (j:Nat)):=by exact rfl)(hi:j<len:=by omega):WD T base ops bf R (i::is) rs e h:=bW ho hm he hw rfl rfl (iT hx hy hi) H
theorem qJ{size b o len j:Nat}{k:IntKind}(H:WD T base ops bf R is (⟨i,⟨dst, .dA len size x y,g⟩,er, .pointer (some ⟨b,o+j*size,none⟩), .quiet⟩::rs) (cC e dst (.pointer (some ⟨b,o+j*size,none⟩))) h)(ho:bH ops i=some ⟨dst, .dA len size x y,g⟩:=by exact rfl)(hm:bH bf i=some mask:=by exact rfl)(he:bO e (cS ⟨dst, .dA len size x y,g⟩)=er:=by exact rfl)(hw:bN er g=some true:=by exact rfl)(hx:ev h er x=some (.pointer (some ⟨b,o,none⟩)):=by exact rfl)(hy:ev h er y=some (.int k (j:Nat)):=by exact rfl)(hi:j<len:=by omega):WD T base ops bf R (i::is) rs e h:=bW ho hm he hw rfl rfl (oL hx hy hi) H
theorem qO{op:AOp}(H:WD T base ops bf R is (⟨i,⟨dst,op,g⟩,er, .tuple #[], .skip⟩::rs) (cC e dst (.tuple #[])) h)(ho:bH ops i=some ⟨dst,op,g⟩:=by exact rfl)(hm:bH bf i=some mask:=by exact rfl)(he:bO e (cS ⟨dst,op,g⟩)=er:=by exact rfl)(hw:bN er g=some false:=by exact rfl):WD T base ops bf R (i::is) rs e h:=Tf ho hm he hw H
end
end Go.A
end
section
namespace Go.A
variable {T:Nat->Option an} {base:Nat} {rnd:Option Nat} {Q:XQ} {e:Env} {ds:Dfs} {h:Heap}
structure YQW (px:bB) (l:Nat) (L LX:bG) (W:Nat->Prop) (n:Nat) (R S:Heap->Prop) (x:bB) (e:Env) (ds:Dfs) (h3:Heap):Prop where
 busy:∃o,h3.get l=some o/\busy o=true
 log:∀z∈h3.log,W z
 rel:(x= .normal/\∀h5:Heap,n<=h5.next->(∀z,z<n->z≠l->h5.get z=h3.get z)->h5.get l=some L->R h5)∨(x=px/\∀h5:Heap,h5.next=h3.next->(∀z,z≠l->h5.get z=h3.get z)->h5.get l=some LX->S h5)
structure YAW (px:bB) (T:Nat->Option an) (l:Nat) (e:Env) (ps:List Nat) (asg body:aR) (W:Nat->Prop) (n:Nat) (R S:Heap->Prop) (x:bB) (e2:Env) (ds2:Dfs) (h2:Heap):Prop where
 x:x= .normal
 loop:h2.get l=some (.loop e ps asg body 0 .normal)
 body:WE T n (some l) body (YQW px l (.loop e ps asg body 0 .normal) (.loop e ps asg body 2 px) W n R S) e2 ds2 (h2.wr 0 l (.loop e ps asg body 1 .normal))
theorem FW.ND(hp:aF T){px:bB}(hpx:px= .ret∨∃i,px= .exit i){l:Nat}{W:Nat->Prop}{e e1:Env}{ps:List Nat}{asg body:aR}{args:List Value}{R S:Heap->Prop}(hl:h.get l=some (.loop e ps asg body 0 .normal))(he:jq e ps args=some e1)(hlN:l<h.next)(hlo:W l)
 (H:WE T h.next (some l) asg (YAW px T l e ps asg body W h.next R S) e1 [] h):
 FW T (.yield l) args h λr h'=>(∀z∈h'.log,W z)/\(r= .ret (.bool true)/\R h'∨r= .ret (.bool false)/\l∈h'.log/\S h'):=by
 obtain⟨x,e2,ds2,h2,⟨m,hm⟩,⟨rfl,hl2,H2⟩⟩:=H.ok;obtain⟨x3,e3,ds3,h3,⟨m3,hm3⟩,⟨⟨o,ho,hb⟩,hlog,hrel⟩⟩:=H2.ok;have hnr:notReady (h2.get l)=false:=by rw[hl2];rfl
 have hloop:∃a b c d p,o= .loop a b c d 1 p:=by
  unfold A.busy at hb;split at hb
  ·exact⟨_,_,_,_,_,rfl⟩
  ·cases hb
 obtain⟨oa,ob,oc,od,op,rfl⟩:=hloop;rcases hrel with⟨rfl,hrel⟩|⟨rfl,hrel⟩
 ·have A1:=(eX.all hp m).exec _ _ _ _ _ _ _ _ _ _ (hm m (Nat.le_refl _)) (Nat.le_refl _);have A2:=(eX.all hp m3).exec _ _ _ _ _ _ _ _ _ _ (hm3 m3 (Nat.le_refl _)) A1.next
  have A3:AS 0 h (h3.wr 0 l (.loop e ps asg body 0 .normal)):=((A1.zero.trans (AS.wr 0 h2 l _)).trans A2.zero).trans (AS.wr 0 h3 l _);obtain⟨g1,g2,g3⟩:=zn (v:= .bool true) A3;refine⟨.ret (.bool true),gcA h (h3.wr 0 l (.loop e ps asg body 0 .normal)) (.bool true),⟨m+m3+1,λn hn=> ?_⟩,?_, .inl ⟨rfl,?_⟩⟩
  ·obtain⟨k,rfl⟩:∃k,n=k+1:=⟨n-1,by omega⟩;have q1:=hm k (by omega);have q2:=hm3 k (by omega);rw[←wr0]at q2;simp only[gu,hl,he,q1,hnr,cond_false,q2,ho];rfl
  ·rw[g3];exact hlog
  ·refine hrel _ g2 (λz hz hne=>(g1 z hz).trans (Heap.dV hne)) ((g1 l hlN).trans ?_);exact Heap.aI ho
 ·refine⟨.ret (.bool false),h3.wr h.next l (.loop e ps asg body 2 x3),⟨m+m3+1,λn hn=> ?_⟩,?_, .inr ⟨rfl,lZ hlN,?_⟩⟩
  ·obtain⟨k,rfl⟩:∃k,n=k+1:=⟨n-1,by omega⟩;have q1:=hm k (by omega);have q2:=hm3 k (by omega);rw[←wr0]at q2;rcases hpx with rfl|⟨i,rfl⟩<;>simp only[gu,hl,he,q1,hnr,cond_false,q2,ho]
  ·intro z hz;rcases dw hz with rfl|hz
   ·exact hlo
   ·exact hlog z hz
  ·exact hrel _ rfl (λz hne=>Heap.dV hne) (Heap.aI ho)
structure I6 {α:Type} (px:bB) (T:Nat->Option an) (W:Nat->Prop) (N l:Nat) (V:α->List Value) (all:List α) (P:List α->Heap->Prop) (S:Heap->Prop):Prop where
 pW:∀done x H,x∈all->Rdy H->N<=H.next->P done H->FW T (.yield l) (V x) H λr H'=>(∀z∈H'.log,W z)/\(r= .ret (.bool true)/\P (done++[x]) H'∨r= .ret (.bool false)/\l∈H'.log/\S H')
 eO:∀done H H',P done H->N<=H'.next->(∀x,x<N->H'.get x=H.get x)->P done H'
 PD:∀H m,S H->S {H with log:=m}
 GA:∀H,S H->∃a b c d,H.get l=some (.loop a b c d 2 px)
 low:∀z,W z->z<N
theorem I6.call(hp:aF T){α:Type}{px:bB}{W:Nat->Prop}{N l:Nat}{V:α->List Value}{all:List α}{P:List α->Heap->Prop}{S:Heap->Prop}(Y:I6 px T W N l V all P S){K:Env->Dfs->Heap->Prop}{dst:Option Nat}{done:List α}{x:α}(hx:x∈all)(hw:WF h)(hN:N<=h.next)(hlb:l<base)(hP:P done h)
 (hK:∀h',Ws W h h'→P (done++[x]) h'→K (cC e dst (.bool true)) ds h')
 (hX:∀h',Ws W h h'→l∈h'.log->S h'→K (cC e dst (.bool false)) ds h'):FW T (.yield l) (V x) {h with log:=[]} (KO K Q base dst e ds h.log):=by
 refine FW.mono' (FW.BR hp (Y.pW done x _ hx (.of hw) hN (Y.eO _ _ _ hP hN λ_ _=>rfl)) rfl) ?_;rintro r h2 ⟨hA,hl,hq⟩;have hk:Ws W {h with log:=[]} h2:=Ws.nr hA hl;rcases hq with⟨rfl,hq⟩|⟨rfl,hm,hq⟩
 ·exact⟨hK _ hk.call (Y.eO _ _ _ hq (Nat.le_trans hN hA.next) λ_ _=>rfl)⟩
 ·exact⟨hX _ hk.call (mem_merge hlb hm) (Y.PD _ _ hq)⟩
def GrW(T:Nat->Option an)(f:Nat)(args:List Value)(h:Heap)(W:Nat->Prop)(P S:Heap->Prop):Prop:=CW T f args h λr h'=>Ws W h h'∧∃v,r= .ret v/\(P h'∨S h')
structure Rz (rs:List (Nat×Option (Option Nat))) (W:Nat->Prop) (l:Nat) (P S:Heap->Prop) (x:bB) (e:Env) (ds:Dfs) (h1:Heap):Prop where
 ok:(x= .normal∨x= .ret)/\ds=[]/\(∀z∈h1.log,W z)/\(∃vs,bR h1 e rs=some vs)/\(P h1∨l∈h1.log/\S h1)
theorem JP{rs:List (Nat×Option (Option Nat))}{W:Nat->Prop}{l:Nat}{P S:Heap->Prop}{vs:List Value}(hl:∀z∈h.log,W z)(hr:bR h e rs=some vs)(hm:l∈h.log)(hq:S h):Rz rs W l P S .ret e [] h:=⟨⟨.inr rfl,rfl,hl,⟨vs,hr⟩, .inr ⟨hm,hq⟩⟩⟩
theorem JO{rs:List (Nat×Option (Option Nat))}{W:Nat->Prop}{l:Nat}{P S:Heap->Prop}{vs:List Value}(hl:∀z∈h.log,W z)(hr:bR h e rs=some vs)(hq:P h):Rz rs W l P S .normal e [] h:=⟨⟨.inl rfl,rfl,hl,⟨vs,hr⟩, .inl hq⟩⟩
theorem GrW.of(hp:aF T){px:bB}{f:Nat}{args:List Value}{c:aR}{rs:List (Nat×Option (Option Nat))}{W:Nat->Prop}{l:Nat}{P S:Heap->Prop}(hf:T f=some (.code c rs))(hlN:l<h.next)
 (hP:∀h1 h2:Heap,h.next<=h2.next->(∀x,x<h.next->h2.get x=h1.get x)->P h1->P h2)(hS:∀H,S H->∃a b c d,H.get l=some (.loop a b c d 2 px))(H:WE T h.next none c (Rz rs W l P S) (dZ 0 args) [] h):GrW T f args h W P S:=by
 obtain⟨x,e,ds,h1,⟨m,hm⟩,⟨hx,rfl,hl,⟨vs,hvs⟩,hq⟩⟩:=H.ok;have hA:=(eX.all hp m).exec _ _ _ _ _ _ _ _ _ _ (hm m (Nat.le_refl _)) (Nat.le_refl _);obtain⟨g1,g2,g3,g4⟩:=lN (v:=eE vs) hA;have key:Ws W h (gcA h h1 (eE vs))/\∃v,Res.ret (eE vs)= .ret v/\(P (gcA h h1 (eE vs))∨S (gcA h h1 (eE vs))):=by
  refine⟨Ws.nr (hA.gc' _) (by rw[g3];exact hl),_,rfl,?_⟩;rcases hq with hq|⟨hml,hq⟩
  ·exact .inl (hP _ _ g2 g1 hq)
  ·obtain⟨a,b,c,d,hlp⟩:=hS _ hq;rw[F6 hlp hlN hml];exact .inr hq
 refine CW.code hf ⟨x,e,[],h1,⟨m,hm⟩,?_⟩;unfold vZ;rcases hx with rfl|rfl<;>(simp only[hvs];exact key)
theorem merge_lt{base z:Nat}:∀{m l:List Nat},z∈aC base l m->z∈l∨z∈m/\z<base
 |[],l,h=> .inl h
 |b::m,l,h=>by
  simp only[aC]at h;rcases merge_lt (m:=m) h with h|⟨h,hb⟩
  ·revert h;rw[cond_eq_ite,cond_eq_ite];split
   ·rename_i hlt;split
    ·exact .inl
    ·intro h;rcases List.mem_cons.1 h with rfl|h
     ·exact .inr ⟨List.mem_cons_self ..,by rw[blt_eq]at hlt;simpa using hlt⟩
     ·exact .inl h
   ·exact .inl
  ·exact .inr ⟨List.mem_cons_of_mem _ h,hb⟩
theorem Ad{px:bB}{h1:Heap}{f:Operand}{g:Nat}{W:Nat->Prop}{first cap:Array Value}{ps:List Nat}{asg body:aR}{P S:Heap->Prop}(hr:oq h1 rnd=true)(hf:ev h1 e f=some (.func (.func g) first cap))(hnc:gi (T g)=false)
 (hbase:base<=h1.next)(w1:WF h1)
 (HG:GrW T g (eD first.toList (eD [.func (.yield h1.next) #[] #[]] cap.toList)) {h1.push (.loop e ps asg body 0 .normal)with log:=[]} W P S)
 (hP:∀H,P H->∃a b c d,H.get h1.next=some (.loop a b c d 0 .normal))(hS:∀H,S H->∃a b c d,H.get h1.next=some (.loop a b c d 2 px))
 (K1:∀h2 h3:Heap,(∀z∈h3.log,z∈h1.log∨W z/\z<base)->WF h3->h1.next<h3.next->h3.next=h2.next->(∀z,z≠h1.next->h3.get z=h2.get z)->(∀z,z<h1.next->¬W z->h3.get z=h1.get z)->P h2->Q .normal e ds h3)
 (K2:∀h2 h3:Heap,(∀z∈h3.log,z∈h1.log∨W z/\z<base)->WF h3->h1.next<h3.next->h3.next=h2.next->(∀z,z≠h1.next->h3.get z=h2.get z)->(∀z,z<h1.next->¬W z->h3.get z=h1.get z)->S h2->Q px e ds h3):WE T base rnd (.rangeFunc f ps asg body) Q e ds h1:=by
 refine sY hr hf hnc (CW.mono HG ?_);rintro r h2 ⟨hk,v,rfl,hq⟩;have q1:∀z∈(({h2 with log:=aC base h1.log h2.log}:Heap).wr base h1.next .dead).log,z∈h1.log∨W z/\z<base:=by
  rw[Heap.aB (by omega)];intro z hz;rcases merge_lt (show z∈aC base h1.log h2.log from hz)with hz|⟨hz,hb⟩
  ·exact .inl hz
  ·rcases hk.log z hz with q|q
   ·cases q
   ·exact .inr ⟨q,hb⟩
 have q2:WF (({h2 with log:=aC base h1.log h2.log}:Heap).wr base h1.next .dead):=((hk.wf ((w1.push _).log _)).log _).as (AS.wr _ _ _ _);have q3:h1.next<h2.next:=hk.next
 have q4:∀z,z≠h1.next->(({h2 with log:=aC base h1.log h2.log}:Heap).wr base h1.next .dead).get z=h2.get z:=λz hne=>Heap.dV hne
 have q5:∀z,z<h1.next->¬W z->(({h2 with log:=aC base h1.log h2.log}:Heap).wr base h1.next .dead).get z=h1.get z:=λz hz hn=>(q4 z (by omega)).trans ((hk.old z (Nat.lt_succ_of_lt hz) hn).trans (Heap.ew hz))
 rcases hq with hq|hq
 ·obtain⟨a,b,c,d,hl⟩:=hP _ hq;exact⟨_,rfl,_,_,_,_,_,_,hl,rfl,K1 h2 _ q1 q2 q3 rfl q4 q5 hq⟩
 ·obtain⟨a,b,c,d,hl⟩:=hS _ hq;exact⟨_,rfl,_,_,_,_,_,_,hl,rfl,K2 h2 _ q1 q2 q3 rfl q4 q5 hq⟩
def RdE(E E2:Env)(ok:Bool)(x:bB)(e2:Env)(ds2:Dfs)(h2:Heap):Prop:=ds2=[]/\h2.log=[]/\(ok=true/\x= .normal/\DX e2 E=true∨ok=false/\x= .ret/\e2=E2)
def RdO(T:Nat->Option an)(base:Nat)(rnd:Option Nat)(body:aR)(k2:List Nat)(E E2:Env)(ok:Bool)(x:bB)(e1:Env)(ds1:Dfs)(h1:Heap):Prop:=x= .normal/\ds1=[]/\WE T base rnd body (RdE E E2 ok) (bO e1 k2) [] h1
theorem Cj{nxt pr:Nat}{k2:List Nat}{body:aR}{ops2:List aV}{E E2 eo:Env}{Hm:Heap}(ho:xg eo E2=true)(hs:sQ E2 E2=true){P:Value×Value->Prop}:∀(es:List (Value×Value)),(∀kv∈es,∃b,(b=true↔P kv)/\WO T base rnd (RdO T base rnd body k2 E E2 b) ops2 ((pr, .tuple #[kv.1,kv.2])::E) [] Hm)→
 ∃b:Bool,(b=true↔ ∀kv∈es,P kv)/\∃M,∀n,M<=n->nK (λe h=>gw T n base rnd ops2 e [] h) (λe h=>cB T n base rnd body e [] h) nxt pr k2 E eo Hm es=some (if b then none else some (.ret,E2))
 |[],_=>⟨true,⟨λ_ kv h=>(by cases h),λ_=>rfl⟩,0,λn _=>rfl⟩
 |(k,v)::es,H=>by
  obtain⟨b,hb,M,hM⟩:=Cj (nxt:=nxt) (eo:=eo) ho hs es λkv hkv=>H kv (List.mem_cons_of_mem _ hkv);obtain⟨c,hc,⟨x,e1,ds1,h1,⟨m1,q1⟩,rfl,rfl,W⟩⟩:=H (k,v) List.mem_cons_self;obtain⟨x2,e2,ds2,h2,⟨m2,q2⟩,rfl,hl,hx⟩:=W.ok;refine⟨c&&b,?_,M+m1+m2,λn hn=> ?_⟩
  ·rw[Bool.and_eq_true,hb,hc];constructor
   ·rintro⟨a1,a2⟩ kv hkv;rcases List.mem_cons.1 hkv with rfl|hkv
    ·exact a1
    ·exact a2 kv hkv
   ·exact λa=>⟨a _ List.mem_cons_self,λkv hkv=>a kv (List.mem_cons_of_mem _ hkv)⟩
  ·simp only[nK,q1 n (by omega),q2 n (by omega),hl,hM n (by omega)];rcases hx with⟨rfl,rfl,h4⟩|⟨rfl,rfl,rfl⟩
   ·simp only[Gb,h4,cond_true,Bool.true_and]
   ·simp only[Gb,ho,cond_true,Bool.false_and];cases b<;>simp[hs]
theorem DZ{ops ops2:List aV}{it out nxt pr m:Nat}{x:Operand}{keep k2:List Nat}{body:aR}{e0 E2:Env}{es:List (Value×Value)}(HO:EvO T base rnd ops e [] h (.normal,e0,[],h))(hx:ev h e0 x=some (.map (some m)))(hm:h.get m=some (.map es))(ho:xg (bO e0 keep) E2=true)(hs:sQ E2 E2=true)(P:Value×Value->Prop)
 (HR:∀kv∈es,∃b,(b=true↔P kv)/\WO T (h.next+1) rnd (RdO T (h.next+1) rnd body k2 (itE it h (bO e0 keep)) E2 b) ops2 ((pr, .tuple #[kv.1,kv.2])::itE it h (bO e0 keep)) [] ((roM h m es).push .dead))
 (K1:(∀kv∈es,P kv)->Q .normal (bO e0 keep) [] h)(K2:(¬ ∀kv∈es,P kv)->Q .ret E2 [] h):WE T base rnd (.rangeMap ops it x keep out nxt pr ops2 k2 body) Q e [] h:=by
 obtain⟨m0,h0⟩:=HO;obtain⟨b,hb,M,hM⟩:=Cj (nxt:=nxt) ho hs es HR;cases ha:b with
 |true=>
  refine⟨⟨_,_,_,_,⟨M+m0+1,λn hn=> ?_⟩,K1 (hb.1 ha)⟩⟩;obtain⟨k,rfl⟩:∃k,n=k+1:=⟨n-1,by omega⟩;simp only[cB,h0 k (by omega),hx,hm];rw[hM k (by omega),ha];rfl
 |false=>
  refine⟨⟨_,_,_,_,⟨M+m0+1,λn hn=> ?_⟩,K2 λq=>by rw[hb.2 q]at ha;cases ha⟩⟩;obtain⟨k,rfl⟩:∃k,n=k+1:=⟨n-1,by omega⟩;simp only[cB,h0 k (by omega),hx,hm];rw[hM k (by omega),ha];rfl
theorem EvO.mov{d:Nat}{x:Operand}{v:Value}(hx:ev h e x=some v):EvO T base rnd [⟨some d, .mov x,none⟩] e [] h (.normal,(d,v)::e,[],h):=⟨2,λn hn=>by
 obtain⟨k,rfl⟩:∃k,n=k+2:=⟨n-2,by omega⟩;simp only[gw,bN,aop,hx,cH,cC]⟩
structure JN (h:Heap) (rs:List (Nat×Option (Option Nat))) (S:Nat->Prop) (Q:Value->Heap->Prop) (x:bB) (e:Env) (ds:Dfs) (h1:Heap):Prop where
 ok:(x= .normal∨x= .ret)/\ds=[]/\(∀z∈h1.log,S z)/\∃vs,bR h1 e rs=some vs/\Q (eE vs) h1/\((∃q,q<h.next/\q∈h1.log/\iB h1 q)∨∀h2:Heap,h.next<=h2.next->(∀x,x<h.next->h2.get x=h1.get x)->Q (eE vs) h2)
theorem Gs.ofM(hp:aF T){f:Nat}{args:List Value}{c:aR}{rs:List (Nat×Option (Option Nat))}{S:Nat->Prop}{Q:Value->Heap->Prop}(hf:T f=some (.code c rs))
 (H:WE T h.next none c (JN h rs S Q) (dZ 0 args) [] h):Gs T f args h S Q:=by
 obtain⟨x,e,ds,h1,⟨m,hm⟩,⟨hx,rfl,hl,vs,hvs,hq,hk⟩⟩:=H.ok;have hA:=(eX.all hp m).exec _ _ _ _ _ _ _ _ _ _ (hm m (Nat.le_refl _)) (Nat.le_refl _);obtain⟨g1,g2,g3,g4⟩:=lN (v:=eE vs) hA;have key:Ws S h (gcA h h1 (eE vs))/\∃v,Res.ret (eE vs)= .ret v/\Q v (gcA h h1 (eE vs)):=by
  refine⟨Ws.nr (hA.gc' _) (by rw[g3];exact hl),_,rfl,?_⟩;rcases hk with⟨q,hq1,hq2,hq3⟩|hk
  ·rw[rX hq1 hq2 hq3];exact hq
  ·exact hk _ g2 g1
 refine CW.code hf ⟨x,e,[],h1,⟨m,hm⟩,?_⟩;unfold vZ;rcases hx with rfl|rfl<;>(simp only[hvs];exact key)
theorem qf{h1:Heap}{rs:List (Nat×Option (Option Nat))}{S:Nat->Prop}{Q:Value->Heap->Prop}{vs:List Value}(hl:∀z∈h1.log,S z)(hr:bR h1 e rs=some vs)(hq:Q (eE vs) h1)(hk:(∃q,q<h.next/\q∈h1.log/\iB h1 q)∨∀h2:Heap,h.next<=h2.next->(∀x,x<h.next->h2.get x=h1.get x)->Q (eE vs) h2):JN h rs S Q .ret e [] h1:=⟨⟨.inr rfl,rfl,hl,vs,hr,hq,hk⟩⟩
theorem Hf{h1:Heap}{rs:List (Nat×Option (Option Nat))}{S:Nat->Prop}{Q:Value->Heap->Prop}{vs:List Value}(hl:∀z∈h1.log,S z)(hr:bR h1 e rs=some vs)(hq:Q (eE vs) h1)(hk:(∃q,q<h.next/\q∈h1.log/\iB h1 q)∨∀h2:Heap,h.next<=h2.next->(∀x,x<h.next->h2.get x=h1.get x)->Q (eE vs) h2):JN h rs S Q .normal e [] h1:=⟨⟨.inl rfl,rfl,hl,vs,hr,hq,hk⟩⟩
theorem Fu{h1:Heap}{f:Operand}{g lo:Nat}{first cap:Array Value}{ps:List Nat}{asg body:aR}{P:Heap->Prop}(hr:oq h1 rnd=true)(hf:ev h1 e f=some (.func (.func g) first cap))(hnc:gi (T g)=false)
 (hlo:base<=lo)(hlo2:lo<=h1.next)(w1:WF h1)
 (HG:Gr T g (eD first.toList (eD [.func (.yield h1.next) #[] #[]] cap.toList)) {h1.push (.loop e ps asg body 0 .normal)with log:=[]} lo λv h'=>v= .tuple #[]/\P h')
 (hP:∀H,P H->∃a b c d,H.get h1.next=some (.loop a b c d 0 .normal))
 (K:∀h2 h3:Heap,h3.log=h1.log->WF h3->h1.next<h3.next->h3.next=h2.next->(∀z,z≠h1.next->h3.get z=h2.get z)->(∀z,z<lo->h3.get z=h1.get z)->P h2->Q .normal e ds h3):WE T base rnd (.rangeFunc f ps asg body) Q e ds h1:=by
 refine sY hr hf hnc (CW.mono HG ?_);rintro r h2 ⟨hk,v,rfl,rfl,hq⟩;have hl2:eF base h2.log:=λz hz=>Nat.le_trans hlo (hk.log (eF.nil _) z hz);have q1:(({h2 with log:=aC base h1.log h2.log}:Heap).wr base h1.next .dead).log=h1.log:=by
  rw[Heap.aB (by omega)];show aC base h1.log h2.log=h1.log;rw[sC hl2]
 have q2:WF (({h2 with log:=aC base h1.log h2.log}:Heap).wr base h1.next .dead):=((hk.wf ((w1.push _).log _)).log _).as (AS.wr _ _ _ _);have q3:h1.next<h2.next:=hk.next
 have q4:∀z,z≠h1.next->(({h2 with log:=aC base h1.log h2.log}:Heap).wr base h1.next .dead).get z=h2.get z:=λz hne=>Heap.dV hne
 obtain⟨a,b,c,d,hl⟩:=hP _ hq;refine⟨_,rfl,_,_,_,_,_,_,hl,rfl,K h2 _ q1 q2 q3 rfl q4 (λz hz=>(q4 z (by omega)).trans ((hk.old z hz).trans ?_)) hq⟩;exact Heap.ew (by omega)
theorem D0{lo sz bytes n:Nat}{dst:Option Nat}{os:List aV}{x y:Operand}{v u:Value}{cs c1:List Value}(s:Own lo h sz v n cs)(hn:n<1000000)(hsz:0<sz)(hb:bytes<=100000)
 (hx:ev h e x=some v)(hy:ev h e y=some u)(hs:dn h sz u=some (c1,1))(hl1:c1.length=sz)(h1:dY c1=true)
 (hK:∀h',Own h.next h' sz (.slice (some ⟨h.next,0,none⟩) (n+1) UNK) (n+1) (cs++c1)->h'.next=h.next+1->(∀z∈h'.log,z∈h.log∨∃a c,v= .slice (some ⟨z,0,none⟩) a c)->(WF h->WF h')->(∀z,z<h.next->(∀q a c,v= .slice (some ⟨q,0,none⟩) a c->z≠q)->h'.get z=h.get z)->WO T base rnd Q os (cC e dst (.slice (some ⟨h.next,0,none⟩) (n+1) UNK)) ds h'):WO T base rnd Q (⟨dst, .append sz bytes x y,none⟩::os) e ds h:=by
 have hbd:(2*(n+1)+768)*bytes<=281474976710656:=by
  have:(2*(n+1)+768)*bytes<=2000768*100000:=Nat.mul_le_mul (by omega) hb;omega
 cases s with
 |nil=>
  refine aD (mS (n:=1) hx hy hs (by omega) (by simpa using hbd) rfl) ?_;exact hK _ (Own.full (lo:=h.next) (h:=h.push (.cells c1 true sz)) (sz:=sz) (q:=h.next) (n:=1) (cs:=c1) (Nat.le_refl _) (Nat.lt_succ_self _) (Heap.gN _ _) (by omega) (by omega)) rfl (λz hz=> .inl hz) (λw=>w.push _) (λz hz _=>Heap.ew hz)
 | @full q _ _ q1 q2 q3 q4 q5=>
   refine aD (jO (n:=1) (vs:=cs) (ws:=cs++c1) hx hy hs (by omega) q3 q4 hsz h1 hbd (dH _ _)) ?_;exact hK _ (.full (Nat.le_refl _) (Nat.lt_succ_self _) (Heap.gN _ _) (by rw[List.length_append,q4,hl1,Nat.add_mul,Nat.one_mul]) (by omega)) rfl (λz hz=>by
    rcases dw (b:=q) (o:= .dead) hz with rfl|hz
    ·exact .inr ⟨_,_,rfl⟩
    ·exact .inl hz) (λw=>(w.as (AS.wr base _ q .dead)).push _) (λz hz hne=>(Heap.ew (by exact hz)).trans (Heap.dV (hne q _ _ rfl)))
structure WsL (base:Nat) (S:Nat->Prop) (h h':Heap):Prop extends Ws S h h' where
 OB:∀z∈h'.log,z∈h.log∨S z/\z<base
 RO:∀z∈h.log,z∈h'.log
theorem Ws.JA{S:Nat->Prop}{h h2:Heap}(x:Ws S {h with log:=[]} h2):WsL base S h {h2 with log:=aC base h.log h2.log}:=
 ⟨x.call,λz hz=>(merge_lt (show z∈aC base h.log h2.log from hz)).imp id λ⟨q,hb⟩=>⟨(x.log z q).elim (λq=>by cases q) id,hb⟩,λz hz=>ri (show z∈h.log from hz)⟩
theorem FW.gsL{f:Nat}{args:List Value}{S:Nat->Prop}{Q':Value->Heap->Prop}{K:Env->Dfs->Heap->Prop}{dst:Option Nat}(H:Gs T f args {h with log:=[]} S Q')(hlog:∀v (h':Heap) l,Q' v h'→Q' v {h' with log:=l})(hK:∀v h',WsL base S h h'→Q' v h'→K (cC e dst v) ds h'):
 FW T (.func f) args {h with log:=[]} (KO K Q base dst e ds h.log):=by
 refine .func (CW.mono H ?_);rintro r h2 ⟨hx,v,rfl,hq⟩;exact⟨hK v _ hx.JA (hlog v h2 _ hq)⟩
theorem FW.RF{f:Nat}{args:List Value}{S:Nat->Prop}{Q':Value->Heap->Prop}{K:List Rec->Env->Heap->Prop}{mask:Nat}{rs:List Rec}{dst:Option Nat}(H:Gs T f args {h with log:=[]} S Q')(hlog:∀v (h':Heap) l,Q' v h'→Q' v {h' with log:=l})
 (hK:∀v h' lg,WsL base S h h'→(∀z∈lg,S z)->Q' v h'→∃rs',bC h' base lg mask rs=some rs'∧K rs' (cC e dst v) h'):FW T (.func f) args {h with log:=[]} (KD K base mask rs dst e h.log):=by
 refine .func (CW.mono H ?_);rintro r h2 ⟨hx,v,rfl,hq⟩;obtain⟨rs',q1,q2⟩:=hK v {h2 with log:=aC base h.log h2.log} h2.log hx.JA (λz hz=>(hx.log z hz).elim (λq=>by cases q) id) (hlog v h2 _ hq);refine⟨?_⟩;show kD K base mask rs dst e h.log (.ret v) h2;unfold kD;simp only[q1];exact q2
end Go.A
end
section
namespace Go.A
section
variable{T:Nat->Option an}{b:Nat}{r:Option Nat}{X:XQ}{os:List aV}{e:Env}{ds:Dfs}{h:Heap}{d:Option Nat}{x y z:Operand}{R:Prop}{n:Nat}{a c:aR}{K:Env->Dfs->Heap->Prop}{E:bB}{rs:List Rec}{bf is:List Nat}{Z:Env->Heap->Prop}
abbrev YpO:=@id (R->WO T b r X os e ds h)
abbrev YpE:=@id (R->WE T b r a X e ds h)
abbrev YpD:=@id (R->WD T b os bf Z is rs e h)
abbrev Yp0:=@id (R->WO T b r X (⟨d, .mov x,none⟩::os) e ds h)
variable{t:Nat}{B:Bool}{p:AOp}{u:Ea}{l:List Operand}
abbrev Yp1:=@id (R->WO T b r X (⟨d, p,some (t,B)⟩::os) e ds h)
abbrev Yp2:=@id (R->WO T b r X [] e ds h)
abbrev Yp3:=@id (R->WO T b r X (⟨d, .bin u x y,none⟩::os) e ds h)
abbrev Yp4:=@id (R->WO T b r X (⟨d, .load (some n) x,none⟩::os) e ds h)
abbrev Yp5:=@id (R->WO T b r X (⟨d, .load none x,none⟩::os) e ds h)
abbrev Yp6:=@id (R->WO T b r X (⟨d, .call x l,none⟩::os) e ds h)
abbrev Yp7:=@id (R->WO T b r X (⟨d, .dN n x,none⟩::os) e ds h)
abbrev Yp8:=@id (R->WO T b r X (⟨d, .len n x,none⟩::os) e ds h)
abbrev Yp9:=@id (R->WO T b r X (⟨d, .box x,none⟩::os) e ds h)
abbrev Yp10:=@id (R->WO T b r X (⟨d, .extract x n,none⟩::os) e ds h)
abbrev Yp11:=@id (R->WO T b r X (⟨d, .pick x y z,none⟩::os) e ds h)
abbrev Yp12:=@id (R->WO T b r X (⟨d, .aO n x y,none⟩::os) e ds h)
abbrev Yp13:=@id (R->WO T b r X (⟨d, .store n x y,none⟩::os) e ds h)
variable{D:List Value}
abbrev Yp14:=@id (R->WO T b r X (⟨d, .new D,none⟩::os) e ds h)
abbrev Yp15:=@id (R->WE T b r (.seq a c) X e ds h)
abbrev Yp16:=@id (R->WE T b r (.cond x a c) X e ds h)
abbrev Yp17:=@id (R->WE T b r (.skip) X e ds h)
abbrev Yp18:=@id (R->WE T b r (.ret) X e ds h)
abbrev Yp19:=@id (R->WE T b r (.block n a) X e ds h)
abbrev Yp20:=@id (R->KS K X E e ds h)
abbrev Yp21:=@id (R->KB n X E e ds h)
end
theorem YW{h:Heap}{x b:Nat}{o p:bG}(g:h.get b=some p):(h.wr x b o).get b=some o:=by rw[z6,g];rfl
theorem YG{h:Heap}{b:Nat}{c:Option bG}(H:h.get b=c:=by first|assumption|exact z3 _ _|exact Go.A.z8 (by omega) (by omega)|exact YW (by assumption)|(rw[z5 (by omega)];assumption)|(rw[z5 (by omega)];exact YW (by assumption))|exact YW ((z5 (by omega)).trans (by assumption))|(rw[z4 (by omega)];assumption)|(rw[z6,Go.A.z8 (by omega) (by omega)];exact rfl)|(rw[z6,z3];exact rfl)|(simp(disch:=first|omega|(simp only[z1,z2];omega))only[z3,z4,z5,z6,z7,z1,z2, *];done)|(simp(disch:=first|omega|(simp only[z1,z2];omega))only[z3,z4,z5,z6,z7,z1,z2, *];exact rfl)|(simp(disch:=first|omega|(simp only[z1,z2];omega)|(simp only[z1,z2];done)|fail)only[Go.A.z8,z4,z5,z9,z7,z1,z2, *];done)|(simp(disch:=first|omega|(simp only[z1,z2];omega)|(simp only[z1,z2];done)|fail)only[Go.A.z8,z4,z5,z9,z7,z1,z2, *];exact rfl)|(simp(disch:=first|omega|(simp only[z1,z2];omega))only[z3,z4,z5,z6,z7,z1,z2];done)|(simp(disch:=first|omega|(simp only[z1,z2];omega))only[z3,z4,z5,z6,z7,z1,z2];exact rfl)|(simp(disch:=first|omega|(simp only[z1,z2];omega)|(simp only[z1,z2];done)|fail)only[Go.A.z8,z4,z5,z9,z7,z1,z2];done)|(simp(disch:=first|omega|(simp only[z1,z2];omega)|(simp only[z1,z2];done)|fail)only[Go.A.z8,z4,z5,z9,z7,z1,z2];exact rfl)):h.get b=c:=H
theorem Yc1{P R:Prop}(s:R->P:=by first|(apply YpO;first|(apply Yp0;first|exact λH=>yM H)|(apply Yp1;first|exact λH=>yO H|exact λH=>yP H)|(apply Yp2;first|exact λH=>y3 H)|(apply Yp3;first|exact λH=>yW H|exact λH=>Xl H|exact λH=>yt H|exact λH=>yf H)|(apply Yp4;first|exact λH=>yV H|exact λH=>yN H)|(apply Yp5;first|exact λH=>aD (bY (by exact rfl) (by assumption) (by assumption)) H|exact λH=>yL H|exact λH=>yL (hb:=YG) H)|(apply Yp6;first|exact λH=>yC H)|(apply Yp7;first|exact λH=>yF H)|(apply Yp8;first|exact λH=>yD H)|(apply Yp9;first|exact λH=>yB H)|(apply Yp10;first|exact λH=>yE H)|(apply Yp11;first|exact λH=>yT H|exact λH=>yU H)|(apply Yp12;first|exact λH=>yI H)|(apply Yp13;first|exact λH=>yS H|exact λH=>yS (hb:=YG) H)|(apply Yp14;first|exact λH=>aD (uj) H)|(exact λH=>yA H)|(exact λH=>VI (by exact rfl) H)|(exact λH=>aD (mT (by exact rfl) (by exact rfl)) H)|(exact λH=>aD (VN (by exact rfl) (by exact rfl)) H)|(exact λH=>aD (p8 (by exact rfl)) H)|(exact λH=>aD (oL (by exact rfl) (by exact rfl) (by omega)) H)|(exact λH=>aD (gp (by exact rfl)) H)|(exact λH=>aD (I9 (by exact rfl) (by exact rfl)) H))|(apply YpE;first|(apply Yp15;first|exact λH=>y4 H|exact λH=>BQ H)|(apply Yp16;first|exact λH=>yX H|exact λH=>yY H)|(apply Yp17;first|exact λH=>Qa H)|(apply Yp18;first|exact λH=>tZ H)|(apply Yp19;first|exact λH=>kG H)|(exact λH=>tY H)|(exact λH=>P7 H)|(exact λH=>P8 H))|(apply YpD;first|(exact λH=>qM H)|(exact λH=>qF H)|(exact λH=>qV H)|(exact λH=>qW H)|(exact λH=>qI H)|(exact λH=>qC H)|(exact λH=>qK H)|(exact λH=>qJ H)|(exact λH=>qL H)|(exact λH=>qN H)|(exact λH=>qO H)|(exact λH=>BP H)|(exact λH=>bW rfl rfl rfl (by exact rfl) (by exact rfl) (by exact rfl) (Ai (by exact rfl)) H)|(exact λH=>bW rfl rfl rfl (by exact rfl) (by exact rfl) (by exact rfl) (QE (by exact rfl)) H)|(exact λH=>bW rfl rfl rfl (by exact rfl) (by exact rfl) (by exact rfl) (Ak (by exact rfl) (by exact rfl)) H)|(exact λH=>bW rfl rfl rfl (by exact rfl) (by exact rfl) (by exact rfl) (FK (by exact rfl) (by exact rfl)) H)|(exact λH=>bW rfl rfl rfl (by exact rfl) (by exact rfl) (by exact rfl) (gp (by exact rfl)) H)|(exact λH=>bW rfl rfl rfl (by exact rfl) (by exact rfl) (by exact rfl) (uR (by exact rfl) (by exact rfl)) H)|(exact λH=>bW rfl rfl rfl (by exact rfl) (by exact rfl) (by exact rfl) (Am (by exact rfl) (by exact rfl)) H))|(first|(apply Yp20;first|exact λH=>Ku H|exact λH=>WU H|exact λH=>UN H)|(apply Yp21;first|exact λH=>UJ H|exact λH=>WS H|exact λH=>WT H)|(exact λH=>y1 H))):R->P:=s
theorem Yc2{P Q R:Prop}(s:Q->P:=by exact Yc1)(g:R->Q:=by exact Yc1):R->P:=λa=>s (g a)
theorem Yc3{P Q R:Prop}(s:Q->P:=by exact Yc1)(g:R->Q:=by exact Yc2):R->P:=λa=>s (g a)
theorem Yc4{P Q R:Prop}(s:Q->P:=by exact Yc1)(g:R->Q:=by exact Yc3):R->P:=λa=>s (g a)
theorem Yc5{P Q R:Prop}(s:Q->P:=by exact Yc1)(g:R->Q:=by exact Yc4):R->P:=λa=>s (g a)
theorem Yc6{P Q R:Prop}(s:Q->P:=by exact Yc1)(g:R->Q:=by exact Yc5):R->P:=λa=>s (g a)
theorem Yc7{P Q R:Prop}(s:Q->P:=by exact Yc1)(g:R->Q:=by exact Yc6):R->P:=λa=>s (g a)
theorem Yc8{P Q R:Prop}(s:Q->P:=by exact Yc1)(g:R->Q:=by exact Yc7):R->P:=λa=>s (g a)
theorem Yc9{P Q R:Prop}(s:Q->P:=by exact Yc1)(g:R->Q:=by exact Yc8):R->P:=λa=>s (g a)
theorem Yc10{P Q R:Prop}(s:Q->P:=by exact Yc1)(g:R->Q:=by exact Yc9):R->P:=λa=>s (g a)
theorem Yc11{P Q R:Prop}(s:Q->P:=by exact Yc1)(g:R->Q:=by exact Yc10):R->P:=λa=>s (g a)
theorem Yc12{P Q R:Prop}(s:Q->P:=by exact Yc1)(g:R->Q:=by exact Yc11):R->P:=λa=>s (g a)
theorem Yc13{P Q R:Prop}(s:Q->P:=by exact Yc1)(g:R->Q:=by exact Yc12):R->P:=λa=>s (g a)
theorem Yc14{P Q R:Prop}(s:Q->P:=by exact Yc1)(g:R->Q:=by exact Yc13):R->P:=λa=>s (g a)
theorem Yc15{P Q R:Prop}(s:Q->P:=by exact Yc1)(g:R->Q:=by exact Yc14):R->P:=λa=>s (g a)
theorem Yc16{P Q R:Prop}(s:Q->P:=by exact Yc1)(g:R->Q:=by exact Yc15):R->P:=λa=>s (g a)
theorem Yc17{P Q R:Prop}(s:Q->P:=by exact Yc1)(g:R->Q:=by exact Yc16):R->P:=λa=>s (g a)
theorem Yc18{P Q R:Prop}(s:Q->P:=by exact Yc1)(g:R->Q:=by exact Yc17):R->P:=λa=>s (g a)
theorem Yc19{P Q R:Prop}(s:Q->P:=by exact Yc1)(g:R->Q:=by exact Yc18):R->P:=λa=>s (g a)
theorem Yc20{P Q R:Prop}(s:Q->P:=by exact Yc1)(g:R->Q:=by exact Yc19):R->P:=λa=>s (g a)
theorem Yc21{P Q R:Prop}(s:Q->P:=by exact Yc1)(g:R->Q:=by exact Yc20):R->P:=λa=>s (g a)
theorem Yc22{P Q R:Prop}(s:Q->P:=by exact Yc1)(g:R->Q:=by exact Yc21):R->P:=λa=>s (g a)
theorem Yc23{P Q R:Prop}(s:Q->P:=by exact Yc1)(g:R->Q:=by exact Yc22):R->P:=λa=>s (g a)
theorem Yc24{P Q R:Prop}(s:Q->P:=by exact Yc1)(g:R->Q:=by exact Yc23):R->P:=λa=>s (g a)
theorem Yc25{P Q R:Prop}(s:Q->P:=by exact Yc1)(g:R->Q:=by exact Yc24):R->P:=λa=>s (g a)
theorem Yc26{P Q R:Prop}(s:Q->P:=by exact Yc1)(g:R->Q:=by exact Yc25):R->P:=λa=>s (g a)
theorem Yc27{P Q R:Prop}(s:Q->P:=by exact Yc1)(g:R->Q:=by exact Yc26):R->P:=λa=>s (g a)
theorem Yc28{P Q R:Prop}(s:Q->P:=by exact Yc1)(g:R->Q:=by exact Yc27):R->P:=λa=>s (g a)
theorem Yc29{P Q R:Prop}(s:Q->P:=by exact Yc1)(g:R->Q:=by exact Yc28):R->P:=λa=>s (g a)
theorem Yc30{P Q R:Prop}(s:Q->P:=by exact Yc1)(g:R->Q:=by exact Yc29):R->P:=λa=>s (g a)
theorem Yc31{P Q R:Prop}(s:Q->P:=by exact Yc1)(g:R->Q:=by exact Yc30):R->P:=λa=>s (g a)
theorem Yc32{P Q R:Prop}(s:Q->P:=by exact Yc1)(g:R->Q:=by exact Yc31):R->P:=λa=>s (g a)
theorem Yc33{P Q R:Prop}(s:Q->P:=by exact Yc1)(g:R->Q:=by exact Yc32):R->P:=λa=>s (g a)
theorem Yc34{P Q R:Prop}(s:Q->P:=by exact Yc1)(g:R->Q:=by exact Yc33):R->P:=λa=>s (g a)
theorem Yc35{P Q R:Prop}(s:Q->P:=by exact Yc1)(g:R->Q:=by exact Yc34):R->P:=λa=>s (g a)
theorem Yc36{P Q R:Prop}(s:Q->P:=by exact Yc1)(g:R->Q:=by exact Yc35):R->P:=λa=>s (g a)
theorem Yc37{P Q R:Prop}(s:Q->P:=by exact Yc1)(g:R->Q:=by exact Yc36):R->P:=λa=>s (g a)
theorem Yc38{P Q R:Prop}(s:Q->P:=by exact Yc1)(g:R->Q:=by exact Yc37):R->P:=λa=>s (g a)
theorem Yc39{P Q R:Prop}(s:Q->P:=by exact Yc1)(g:R->Q:=by exact Yc38):R->P:=λa=>s (g a)
theorem Yc40{P Q R:Prop}(s:Q->P:=by exact Yc1)(g:R->Q:=by exact Yc39):R->P:=λa=>s (g a)
theorem Y2{P R:Prop}(H:R)(s:R->P:=by exact Yc2):P:=s H
theorem Y3{P R:Prop}(H:R)(s:R->P:=by exact Yc3):P:=s H
theorem Y4{P R:Prop}(H:R)(s:R->P:=by exact Yc4):P:=s H
theorem Y5{P R:Prop}(H:R)(s:R->P:=by exact Yc5):P:=s H
theorem Y6{P R:Prop}(H:R)(s:R->P:=by exact Yc6):P:=s H
theorem Y7{P R:Prop}(H:R)(s:R->P:=by exact Yc7):P:=s H
theorem Y8{P R:Prop}(H:R)(s:R->P:=by exact Yc8):P:=s H
theorem Y9{P R:Prop}(H:R)(s:R->P:=by exact Yc9):P:=s H
theorem Y10{P R:Prop}(H:R)(s:R->P:=by exact Yc10):P:=s H
theorem Y11{P R:Prop}(H:R)(s:R->P:=by exact Yc11):P:=s H
theorem Y12{P R:Prop}(H:R)(s:R->P:=by exact Yc12):P:=s H
theorem Y13{P R:Prop}(H:R)(s:R->P:=by exact Yc13):P:=s H
theorem Y14{P R:Prop}(H:R)(s:R->P:=by exact Yc14):P:=s H
theorem Y15{P R:Prop}(H:R)(s:R->P:=by exact Yc15):P:=s H
theorem Y16{P R:Prop}(H:R)(s:R->P:=by exact Yc16):P:=s H
theorem Y17{P R:Prop}(H:R)(s:R->P:=by exact Yc17):P:=s H
theorem Y18{P R:Prop}(H:R)(s:R->P:=by exact Yc18):P:=s H
theorem Y19{P R:Prop}(H:R)(s:R->P:=by exact Yc19):P:=s H
theorem Y20{P R:Prop}(H:R)(s:R->P:=by exact Yc20):P:=s H
theorem Y21{P R:Prop}(H:R)(s:R->P:=by exact Yc21):P:=s H
theorem Y22{P R:Prop}(H:R)(s:R->P:=by exact Yc22):P:=s H
theorem Y23{P R:Prop}(H:R)(s:R->P:=by exact Yc23):P:=s H
theorem Y24{P R:Prop}(H:R)(s:R->P:=by exact Yc24):P:=s H
theorem Y25{P R:Prop}(H:R)(s:R->P:=by exact Yc25):P:=s H
theorem Y26{P R:Prop}(H:R)(s:R->P:=by exact Yc26):P:=s H
theorem Y27{P R:Prop}(H:R)(s:R->P:=by exact Yc27):P:=s H
theorem Y28{P R:Prop}(H:R)(s:R->P:=by exact Yc28):P:=s H
theorem Y30{P R:Prop}(H:R)(s:R->P:=by exact Yc30):P:=s H
theorem Y31{P R:Prop}(H:R)(s:R->P:=by exact Yc31):P:=s H
theorem Y33{P R:Prop}(H:R)(s:R->P:=by exact Yc33):P:=s H
theorem Y34{P R:Prop}(H:R)(s:R->P:=by exact Yc34):P:=s H
theorem Y35{P R:Prop}(H:R)(s:R->P:=by exact Yc35):P:=s H
theorem Y37{P R:Prop}(H:R)(s:R->P:=by exact Yc37):P:=s H
theorem Y38{P R:Prop}(H:R)(s:R->P:=by exact Yc38):P:=s H
theorem Y39{P R:Prop}(H:R)(s:R->P:=by exact Yc39):P:=s H
theorem Y40{P R:Prop}(H:R)(s:R->P:=by exact Yc40):P:=s H
end Go.A
end
