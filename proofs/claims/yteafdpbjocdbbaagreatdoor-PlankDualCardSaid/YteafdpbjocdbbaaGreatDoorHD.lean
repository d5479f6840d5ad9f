/- How a run is reckoned. -/
import Derived.Test.YteafdpbjocdbbaaGreatDoorHC
import Derived.Test.YteafdpbjocdbbaaGreatDoorHA
import Derived.Lib.Bytealg
import Derived.Below
import Derived.Test.YteafdpbjocdbbaaGreatDoorHE
set_option linter.all false
section
namespace Go.A
variable {P:Program}
def Tr.all(Q:Nat→ah→Prop):Tr→Prop
 | .nil=>True
 | .node l k v r=>l.all Q∧Q k v∧r.all Q
theorem Tr.all_nil{Q:Nat→ah→Prop}:Tr.all Q .nil:=trivial
theorem Tr.au{Q:Nat→ah→Prop}{l r:Tr}{k:Nat}{v:ah}(h1:l.all Q)(h2:Q k v)(h3:r.all Q):Tr.all Q (.node l k v r):=⟨h1,h2,h3⟩
theorem Tr.qY{Q:Nat→ah→Prop}:∀{t:Tr} {n:Nat} {v:ah},t.all Q→t.get n=some v→Q n v
 | .nil,_,_,_,h=>by cases h
 | .node l k v r,n,u,ha,h=>by
   simp only[Tr.get,cond_eq_ite,beq_eq,decide_eq_true_eq]at h
   split at h
   ·rename_i e;subst e;cases h;exact ha.2.1
   ·split at h
    ·exact Tr.qY ha.1 h
    ·exact Tr.qY ha.2.2 h
def sG(P:Program)(f:Nat)(p:List Value→Heap→Option (Value×Heap)):Prop:=∀args h v h',p args h=some (v,h')→h.log=[]→AS h.next h h'∧∀μ w args',R P μ h w→LR μ args args'→kN P (eZ P μ h w (.ret v) h') ((callFunc f args'.toArray).run P w)
inductive Entry (P:Program) (k:Nat):ah→Prop
 |code {c rs fn ks}:P.funcs[k]? =some fn→bB P fn ks=some (.code c rs)→Entry P k (.code c rs)
 |jd {p}:sG P k p→Entry P k (.jd p)
theorem Entry.of{k:Nat}{fn:Func}{a:ah}{ks:List (List Nat)}(h1:P.funcs[k]? =some fn)(h2:bB P fn ks=some a):Entry P k a:=by
 have h3:=h2
 unfold bB at h3
 split at h3
 ·split at h3
  ·cases h3
  ·split at h3
   ·cases h3;exact .code h1 h2
   ·cases h3
 ·cases h3
theorem uE{t:Tr}(hm:P.follows .mixedOrders=true)(h:t.all (Entry P)):eK P t.get where
 mixed:=hm
 code:=fun f c rs hf=>by
  have:=Tr.qY h hf
  cases this with
  |code h1 h2=>exact⟨_,_,h1,h2⟩
 jd:=fun f p args h0 v h' hf hp hl=>by
  have:=Tr.qY h hf
  cases this with
  |jd h1=>exact h1 args h0 v h' hp hl
theorem R.grow{μ:Mu}{h:Heap}{w w':World}(hR:R P μ h w)(hs:w.heap.size≤w'.heap.size)(hk:∀r,r<w.heap.size→w'.heap[r]? =w.heap[r]?)(hsm:Same w w'):R P μ h w'∧St μ h w μ h w':=
 ⟨⟨hR.big,hR.nY,fun b o hb=>OR.mono (fun _ _ h=>h) rfl (fun k hk'=>hk _ (hR.dom _ _ hk').2) (hR.obj b o hb),hR.lt,fun b k hb=>⟨(hR.dom b k hb).1,Nat.lt_of_lt_of_le (hR.dom b k hb).2 hs⟩,hR.nu⟩,
   ⟨fun _ _=>rfl,hs,fun r hr _=>hk r hr,fun _ _ h=>h,fun r L h=>⟨L,(hk r (Array.getElem?_eq_some_iff.1 h).1).trans h, .refl L⟩,hsm⟩⟩
theorem Bf{f:Nat}{fn:Func}(hf:P.funcs[f]? =some fn)(hn:fn.name≠ "runtime.NumGoroutine")(hb:fn.body.isSome=true)(args:Array Value)(w:World):(callFunc f args).run P w= .ok (.enter f args) w:=by
 cases hb':fn.body with
 |none=>rw[hb']at hb;cases hb
 |some b=>simp[callFunc,program,Sem.run,hf,hb',hn]
theorem kF{μ:Mu}{h:Heap}{w:World}{f:Nat}{fn:Func}(hf:P.funcs[f]? =some fn)(hn:fn.name≠ "runtime.NumGoroutine")(hb:fn.body.isSome=true){args:Array Value}{Q:Ending→World→Prop}(hc:Calls P f args w Q)
 {res:Res}{h':Heap}(hq:∀e w',Q e w'→eZ P μ h w res h' e w'):kN P (eZ P μ h w res h') ((callFunc f args).run P w):=by
 rw[Bf hf hn hb]
 exact callsIn_wide.2 (hc.mono hq)
theorem tA{μ:Mu}{h:Heap}{w w':World}{v v':Value}(hR:R P μ h w)(hv:VR μ v v')(hb:RowKit.Below w.heap.size w w'):eZ P μ h w (.ret v) h (.returned v') w':=
 ⟨μ,hv,(hR.grow hb.size hb.block ⟨hb.os,hb.tape,hb.output⟩).1,(hR.grow hb.size hb.block ⟨hb.os,hb.tape,hb.output⟩).2⟩
theorem nG{μ:Mu}{h:Heap}{w:World}{v v':Value}(hR:R P μ h w)(hv:VR μ v v'){r:Result Next}(hr:r= .ok (.value v') w):kN P (eZ P μ h w (.ret v) h) r:=by
 rw[hr];exact⟨μ,hv,hR, .refl _ _ _⟩
theorem Dx{x:UInt8}{c:Nat}(hc:c<256):eqB x c=(x==(UInt8.ofNat c)):=by
 unfold eqB
 rw[beq_eq,Bool.eq_iff_iff]
 simp only[decide_eq_true_eq,beq_iff_eq]
 constructor
 ·intro h;subst h;simp
 ·intro h;subst h;simp;omega
theorem AK{c:Nat}(hc:c<256):∀(l:List UInt8) (i:Nat),BU c l i=if Lib.indexByte l (UInt8.ofNat c)= -1 then -1 else Lib.indexByte l (UInt8.ofNat c)+i
 |[],i=>by simp[BU,Lib.indexByte]
 |x::l,i=>by
  have hge:=Lib.indexByte_ge l (UInt8.ofNat c)
  simp only[BU,Lib.indexByte,Dx hc,cond_eq_ite]
  split
  ·simp
  ·rw[AK hc l (i+1)]
   by_cases h:Lib.indexByte l (UInt8.ofNat c)= -1
   ·simp[h]
   ·have:¬ (Lib.indexByte l (UInt8.ofNat c)== -1)=true:=by simpa using h
    rw[if_neg h,if_neg this,if_neg (by omega)]
    push_cast;omega
theorem Bj{c:Nat}(hc:c<256)(l:List UInt8):BU c l 0=Lib.indexByte l (UInt8.ofNat c):=by
 rw[AK hc]
 split
 ·rename_i h;rw[h]
 ·simp
theorem AT{c:Nat}(hc:c<256):∀(l:List UInt8) (n:Nat),Cs c l n=n+l.count (UInt8.ofNat c)
 |[],n=>by simp[Cs]
 |x::l,n=>by
  simp only[Cs,Dx hc,cond_eq_ite,List.count_cons]
  split<;>rw[AT hc l]<;>omega
theorem LR.two{μ:Mu}{x y:Value}{l:List Value}(h:LR μ [x,y] l):∃x' y',l=[x',y']∧VR μ x x'∧VR μ y y':=by
 cases h with
 |cons h1 h2=>cases h2 with
  |cons h2 h3=>cases h3;exact⟨_,_,rfl,h1,h2⟩
theorem HW{f:Nat}{fn:Func}(hf:P.funcs[f]? =some fn)(hname:(fn.name== "runtime.NumGoroutine")=false)(hb:fn.body.isNone=true)(hn:Extern.findNext fn=none)(he:Extern.find fn=some Extern.BytealgIndexByte.indexByte):sG P f Ik:=by
 intro args h v h' hp _
 unfold Ik at hp
 split at hp
 ·rename_i s c
  simp only[cond_eq_ite,blt_eq,decide_eq_true_eq,Option.ite_none_right_eq_some]at hp
  obtain⟨hc,hp⟩:=hp
  cases hp
  refine⟨.refl _ _,fun μ w args' hR ha=> ?_⟩
  obtain⟨x',y',rfl,hx,hy⟩:=ha.two
  cases hx;cases hy
  refine nG hR (.int _ _) ?_
  rw[run_callFunc_extern hf hname hb hn he]
  have e:(Int.ofNat c).toNat.toUInt8=UInt8.ofNat c:=rfl
  rw[Lib.run_indexByteString,e,Bj hc]
  rfl
 ·cases hp
theorem HU{f:Nat}{fn:Func}(hf:P.funcs[f]? =some fn)(hname:(fn.name== "runtime.NumGoroutine")=false)(hb:fn.body.isNone=true)(hn:Extern.findNext fn=none)(he:Extern.find fn=some Extern.BytealgCount.count):sG P f GK:=by
 intro args h v h' hp _
 unfold GK at hp
 split at hp
 ·rename_i s c
  simp only[cond_eq_ite,blt_eq,decide_eq_true_eq,Option.ite_none_right_eq_some]at hp
  obtain⟨hc,hp⟩:=hp
  cases hp
  refine⟨.refl _ _,fun μ w args' hR ha=> ?_⟩
  obtain⟨x',y',rfl,hx,hy⟩:=ha.two
  cases hx;cases hy
  refine nG hR (.int _ _) ?_
  rw[run_callFunc_extern hf hname hb hn he]
  have e:(Int.ofNat c).toNat.toUInt8=UInt8.ofNat c:=rfl
  rw[Lib.run_countString,e,AT hc]
  simp[Lib.countByte]
 ·cases hp
end Go.A
end
section
namespace Go.A
variable {T:Nat→Option ah}
def Ev(T:Nat→Option ah)(base:Nat)(rnd:Option Nat)(c:aJ)(e:Env)(ds:Dfs)(h:Heap)(r:bQ×Env×Dfs×Heap):Prop:=∃m,∀n,m≤n→b9 T n base rnd c e ds h=some r
def EvO(T:Nat→Option ah)(base:Nat)(rnd:Option Nat)(ops:List aQ)(e:Env)(ds:Dfs)(h:Heap)(r:bQ×Env×Dfs×Heap):Prop:=∃m,∀n,m≤n→gL T n base rnd ops e ds h=some r
def EvD(T:Nat→Option ah)(base:Nat)(ops:List aQ)(is bf:List Nat)(rs:List Rec)(e:Env)(h:Heap)(r:bQ×Env×Heap):Prop:=∃m,∀n,m≤n→di T n base ops is bf rs e h=some r
def EvF(T:Nat→Option ah)(fn:Fn)(args:List Value)(h:Heap)(r:Res×Heap):Prop:=∃m,∀n,m≤n→fE T n fn args h=some r
def EvC(T:Nat→Option ah)(f:Nat)(args:List Value)(h:Heap)(r:Res×Heap):Prop:=∃m,∀n,m≤n→gT T n f args h=some r
def XW(T:Nat→Option ah)(base:Nat)(rnd:Option Nat)(c:aJ)(e:Env)(ds:Dfs)(h:Heap)(Q:bQ→Env→Dfs→Heap→Prop):Prop:=∃x e' ds' h',Ev T base rnd c e ds h (x,e',ds',h')∧Q x e' ds' h'
def FW(T:Nat→Option ah)(fn:Fn)(args:List Value)(h:Heap)(Q:Res→Heap→Prop):Prop:=∃r h',EvF T fn args h (r,h')∧Q r h'
def CW(T:Nat→Option ah)(f:Nat)(args:List Value)(h:Heap)(Q:Res→Heap→Prop):Prop:=∃r h',EvC T f args h (r,h')∧Q r h'
theorem XW.mono{base:Nat}{rnd:Option Nat}{c:aJ}{e:Env}{ds:Dfs}{h:Heap}{Q Q':bQ→Env→Dfs→Heap→Prop}(H:XW T base rnd c e ds h Q)(hq:∀x e ds h,Q x e ds h→Q' x e ds h):XW T base rnd c e ds h Q':=
 let⟨x,e',ds',h',h1,h2⟩:=H;⟨x,e',ds',h',h1,hq _ _ _ _ h2⟩
theorem CW.mono{f:Nat}{args:List Value}{h:Heap}{Q Q':Res→Heap→Prop}(H:CW T f args h Q)(hq:∀r h,Q r h→Q' r h):CW T f args h Q':=
 let⟨r,h',h1,h2⟩:=H;⟨r,h',h1,hq _ _ h2⟩
abbrev XQ:=bQ→Env→Dfs→Heap→Prop
def kR(keep:List Nat)(Q:XQ):XQ:=fun x e ds h=>match x with
 | .normal=>Q .normal (bS e keep) ds h
 |x=>Q x e ds h
def kB(id:Nat)(Q:XQ):XQ:=fun x e ds h=>match x with
 | .exit i=>(i=id→Q .normal e ds h)∧(i≠id→Q (.exit i) e ds h)
 |x=>Q x e ds h
def kS(K:Env→Dfs→Heap→Prop)(Q:XQ):XQ:=fun x e ds h=>match x with
 | .normal=>K e ds h
 |x=>Q x e ds h
def kO(K:Env→Dfs→Heap→Prop)(Q:XQ)(base:Nat)(dst:Option Nat)(e:Env)(ds:Dfs)(log:List Nat):Res→Heap→Prop:=fun r h2=>match r with
 | .ret v=>K (bK e dst v) ds {h2 with log:=ax base log h2.log}
 | .panic v=>Q (.panic v) e ds {h2 with log:=ax base log h2.log}
def kD(K:List Rec→Env→Heap→Prop)(base:Nat)(mask:Nat)(rs:List Rec)(dst:Option Nat)(e:Env)(log:List Nat):Res→Heap→Prop:=fun r h2=>match r with
 | .ret v=>match bg {h2 with log:=ax base log h2.log} base h2.log mask rs with
   |some rs'=>K rs' (bK e dst v) {h2 with log:=ax base log h2.log}
   |none=>False
 | .panic _=>False
def wpA(T:Nat→Option ah)(base:Nat)(rnd:Option Nat)(wpO:Env→Dfs→Heap→Prop)(Q:XQ)(dst:Option Nat)(e:Env)(ds:Dfs)(h:Heap):Option cj→Prop
 |some (.val v h')=>wpO (bK e dst v) ds h'
 |some (.call fn args h')=>FW T fn args {h' with log:=[]} (kO wpO Q base dst e ds h'.log)
 |some (.iN f args)=>rnd=none∧wpO (bK e dst (.tuple #[])) ((f,args)::ds) h
 |some (.panic v h')=>Q (.panic v) e ds h'
 |_=>False
def wpG(A:Prop)(B:Prop):Option Bool→Prop
 |some c=>(c=false→B)∧(c=true→A)
 |none=>False
def wpO(T:Nat→Option ah)(base:Nat)(rnd:Option Nat)(Q:XQ):List aQ→Env→Dfs→Heap→Prop
 |[],e,ds,h=>Q .normal e ds h
 |o::os,e,ds,h=>wpG (wpA T base rnd (wpO T base rnd Q os) Q o.dst e ds h (aop h base e o.op)) (wpO T base rnd Q os (bK e o.dst (.tuple #[])) ds h) (bA e o.guard)
def Lh(T:Nat→Option ah)(base:Nat)(wpD:List Rec→Env→Heap→Prop)(i:Nat)(o:aQ)(mask:Nat)(rs:List Rec)(er e:Env)(h:Heap):Prop:=
 match gU o.op with
 |true=>
  match aop h base er o.op with
  |some (.val v h')=>
   match cO o.op with
   |true=>kq h' base rs=true∧wpD (⟨i,o,er,v, .made h.next⟩::rs) (bK e o.dst v) h'
   |false=>h'.next=h.next∧wpD (⟨i,o,er,v, .quiet⟩::rs) (bK e o.dst v) h
  |_=>False
 |false=>
  match aop {h with log:=[]} h.next er o.op with
  |some (.val v h2)=>match bg {h2 with log:=ax base h.log h2.log} base h2.log mask rs with
   |some rs'=>wpD rs' (bK e o.dst v) {h2 with log:=ax base h.log h2.log}
   |none=>False
  |some (.call fn args _)=>FW T fn args {h with log:=[]} (kD wpD base mask rs o.dst e h.log)
  |_=>False
def wpD(T:Nat→Option ah)(base:Nat)(ops:List aQ)(bf:List Nat)(Q:Env→Heap→Prop):List Nat→List Rec→Env→Heap→Prop
 |[],_,e,h=>Q e h
 |i::is,rs,e,h=>
  match bG ops i,bG bf i with
  |some o,some mask=>wpG (Lh T base (wpD T base ops bf Q is) i o mask rs (bS e (bR o)) e h) (wpD T base ops bf Q is (⟨i,o,bS e (bR o), .tuple #[], .skip⟩::rs) (bK e o.dst (.tuple #[])) h) (bA (bS e (bR o)) o.guard)
  |_,_=>False
def wpC(A B:Prop):Option Value→Prop
 |some (.bool t)=>(t=true→A)∧(t=false→B)
 |_=>False
def wpE(T:Nat→Option ah)(base:Nat)(rnd:Option Nat):aJ→XQ→Env→Dfs→Heap→Prop
 | .skip,Q,e,ds,h=>Q .normal e ds h
 | .region ops keep,Q,e,ds,h=>wpO T base rnd (kR keep Q) ops e ds h
 | .draw ops order bf keep,Q,e,ds,h=>wpD T base ops bf (fun e' h'=>Q .normal (bS e' keep) ds h') order [] e h
 | .seq a b,Q,e,ds,h=>wpE T base rnd a (kS (wpE T base rnd b Q) Q) e ds h
 | .cond c a b,Q,e,ds,h=>wpC (wpE T base rnd a Q e ds h) (wpE T base rnd b Q e ds h) (ev h e c)
 | .block id b,Q,e,ds,h=>wpE T base rnd b (kB id Q) e ds h
 | .loop b,Q,e,ds,h=>XW T base rnd (.loop b) e ds h Q
 | .rangeFunc f ps a b,Q,e,ds,h=>XW T base rnd (.rangeFunc f ps a b) e ds h Q
 | .exit id,Q,e,ds,h=>Q (.exit id) e ds h
 | .ret,Q,e,ds,h=>Q .ret e ds h
theorem pT{base:Nat}{rnd:Option Nat}{Q:XQ}:∀{ops:List aQ} {e:Env} {ds:Dfs} {h:Heap},wpO T base rnd Q ops e ds h→∃x e' ds' h',EvO T base rnd ops e ds h (x,e',ds',h')∧Q x e' ds' h'
 |[],e,ds,h,H=>⟨.normal,e,ds,h,⟨1,fun n hn=>by obtain⟨k,rfl⟩:∃k,n=k+1:=⟨n-1,by omega⟩;simp only[gL]⟩,H⟩
 |o::os,e,ds,h,H=>by
  simp only[wpO]at H
  unfold wpG at H
  split at H
  ·rename_i c hc
   cases c with
   |false=>
    obtain⟨x,e',ds',h',⟨m,h1⟩,h2⟩:=pT (H.1 rfl)
    exact⟨x,e',ds',h',⟨m+1,fun n hn=>by
     obtain⟨k,rfl⟩:∃k,n=k+1:=⟨n-1,by omega⟩
     simp only[gL,hc];exact h1 k (by omega)⟩,h2⟩
   |true=>
    have H:=H.2 rfl
    unfold wpA at H
    split at H
    ·rename_i v h3 ho
     obtain⟨x,e',ds',h',⟨m,h1⟩,h2⟩:=pT H
     exact⟨x,e',ds',h',⟨m+1,fun n hn=>by
      obtain⟨k,rfl⟩:∃k,n=k+1:=⟨n-1,by omega⟩
      simp only[gL,hc,ho];exact h1 k (by omega)⟩,h2⟩
    ·rename_i fn args h3 ho
     obtain⟨r,h4,⟨m1,hf⟩,H⟩:=H
     cases r with
     |ret v=>
      obtain⟨x,e',ds',h',⟨m,h1⟩,h2⟩:=pT H
      exact⟨x,e',ds',h',⟨m+m1+1,fun n hn=>by
       obtain⟨k,rfl⟩:∃k,n=k+1:=⟨n-1,by omega⟩
       simp only[gL,hc,ho,hf k (by omega)];exact h1 k (by omega)⟩,h2⟩
     |panic v=>
      exact⟨_,_,_,_,⟨m1+1,fun n hn=>by
       obtain⟨k,rfl⟩:∃k,n=k+1:=⟨n-1,by omega⟩
       simp only[gL,hc,ho,hf k (by omega)]⟩,H⟩
    ·rename_i f args ho
     obtain⟨hr,H⟩:=H
     subst hr
     obtain⟨x,e',ds',h',⟨m,h1⟩,h2⟩:=pT H
     exact⟨x,e',ds',h',⟨m+1,fun n hn=>by
      obtain⟨k,rfl⟩:∃k,n=k+1:=⟨n-1,by omega⟩
      simp only[gL,hc,ho];exact h1 k (by omega)⟩,h2⟩
    ·rename_i v h3 ho
     exact⟨_,_,_,_,⟨1,fun n hn=>by
      obtain⟨k,rfl⟩:∃k,n=k+1:=⟨n-1,by omega⟩
      simp only[gL,hc,ho]⟩,H⟩
    ·exact H.elim
  ·exact H.elim
theorem zG{base:Nat}{ops:List aQ}{bf:List Nat}{Q:Env→Heap→Prop}:∀{is:List Nat} {rs:List Rec} {e:Env} {h:Heap},wpD T base ops bf Q is rs e h→∃e' h',EvD T base ops is bf rs e h (.normal,e',h')∧Q e' h'
 |[],rs,e,h,H=>⟨e,h,⟨1,fun n hn=>by obtain⟨k,rfl⟩:∃k,n=k+1:=⟨n-1,by omega⟩;simp only[di]⟩,H⟩
 |i::is,rs,e,h,H=>by
  simp only[wpD]at H
  split at H
  ·rename_i o mask ho hm
   unfold wpG at H
   split at H
   ·rename_i c hc
    have fin:∀{rs':List Rec} {e1:Env} {h1:Heap},wpD T base ops bf Q is rs' e1 h1→(∃m,∀n,m≤n→∀r,di T n base ops is bf rs' e1 h1=some r→di T (n+1) base ops (i::is) bf rs e h=some r)→∃e' h',EvD T base ops (i::is) bf rs e h (.normal,e',h')∧Q e' h':=fun hw ⟨m0,hs⟩=>by
     obtain⟨e',h',⟨m,h1⟩,h2⟩:=zG hw
     exact⟨e',h',⟨m+m0+1,fun n hn=>by
      obtain⟨k,rfl⟩:∃k,n=k+1:=⟨n-1,by omega⟩
      exact hs k (by omega) _ (h1 k (by omega))⟩,h2⟩
    cases c with
    |false=>
     exact fin (H.1 rfl) ⟨0,fun n _ r hr=>by simp only[di,ho,hm,hc];exact hr⟩
    |true=>
     have H:=H.2 rfl
     unfold Lh at H
     split at H
     ·rename_i he
      split at H
      ·rename_i v h3 hop
       split at H
       ·rename_i hnw
        exact fin H.2 ⟨0,fun n _ r hr=>by simp only[di,ho,hm,hc,he,hop,hnw,H.1,cond_true];exact hr⟩
       ·rename_i hnw
        exact fin H.2 ⟨0,fun n _ r hr=>by
         have hb:Nat.beq h3.next h.next=true:=by rw[beq_eq];simpa using H.1
         simp only[di,ho,hm,hc,he,hop,hnw,hb,cond_true,cond_false];exact hr⟩
      ·exact H.elim
     ·rename_i he
      split at H
      ·rename_i v h3 hop
       split at H
       ·rename_i rs' hrs
        exact fin H ⟨0,fun n _ r hr=>by simp only[di,ho,hm,hc,he,hop,hrs,cond_false];exact hr⟩
       ·exact H.elim
      ·rename_i fn args h3 hop
       obtain⟨r,h4,⟨m1,hf⟩,H⟩:=H
       unfold kD at H
       split at H
       ·rename_i v
        split at H
        ·rename_i rs' hrs
         exact fin H ⟨m1,fun n hn r hr=>by simp only[di,ho,hm,hc,he,hop,hf n hn,hrs,cond_false];exact hr⟩
        ·exact H.elim
       ·exact H.elim
      ·exact H.elim
   ·exact H.elim
  ·exact H.elim
theorem pU{base:Nat}{rnd:Option Nat}:∀{c:aJ} {Q:XQ} {e:Env} {ds:Dfs} {h:Heap},wpE T base rnd c Q e ds h→XW T base rnd c e ds h Q
 | .skip,Q,e,ds,h,H=>⟨_,_,_,_,⟨1,fun n hn=>by obtain⟨k,rfl⟩:∃k,n=k+1:=⟨n-1,by omega⟩;simp only[b9]⟩,H⟩
 | .exit i,Q,e,ds,h,H=>⟨_,_,_,_,⟨1,fun n hn=>by obtain⟨k,rfl⟩:∃k,n=k+1:=⟨n-1,by omega⟩;simp only[b9]⟩,H⟩
 | .ret,Q,e,ds,h,H=>⟨_,_,_,_,⟨1,fun n hn=>by obtain⟨k,rfl⟩:∃k,n=k+1:=⟨n-1,by omega⟩;simp only[b9]⟩,H⟩
 | .loop b,Q,e,ds,h,H=>H
 | .rangeFunc f ps a b,Q,e,ds,h,H=>H
 | .region ops keep,Q,e,ds,h,H=>by
   obtain⟨x,e',ds',h',⟨m,h1⟩,h2⟩:=pT H
   cases x with
   |normal=>exact⟨_,_,_,_,⟨m+1,fun n hn=>by
    obtain⟨k,rfl⟩:∃k,n=k+1:=⟨n-1,by omega⟩
    simp only[b9,h1 k (by omega)]⟩,h2⟩
   |_=>exact⟨_,_,_,_,⟨m+1,fun n hn=>by
     obtain⟨k,rfl⟩:∃k,n=k+1:=⟨n-1,by omega⟩
     simp only[b9,h1 k (by omega)]⟩,h2⟩
 | .draw ops order bf keep,Q,e,ds,h,H=>by
   obtain⟨e',h',⟨m,h1⟩,h2⟩:=zG H
   exact⟨_,_,_,_,⟨m+1,fun n hn=>by
    obtain⟨k,rfl⟩:∃k,n=k+1:=⟨n-1,by omega⟩
    simp only[b9,h1 k (by omega)]⟩,h2⟩
 | .seq a b,Q,e,ds,h,H=>by
   obtain⟨x,e',ds',h',⟨m,h1⟩,h2⟩:=pU (c:=a) H
   cases x with
   |normal=>
    obtain⟨x2,e2,ds2,h3,⟨m2,h4⟩,h5⟩:=pU (c:=b) h2
    exact⟨_,_,_,_,⟨m+m2+1,fun n hn=>by
     obtain⟨k,rfl⟩:∃k,n=k+1:=⟨n-1,by omega⟩
     simp only[b9,h1 k (by omega)];exact h4 k (by omega)⟩,h5⟩
   |_=>exact⟨_,_,_,_,⟨m+1,fun n hn=>by
     obtain⟨k,rfl⟩:∃k,n=k+1:=⟨n-1,by omega⟩
     simp only[b9,h1 k (by omega)]⟩,h2⟩
 | .cond c a b,Q,e,ds,h,H=>by
   simp only[wpE]at H
   unfold wpC at H
   split at H
   ·rename_i t ht
    cases t with
    |true=>
     obtain⟨x,e',ds',h',⟨m,h1⟩,h2⟩:=pU (c:=a) (H.1 rfl)
     exact⟨_,_,_,_,⟨m+1,fun n hn=>by
      obtain⟨k,rfl⟩:∃k,n=k+1:=⟨n-1,by omega⟩
      simp only[b9,ht];exact h1 k (by omega)⟩,h2⟩
    |false=>
     obtain⟨x,e',ds',h',⟨m,h1⟩,h2⟩:=pU (c:=b) (H.2 rfl)
     exact⟨_,_,_,_,⟨m+1,fun n hn=>by
      obtain⟨k,rfl⟩:∃k,n=k+1:=⟨n-1,by omega⟩
      simp only[b9,ht];exact h1 k (by omega)⟩,h2⟩
   ·exact H.elim
 | .block id b,Q,e,ds,h,H=>by
   obtain⟨x,e',ds',h',⟨m,h1⟩,h2⟩:=pU (c:=b) H
   cases x with
   |exit i=>
    by_cases hi:i=id
    ·exact⟨_,_,_,_,⟨m+1,fun n hn=>by
      obtain⟨k,rfl⟩:∃k,n=k+1:=⟨n-1,by omega⟩
      have hb:Nat.beq i id=true:=by rw[beq_eq];simpa using hi
      simp only[b9,h1 k (by omega),hb,cond_true]⟩,h2.1 hi⟩
    ·exact⟨_,_,_,_,⟨m+1,fun n hn=>by
      obtain⟨k,rfl⟩:∃k,n=k+1:=⟨n-1,by omega⟩
      have hb:Nat.beq i id=false:=by rw[beq_eq];simpa using hi
      simp only[b9,h1 k (by omega),hb,cond_false]⟩,h2.2 hi⟩
   |_=>exact⟨_,_,_,_,⟨m+1,fun n hn=>by
     obtain⟨k,rfl⟩:∃k,n=k+1:=⟨n-1,by omega⟩
     simp only[b9,h1 k (by omega)]⟩,h2⟩
theorem XW.loop{base:Nat}{rnd:Option Nat}{b:aJ}{Q:bQ→Env→Dfs→Heap→Prop}(I:Nat→Env→Dfs→Heap→Prop)
 (hr:∀k e ds h,I k e ds h→XW T base rnd b e ds h fun x e' ds' h'=>match x with| .normal=>∃k',k'<k∧I k' e' ds' h'|x=>Q x e' ds' h'):
 ∀{k:Nat} {e:Env} {ds:Dfs} {h:Heap},I k e ds h→XW T base rnd (.loop b) e ds h Q:=by
 intro k
 induction k using Nat.strongRecOn with
 |ind k ih=>
  intro e ds h hI
  obtain⟨x,e',ds',h',⟨m,h1⟩,h2⟩:=hr k e ds h hI
  cases x with
  |normal=>
   obtain⟨k',hk,hI'⟩:=h2
   obtain⟨x2,e2,ds2,h3,⟨m2,h4⟩,h5⟩:=ih k' hk hI'
   exact⟨_,_,_,_,⟨m+m2+1,fun n hn=>by
    obtain⟨k,rfl⟩:∃k,n=k+1:=⟨n-1,by omega⟩
    simp only[b9,h1 k (by omega)];exact h4 k (by omega)⟩,h5⟩
  |_=>exact⟨_,_,_,_,⟨m+1,fun n hn=>by
    obtain⟨k,rfl⟩:∃k,n=k+1:=⟨n-1,by omega⟩
    simp only[b9,h1 k (by omega)]⟩,h2⟩
theorem XW.Mh{base:Nat}{rnd:Option Nat}{a b:aJ}{e:Env}{ds:Dfs}{h:Heap}{Q:bQ→Env→Dfs→Heap→Prop}
 (H:XW T base rnd a e ds h fun x e' ds' h'=>match x with| .normal=>XW T base rnd b e' ds' h' Q|x=>Q x e' ds' h'):XW T base rnd (.seq a b) e ds h Q:=by
 obtain⟨x,e',ds',h',⟨m,h1⟩,h2⟩:=H
 cases x with
 |normal=>
  obtain⟨x2,e2,ds2,h3,⟨m2,h4⟩,h5⟩:=h2
  exact⟨_,_,_,_,⟨m+m2+1,fun n hn=>by
   obtain⟨k,rfl⟩:∃k,n=k+1:=⟨n-1,by omega⟩
   simp only[b9,h1 k (by omega)];exact h4 k (by omega)⟩,h5⟩
 |_=>exact⟨_,_,_,_,⟨m+1,fun n hn=>by
   obtain⟨k,rfl⟩:∃k,n=k+1:=⟨n-1,by omega⟩
   simp only[b9,h1 k (by omega)]⟩,h2⟩
theorem FW.func{f:Nat}{args:List Value}{h:Heap}{Q:Res→Heap→Prop}(H:CW T f args h Q):FW T (.func f) args h Q:=by
 obtain⟨r,h',⟨m,h1⟩,h2⟩:=H
 exact⟨r,h',⟨m+1,fun n hn=>by
  obtain⟨k,rfl⟩:∃k,n=k+1:=⟨n-1,by omega⟩
  simp only[fE];exact h1 k (by omega)⟩,h2⟩
theorem CW.jd{f:Nat}{args:List Value}{h h':Heap}{Q:Res→Heap→Prop}{p:List Value→Heap→Option (Value×Heap)}{v:Value}(hf:T f=some (.jd p))(hp:p args h=some (v,h'))(H:Q (.ret v) h'):CW T f args h Q:=
 ⟨.ret v,h',⟨1,fun n hn=>by
  obtain⟨k,rfl⟩:∃k,n=k+1:=⟨n-1,by omega⟩
  simp only[gT,hf,hp]⟩,H⟩
def vE(rs:List (Nat×Option (Option Nat)))(h:Heap)(Q:Res→Heap→Prop):bQ→Env→Dfs→Heap→Prop:=fun x e ds h1=>
 match x with
 | .exit _=>False
 | .panic v=>match ds with
   |[]=>Q (.panic v) h1
   |_=>False
 |_=>match ds with
  |[]=>match bW h1 e rs with
   |some vs=>Q (.ret (dZ vs)) (gcA h h1 (dZ vs))
   |none=>False
  |_=>False
theorem CW.code{f:Nat}{args:List Value}{h:Heap}{Q:Res→Heap→Prop}{c:aJ}{rs:List (Nat×Option (Option Nat))}(hf:T f=some (.code c rs))
 (H:XW T h.next none c (dA 0 args) [] h (vE rs h Q)):CW T f args h Q:=by
 obtain⟨x,e,ds,h1,⟨m,he⟩,H⟩:=H
 unfold vE at H
 cases x with
 |exit _=>exact H.elim
 |panic v=>
  dsimp only at H
  split at H
  ·refine⟨_,_,⟨m+2,fun n hn=> ?_⟩,H⟩
   obtain⟨k,rfl⟩:∃k,n=k+2:=⟨n-2,by omega⟩
   have:=he (k+1) (by omega)
   simp only[gT,this,lz,hf]
  ·exact H.elim
 |normal=>
  dsimp only at H
  split at H
  ·split at H
   ·rename_i vs hvs
    refine⟨_,_,⟨m+2,fun n hn=> ?_⟩,H⟩
    obtain⟨k,rfl⟩:∃k,n=k+2:=⟨n-2,by omega⟩
    have:=he (k+1) (by omega)
    simp only[gT,this,lz,hf,hvs]
   ·exact H.elim
  ·exact H.elim
 |ret=>
  dsimp only at H
  split at H
  ·split at H
   ·rename_i vs hvs
    refine⟨_,_,⟨m+2,fun n hn=> ?_⟩,H⟩
    obtain⟨k,rfl⟩:∃k,n=k+2:=⟨n-2,by omega⟩
    have:=he (k+1) (by omega)
    simp only[gT,this,lz,hf,hvs]
   ·exact H.elim
  ·exact H.elim
end Go.A
end
section
namespace Go.A
variable {T:Nat→Option ah} {base:Nat} {rnd:Option Nat} {Q:XQ} {e:Env} {ds:Dfs} {h:Heap} {c:aJ}
structure WE (T:Nat→Option ah) (base:Nat) (rnd:Option Nat) (c:aJ) (Q:XQ) (e:Env) (ds:Dfs) (h:Heap):Prop where
 ok:XW T base rnd c e ds h Q
structure WO (T:Nat→Option ah) (base:Nat) (rnd:Option Nat) (Q:XQ) (ops:List aQ) (e:Env) (ds:Dfs) (h:Heap):Prop where
 ok:∃x e' ds' h',EvO T base rnd ops e ds h (x,e',ds',h')∧Q x e' ds' h'
structure WD (T:Nat→Option ah) (base:Nat) (ops:List aQ) (bf:List Nat) (Q:Env→Heap→Prop) (is:List Nat) (rs:List Rec) (e:Env) (h:Heap):Prop where
 ok:∃e' h',EvD T base ops is bf rs e h (.normal,e',h')∧Q e' h'
structure KR (keep:List Nat) (Q:XQ) (x:bQ) (e:Env) (ds:Dfs) (h:Heap):Prop where
 ok:kR keep Q x e ds h
structure KS (K:Env→Dfs→Heap→Prop) (Q:XQ) (x:bQ) (e:Env) (ds:Dfs) (h:Heap):Prop where
 ok:kS K Q x e ds h
structure KB (i:Nat) (Q:XQ) (x:bQ) (e:Env) (ds:Dfs) (h:Heap):Prop where
 ok:kB i Q x e ds h
structure KO (K:Env→Dfs→Heap→Prop) (Q:XQ) (base:Nat) (dst:Option Nat) (e:Env) (ds:Dfs) (log:List Nat) (r:Res) (h:Heap):Prop where
 ok:kO K Q base dst e ds log r h
structure KD (K:List Rec→Env→Heap→Prop) (base:Nat) (mask:Nat) (rs:List Rec) (dst:Option Nat) (e:Env) (log:List Nat) (r:Res) (h:Heap):Prop where
 ok:kD K base mask rs dst e log r h
theorem WE.of(H:wpE T base rnd c Q e ds h):WE T base rnd c Q e ds h:=⟨pU H⟩
theorem aB(H:Q .normal e ds h):WE T base rnd .skip Q e ds h:= .of H
theorem cY{i:Nat}(H:Q (.exit i) e ds h):WE T base rnd (.exit i) Q e ds h:= .of H
theorem aH(H:Q .ret e ds h):WE T base rnd .ret Q e ds h:= .of H
theorem aq{a b:aJ}(H:WE T base rnd a (KS (WE T base rnd b Q) Q) e ds h):WE T base rnd (.seq a b) Q e ds h:=by
 refine⟨XW.Mh (H.ok.mono fun x e ds h hq=> ?_)⟩
 cases x<;>first|exact hq.ok.ok|exact hq.ok
theorem aD{ops:List aQ}{keep:List Nat}(H:WO T base rnd (KR keep Q) ops e ds h):WE T base rnd (.region ops keep) Q e ds h:=by
 obtain⟨x,e',ds',h',⟨m,h1⟩,⟨h2⟩⟩:=H.ok
 cases x with
 |normal=>exact⟨_,_,_,_,⟨m+1,fun n hn=>by
  obtain⟨k,rfl⟩:∃k,n=k+1:=⟨n-1,by omega⟩
  simp only[b9,h1 k (by omega)]⟩,h2⟩
 |_=>exact⟨_,_,_,_,⟨m+1,fun n hn=>by
   obtain⟨k,rfl⟩:∃k,n=k+1:=⟨n-1,by omega⟩
   simp only[b9,h1 k (by omega)]⟩,h2⟩
theorem aC{i:Nat}{b:aJ}(H:WE T base rnd b (KB i Q) e ds h):WE T base rnd (.block i b) Q e ds h:=by
 obtain⟨x,e',ds',h',⟨m,h1⟩,⟨h2⟩⟩:=H.ok
 cases x with
 |exit j=>
  by_cases hi:j=i
  ·exact⟨_,_,_,_,⟨m+1,fun n hn=>by
    obtain⟨k,rfl⟩:∃k,n=k+1:=⟨n-1,by omega⟩
    have hb:Nat.beq j i=true:=by rw[beq_eq];simpa using hi
    simp only[b9,h1 k (by omega),hb,cond_true]⟩,h2.1 hi⟩
  ·exact⟨_,_,_,_,⟨m+1,fun n hn=>by
    obtain⟨k,rfl⟩:∃k,n=k+1:=⟨n-1,by omega⟩
    have hb:Nat.beq j i=false:=by rw[beq_eq];simpa using hi
    simp only[b9,h1 k (by omega),hb,cond_false]⟩,h2.2 hi⟩
 |_=>exact⟨_,_,_,_,⟨m+1,fun n hn=>by
   obtain⟨k,rfl⟩:∃k,n=k+1:=⟨n-1,by omega⟩
   simp only[b9,h1 k (by omega)]⟩,h2⟩
theorem AA{c:Operand}{a b:aJ}{t:Bool}(hc:ev h e c=some (.bool t))(h1:t=true→WE T base rnd a Q e ds h)(h2:t=false→WE T base rnd b Q e ds h):WE T base rnd (.cond c a b) Q e ds h:=by
 cases t with
 |true=>
  obtain⟨x,e',ds',h',⟨m,q1⟩,q2⟩:=(h1 rfl).ok
  exact⟨_,_,_,_,⟨m+1,fun n hn=>by
   obtain⟨k,rfl⟩:∃k,n=k+1:=⟨n-1,by omega⟩
   simp only[b9,hc];exact q1 k (by omega)⟩,q2⟩
 |false=>
  obtain⟨x,e',ds',h',⟨m,q1⟩,q2⟩:=(h2 rfl).ok
  exact⟨_,_,_,_,⟨m+1,fun n hn=>by
   obtain⟨k,rfl⟩:∃k,n=k+1:=⟨n-1,by omega⟩
   simp only[b9,hc];exact q1 k (by omega)⟩,q2⟩
theorem GU{c:Operand}{a b:aJ}(hc:ev h e c=some (.bool true))(h1:WE T base rnd a Q e ds h):WE T base rnd (.cond c a b) Q e ds h:=AA hc (fun _=>h1) (fun h=>by cases h)
theorem Ge{c:Operand}{a b:aJ}(hc:ev h e c=some (.bool false))(h1:WE T base rnd b Q e ds h):WE T base rnd (.cond c a b) Q e ds h:=AA hc (fun h=>by cases h) (fun _=>h1)
theorem cG{ops:List aQ}{is bf keep:List Nat}(H:WD T base ops bf (fun e' h'=>KR keep Q .normal e' ds h') is [] e h):WE T base rnd (.draw ops is bf keep) Q e ds h:=by
 obtain⟨e',h',⟨m,h1⟩,⟨h2⟩⟩:=H.ok
 exact⟨_,_,_,_,⟨m+1,fun n hn=>by
  obtain⟨k,rfl⟩:∃k,n=k+1:=⟨n-1,by omega⟩
  simp only[b9,h1 k (by omega)]⟩,h2⟩
theorem dP{b:aJ}(I:Nat→Env→Dfs→Heap→Prop){k:Nat}(hI:I k e ds h)
 (hr:∀k e ds h,I k e ds h→WE T base rnd b (KS (fun e' ds' h'=>∃k',k'<k∧I k' e' ds' h') Q) e ds h):WE T base rnd (.loop b) Q e ds h:=
 ⟨XW.loop I (fun k e ds h hI=>((hr k e ds h hI).ok.mono fun x e ds h hq=>by cases x<;>exact hq.ok)) hI⟩
theorem LB{keep:List Nat}{e2:Env}(he:bS e keep=e2)(H:Q .normal e2 ds h):KR keep Q .normal e ds h:=by subst he;exact⟨H⟩
theorem yb{keep:List Nat}{v:Value}(H:Q (.panic v) e ds h):KR keep Q (.panic v) e ds h:=⟨H⟩
theorem aP{K:Env→Dfs→Heap→Prop}(H:K e ds h):KS K Q .normal e ds h:=⟨H⟩
theorem ej{K:Env→Dfs→Heap→Prop}(H:Q .ret e ds h):KS K Q .ret e ds h:=⟨H⟩
theorem dQ{K:Env→Dfs→Heap→Prop}{i:Nat}(H:Q (.exit i) e ds h):KS K Q (.exit i) e ds h:=⟨H⟩
theorem Bc{K:Env→Dfs→Heap→Prop}{v:Value}(H:Q (.panic v) e ds h):KS K Q (.panic v) e ds h:=⟨H⟩
theorem cZ{i:Nat}(H:Q .normal e ds h):KB i Q .normal e ds h:=⟨H⟩
theorem iD{i:Nat}(H:Q .ret e ds h):KB i Q .ret e ds h:=⟨H⟩
theorem LQ{i:Nat}{v:Value}(H:Q (.panic v) e ds h):KB i Q (.panic v) e ds h:=⟨H⟩
theorem iW{i:Nat}(H:Q .normal e ds h):KB i Q (.exit i) e ds h:=⟨⟨fun _=>H,fun h=>(h rfl).elim⟩⟩
theorem fo(H:Q .normal e ds h):WO T base rnd Q [] e ds h:=⟨pT (T:=T) (base:=base) (rnd:=rnd) (ops:=[]) H⟩
theorem af{dst:Option Nat}{op:AOp}{os:List aQ}{v:Value}{h':Heap}(ho:aop h base e op=some (.val v h'))(H:WO T base rnd Q os (bK e dst v) ds h'):WO T base rnd Q (⟨dst,op,none⟩::os) e ds h:=by
 obtain⟨x,e',ds',h',⟨m,h1⟩,h2⟩:=H.ok
 exact⟨x,e',ds',h',⟨m+1,fun n hn=>by
  obtain⟨k,rfl⟩:∃k,n=k+1:=⟨n-1,by omega⟩
  simp only[gL,bA,ho];exact h1 k (by omega)⟩,h2⟩
theorem gj{dst:Option Nat}{op:AOp}{os:List aQ}{fn:Fn}{args:List Value}{h':Heap}(ho:aop h base e op=some (.call fn args h'))(H:FW T fn args {h' with log:=[]} (KO (WO T base rnd Q os) Q base dst e ds h'.log)):WO T base rnd Q (⟨dst,op,none⟩::os) e ds h:=by
 obtain⟨r,h4,⟨m1,hf⟩,⟨H⟩⟩:=H
 cases r with
 |ret v=>
  obtain⟨x,e',ds',h',⟨m,h1⟩,h2⟩:=WO.ok H
  exact⟨x,e',ds',h',⟨m+m1+1,fun n hn=>by
   obtain⟨k,rfl⟩:∃k,n=k+1:=⟨n-1,by omega⟩
   simp only[gL,bA,ho,hf k (by omega)];exact h1 k (by omega)⟩,h2⟩
 |panic v=>
  exact⟨_,_,_,_,⟨m1+1,fun n hn=>by
   obtain⟨k,rfl⟩:∃k,n=k+1:=⟨n-1,by omega⟩
   simp only[gL,bA,ho,hf k (by omega)]⟩,H⟩
theorem Eu{dst:Option Nat}{op:AOp}{os:List aQ}{v:Value}{h':Heap}(ho:aop h base e op=some (.panic v h'))(H:Q (.panic v) e ds h'):WO T base rnd Q (⟨dst,op,none⟩::os) e ds h:=
 ⟨_,_,_,_,⟨1,fun n hn=>by
  obtain⟨k,rfl⟩:∃k,n=k+1:=⟨n-1,by omega⟩
  simp only[gL,bA,ho]⟩,H⟩
theorem Kw{dst:Option Nat}{op:AOp}{os:List aQ}{t:Nat}{b:Bool}(hg:geT e t=some (.bool b))(H:WO T base rnd Q (⟨dst,op,none⟩::os) e ds h):WO T base rnd Q (⟨dst,op,some (t,b)⟩::os) e ds h:=by
 obtain⟨x,e',ds',h',⟨m,h1⟩,h2⟩:=H.ok
 exact⟨x,e',ds',h',⟨m+1,fun n hn=>by
  obtain⟨k,rfl⟩:∃k,n=k+1:=⟨n-1,by omega⟩
  have:=h1 (k+1) (by omega)
  have hb:(b==b)=true:=by simp
  simp only[gL,bA]at this
  simp only[gL,bA,hg,hb];exact this⟩,h2⟩
theorem Kc{dst:Option Nat}{op:AOp}{os:List aQ}{t:Nat}{b x:Bool}(hg:geT e t=some (.bool x))(hx:x= !b)(H:WO T base rnd Q os (bK e dst (.tuple #[])) ds h):WO T base rnd Q (⟨dst,op,some (t,b)⟩::os) e ds h:=by
 obtain⟨x',e',ds',h',⟨m,h1⟩,h2⟩:=H.ok
 exact⟨x',e',ds',h',⟨m+1,fun n hn=>by
  obtain⟨k,rfl⟩:∃k,n=k+1:=⟨n-1,by omega⟩
  have hb:(x==b)=false:=by subst hx;cases b<;>rfl
  simp only[gL,bA,hg,hb];exact h1 k (by omega)⟩,h2⟩
theorem cF{ops:List aQ}{bf:List Nat}{rs:List Rec}{Q:Env→Heap→Prop}(H:Q e h):WD T base ops bf Q [] rs e h:=⟨zG (T:=T) (base:=base) (ops:=ops) (bf:=bf) (is:=[]) (rs:=rs) H⟩
theorem oX{ops:List aQ}{bf:List Nat}{rs rs':List Rec}{Q:Env→Heap→Prop}{i:Nat}{is:List Nat}{e1:Env}{h1:Heap}(hs:∃m,∀n,m≤n→∀r,di T n base ops is bf rs' e1 h1=some r→di T (n+1) base ops (i::is) bf rs e h=some r)
 (H:WD T base ops bf Q is rs' e1 h1):WD T base ops bf Q (i::is) rs e h:=by
 obtain⟨e',h',⟨m,q1⟩,q2⟩:=H.ok
 obtain⟨m0,hs⟩:=hs
 exact⟨e',h',⟨m+m0+1,fun n hn=>by
  obtain⟨k,rfl⟩:∃k,n=k+1:=⟨n-1,by omega⟩
  exact hs k (by omega) _ (q1 k (by omega))⟩,q2⟩
theorem aG{ops:List aQ}{bf:List Nat}{rs:List Rec}{Q:Env→Heap→Prop}{i mask:Nat}{is:List Nat}{dst:Option Nat}{op:AOp}{g:Option (Nat×Bool)}{er:Env}(ho:bG ops i=some ⟨dst,op,g⟩)(hm:bG bf i=some mask)(he:bS e (bR ⟨dst,op,g⟩)=er)(hw:bA er g=some false)
 (H:WD T base ops bf Q is (⟨i,⟨dst,op,g⟩,er, .tuple #[], .skip⟩::rs) (bK e dst (.tuple #[])) h):WD T base ops bf Q (i::is) rs e h:=by
 subst he
 exact oX ⟨0,fun n _ r hr=>by simp only[di,ho,hm,hw];exact hr⟩ H
theorem ak{ops:List aQ}{bf:List Nat}{rs:List Rec}{Q:Env→Heap→Prop}{i mask:Nat}{is:List Nat}{dst:Option Nat}{op:AOp}{g:Option (Nat×Bool)}{er:Env}{v:Value}(ho:bG ops i=some ⟨dst,op,g⟩)(hm:bG bf i=some mask)(he:bS e (bR ⟨dst,op,g⟩)=er)(hw:bA er g=some true)
 (hq:gU op=true)(hn:cO op=false)(hop:aop h base er op=some (.val v h))(H:WD T base ops bf Q is (⟨i,⟨dst,op,g⟩,er,v, .quiet⟩::rs) (bK e dst v) h):WD T base ops bf Q (i::is) rs e h:=by
 subst he
 have hb:Nat.beq h.next h.next=true:=by rw[beq_eq];simp
 exact oX ⟨0,fun n _ r hr=>by simp only[di,ho,hm,hw,hq,hop,hn,hb,cond_true,cond_false];exact hr⟩ H
theorem jB{ops:List aQ}{bf:List Nat}{rs:List Rec}{Q:Env→Heap→Prop}{i mask:Nat}{is:List Nat}{dst:Option Nat}{op:AOp}{g:Option (Nat×Bool)}{er:Env}{v:Value}{h':Heap}(ho:bG ops i=some ⟨dst,op,g⟩)(hm:bG bf i=some mask)(he:bS e (bR ⟨dst,op,g⟩)=er)(hw:bA er g=some true)
 (hq:gU op=true)(hn:cO op=true)(hop:aop h base er op=some (.val v h'))(hrs:kq h' base rs=true)(H:WD T base ops bf Q is (⟨i,⟨dst,op,g⟩,er,v, .made h.next⟩::rs) (bK e dst v) h'):WD T base ops bf Q (i::is) rs e h:=by
 subst he
 exact oX ⟨0,fun n _ r hr=>by simp only[di,ho,hm,hw,hq,hop,hn,hrs,cond_true];exact hr⟩ H
theorem JN{ops:List aQ}{bf:List Nat}{rs rs':List Rec}{Q:Env→Heap→Prop}{i mask:Nat}{is:List Nat}{dst:Option Nat}{op:AOp}{g:Option (Nat×Bool)}{er:Env}{v:Value}{h2:Heap}(ho:bG ops i=some ⟨dst,op,g⟩)(hm:bG bf i=some mask)(he:bS e (bR ⟨dst,op,g⟩)=er)(hw:bA er g=some true)
 (hq:gU op=false)(hop:aop {h with log:=[]} h.next er op=some (.val v h2))(hrs:bg {h2 with log:=ax base h.log h2.log} base h2.log mask rs=some rs')
 (H:WD T base ops bf Q is rs' (bK e dst v) {h2 with log:=ax base h.log h2.log}):WD T base ops bf Q (i::is) rs e h:=by
 subst he
 exact oX ⟨0,fun n _ r hr=>by simp only[di,ho,hm,hw,hq,hop,hrs,cond_false];exact hr⟩ H
theorem Ho{ops:List aQ}{bf:List Nat}{rs:List Rec}{Q:Env→Heap→Prop}{i mask:Nat}{is:List Nat}{dst:Option Nat}{op:AOp}{g:Option (Nat×Bool)}{er:Env}{fn:Fn}{args:List Value}{h3:Heap}(ho:bG ops i=some ⟨dst,op,g⟩)(hm:bG bf i=some mask)(he:bS e (bR ⟨dst,op,g⟩)=er)(hw:bA er g=some true)
 (hq:gU op=false)(hop:aop {h with log:=[]} h.next er op=some (.call fn args h3))(H:FW T fn args {h with log:=[]} (KD (WD T base ops bf Q is) base mask rs dst e h.log)):WD T base ops bf Q (i::is) rs e h:=by
 subst he
 obtain⟨r,h4,⟨m1,hf⟩,⟨H⟩⟩:=H
 unfold kD at H
 split at H
 ·split at H
  ·rename_i rs' hrs
   exact oX ⟨m1,fun n hn r hr=>by simp only[di,ho,hm,hw,hq,hop,hf n hn,hrs,cond_false];exact hr⟩ H
  ·exact H.elim
 ·exact H.elim
end Go.A
end
section
namespace Go.A
variable {T:Nat→Option ah}
theorem iF{base N:Nat}{rnd:Option Nat}{c:aJ}{e:Env}{ds:Dfs}{h:Heap}{r:bQ×Env×Dfs×Heap}(H:∀n,(l6 T (n+N)).exec base rnd c e ds h=some r):Ev T base rnd c e ds h r:=
 ⟨N,fun n hn=>by
  have:=H (n-N)
  rw[AQ,Du,show n-N+N=n by omega]at this
  exact this⟩
theorem iQ{base:Nat}{rnd:Option Nat}{c:aJ}{e e1:Env}{ds ds1:Dfs}{h h1:Heap}{r:bQ×Env×Dfs×Heap}(hc:c= .seq (cL c) (cR c))(H1:Ev T base rnd (cL c) e ds h (.normal,e1,ds1,h1))(H2:Ev T base rnd (cR c) e1 ds1 h1 r):Ev T base rnd c e ds h r:=by
 obtain⟨m1,q1⟩:=H1
 obtain⟨m2,q2⟩:=H2
 refine⟨m1+m2+1,fun n hn=> ?_⟩
 obtain⟨k,rfl⟩:∃k,n=k+1:=⟨n-1,by omega⟩
 rw[hc]
 simp only[b9,q1 k (by omega)]
 exact q2 k (by omega)
theorem CW.Mk{f:Nat}{args:List Value}{h:Heap}{Q:Res→Heap→Prop}{c:aJ}{rs:List (Nat×Option (Option Nat))}{x:bQ}{e:Env}{ds:Dfs}{h1:Heap}(hf:T f=some (.code c rs))(H:Ev T h.next none c (dA 0 args) [] h (x,e,ds,h1))(hq:vE rs h Q x e ds h1):CW T f args h Q:=
 CW.code hf ⟨x,e,ds,h1,H,hq⟩
theorem R.none{P:Program}{w:World}{n:Nat}(hn:P.globals.size≤n):R P (fun _=>none) ⟨[],n,[]⟩ w:=
 {big:=hn
  nY:=fun g o _ h=>by cases h
  obj:=fun b o h=>by cases h
  lt:=fun b o h=>by cases h
  dom:=fun b k h=>by cases h
  nu:=fun b b' o o' k k' _ h=>by cases h}
theorem Bv{P:Program}(hT:eK P T){f n:Nat}{v:Value}{fn:Func}(hf:P.funcs[f]? =some fn)(hname:fn.name≠ "runtime.NumGoroutine")(hb:fn.body.isSome=true)(hg:P.globals.size≤n)(hnc:fL (T f)=false)(hv:cD v=true)
 (H:CW T f [] ⟨[],n,[]⟩ fun r _=>r= .ret v):sG P f (vh v):=by
 intro args h u h' hp _
 cases args with
 |cons _ _=>cases hp
 |nil=>
  cases hp
  refine⟨.refl _ _,fun μ w args' hR ha=> ?_⟩
  cases ha
  obtain⟨r,h1,⟨m,hr⟩,rfl⟩:=H
  have hrun:=hr m (Nat.le_refl _)
  have:=qG hT hrun rfl hnc (R.none (P:=P) (w:=w) hg) (args':=[]) .nil
  refine kF hf hname hb this fun e w' hq=> ?_
  obtain⟨μ',q1,q2,q3⟩:=hq
  cases e with
  |returned v'=>
   have hv':VR μ' v v':=q1
   rw[(VR.cD hv).2 _ hv']
   have hk:∀r,r<w.heap.size→w'.heap[r]? =w.heap[r]? :=fun r hr=>q3.keep r hr fun⟨b,o,k,g,_⟩=>by cases g
   exact⟨μ,(VR.cD hv).1,(hR.grow q3.le hk q3.same).1,(hR.grow q3.le hk q3.same).2⟩
  |panicked _=>exact q1.elim
  |outgrown=>exact q1.elim
end Go.A
end
section
namespace Go.A
variable {T:Nat→Option ah} {base:Nat} {rnd:Option Nat} {Q:XQ} {e:Env} {ds:Dfs} {h:Heap}
theorem Heap.vl(h:Heap)(o:bE):(h.push o).get h.next=some o:=by rw[Heap.dr,if_pos rfl]
theorem Heap.jH{h:Heap}{o:bE}{x:Nat}(hx:x<h.next):(h.push o).get x=h.get x:=by rw[Heap.dr,if_neg (by omega)]
theorem Heap.cr{h:Heap}{base b:Nat}{o o':bE}(hb:h.get b=some o'):(h.wr base b o).get b=some o:=by rw[Heap.j7,if_pos rfl,hb];rfl
theorem Heap.wC(h:Heap)(base b:Nat)(o:bE):(h.wr base b o).get b=(h.get b).map fun _=>o:=by rw[Heap.j7,if_pos rfl]
theorem Heap.fO{h:Heap}{base b:Nat}{o:bE}{x:Nat}(hx:x≠b):(h.wr base b o).get x=h.get x:=by rw[Heap.j7,if_neg hx]
theorem Heap.cM(h:Heap)(o:bE):(h.push o).log=h.log:=rfl
theorem Heap.aI{h:Heap}{base b:Nat}{o:bE}(hb:base≤b):(h.wr base b o).log=h.log:=by
 simp only[Heap.wr,blt_eq]
 rw[decide_eq_false (by omega)];rfl
theorem iR{x:Operand}{v:Value}(hx:ev h e x=some v):aop h base e (.mov x)=some (.val v h):=by simp only[aop,hx,bV]
theorem jI{c a b:Operand}{v:Value}(hc:ev h e c=some (.bool true))(hx:ev h e a=some v):aop h base e (.pick c a b)=some (.val v h):=by simp only[aop,hc,hx,bV]
theorem lP{c a b:Operand}{v:Value}(hc:ev h e c=some (.bool false))(hx:ev h e b=some v):aop h base e (.pick c a b)=some (.val v h):=by simp only[aop,hc,hx,bV]
theorem cN{z:List Value}:aop h base e (.new z)=some (.val (.pointer (some ⟨h.next,0,none⟩)) (h.push (.cells z true 1))):=rfl
theorem K9{x:Operand}{v:Value}{vs:List Value}(hx:ev h e x=some v)(hc:cellsOf v=vs):aop h base e (.box x)=some (.val (.pointer (some ⟨h.next,0,none⟩)) (h.push (.cells vs true 1))):=by simp only[aop,hx,bV,hc]
theorem ck{z cs:List Value}{ps:List (Nat×Nat×Operand)}(hf:kY h e z ps=some cs):aop h base e (.build z ps)=some (.val (.agg cs.toArray) h):=by simp only[aop,hf]
theorem gE{z cs:List Value}{n m:Nat}{ps:List (Nat×Nat×Operand)}(hf:kY h e (dx n z) ps=some cs)(hm:cI z=m):aop h base e (.cJ z n ps)=some (.val (.slice (some ⟨h.next,0,none⟩) n n) (h.push (.cells cs true m))):=by simp only[aop,hf,hm]
theorem bt{x:Operand}{b o sz:Nat}{vs:List Value}{own:Bool}{v:Value}(hx:ev h e x=some (.pointer (some ⟨b,o,none⟩)))(hb:h.get b=some (.cells vs own sz))(hv:bG vs o=some v):aop h base e (.load none x)=some (.val v h):=by
 simp only[aop,hx,bV,mH,hb,hv]
theorem cS{x:Operand}{n b o sz:Nat}{vs l:List Value}{own:Bool}(hx:ev h e x=some (.pointer (some ⟨b,o,none⟩)))(hb:h.get b=some (.cells vs own sz))(hv:dM n (dN o vs)=l)(hl:Nat.beq (cI l) n=true):
 aop h base e (.load (some n) x)=some (.val (.agg l.toArray) h):=by
 simp only[aop,hx,bV,mH,hb,hv,hl,cond_true]
theorem jF{x y:Operand}{n b o sz:Nat}{vs ws:List Value}{v:Value}(hx:ev h e x=some (.pointer (some ⟨b,o,none⟩)))(hy:ev h e y=some v)(hb:h.get b=some (.cells vs true sz))
 (hc:(Nat.beq (cI (cellsOf v)) n&&Nat.ble (o+n) (cI vs)&&fB (cellsOf v))=true)(hw:cW vs o (cellsOf v)=ws):aop h base e (.store n x y)=some (.val (.tuple #[]) (h.wr base b (.cells ws true sz))):=by
 simp only[aop,hx,hy,bV,oe,hb,hc,hw,cond_true]
theorem cE{op:BinOp}{x y:Operand}{a b v:Value}(hx:ev h e x=some a)(hy:ev h e y=some b)(hv:cV op a b=some v):aop h base e (.bin (.num op) x y)=some (.val v h):=by simp only[aop,hx,hy,bV,hv]
theorem Fo{neq:Bool}{x y:Operand}{a b:Bool}(hx:ev h e x=some (.bool a))(hy:ev h e y=some (.bool b)):aop h base e (.bin (.beq neq) x y)=some (.val (.bool (bif neq then !(a==b)else a==b)) h):=by simp only[aop,hx,hy]
theorem kf{neq b:Bool}{ls:List dw}{x y:Operand}{xs ys:Array Value}(hx:ev h e x=some (.agg xs))(hy:ev h e y=some (.agg ys))(hn:aO ls xs.toList ys.toList=some b):aop h base e (.bin (.agg neq ls) x y)=some (.val (.bool (bif neq then !b else b)) h):=by
 simp only[aop,hx,hy,bV,hn]
theorem IK{x:Operand}{b:Bool}(hx:ev h e x=some (.bool b)):aop h base e (.un .not x)=some (.val (.bool !b) h):=by simp only[aop,hx,bV,zU]
theorem iy{off b o:Nat}{x:Operand}(hx:ev h e x=some (.pointer (some ⟨b,o,none⟩))):aop h base e (.cH off x)=some (.val (.pointer (some ⟨b,o+off,none⟩)) h):=by simp only[aop,hx]
theorem aN{size b o len cap i:Nat}{k:IntKind}{x y:Operand}(hx:ev h e x=some (.slice (some ⟨b,o,none⟩) len cap))(hy:ev h e y=some (.int k (i:Nat)))(hi:i<len):aop h base e (.bp size x y)=some (.val (.pointer (some ⟨b,o+i*size,none⟩)) h):=by
 have:(.int k (i:Nat):Value)= .int k (Int.ofNat i):=rfl
 rw[this]at hy
 simp only[aop,hx,hy,blt_eq,decide_eq_true hi,cond_true]
theorem je{x:Operand}{i:Nat}{vs:Array Value}{v:Value}(hx:ev h e x=some (.tuple vs))(hv:bG vs.toList i=some v):aop h base e (.extract x i)=some (.val v h):=by simp only[aop,hx,bV,hv]
theorem DU{x:Operand}{a:Option Addr}{n c:Nat}(hx:ev h e x=some (.slice a n c)):aop h base e (.len 1 x)=some (.val (.int .i64 n) h):=by simp only[aop,hx]
theorem j6{fn:Fn}{fs cs:List Operand}{as bs:List Value}(h1:evs h e fs=some as)(h2:evs h e cs=some bs):aop h base e (.fq fn fs cs)=some (.val (.func fn as.toArray bs.toArray) h):=by simp only[aop,h1,h2]
theorem cC{x:Operand}{b o:Nat}(hx:ev h e x=some (.pointer (some ⟨b,o,none⟩))):aop h base e (.cz x)=some (.val (.pointer (some ⟨b,o,none⟩)) h):=by simp only[aop,hx,bV]
theorem zT{f:Operand}{args:List Operand}{fv:Value}{as:List Value}{g:Nat}{first cap:Array Value}{all:List Value}(hf:ev h e f=some fv)(ha:evs h e args=some as)(hv:fv= .func (.func g) first cap)(hl:dg first.toList (dg as cap.toList)=all):
 aop h base e (.call f args)=some (.call (.func g) all h):=by subst hv;simp only[aop,hf,ha,m6,hl]
theorem bY{n:Int}(h1: -9223372036854775808≤n)(h2:n<9223372036854775808):jD .i64 n=n:=by
 rw[oU,IntKind.wrap_i64];omega
theorem IE{k:IntKind}{a b:Int}:cV .lss (.int k a) (.int k b)=some (.bool (decide (a<b))):=by simp[cV,arith,kG]
theorem IA{k:IntKind}{a b:Int}:cV .leq (.int k a) (.int k b)=some (.bool (decide (a≤b))):=by simp[cV,arith,kG]
theorem IM{k:IntKind}{a b:Int}:cV .gtr (.int k a) (.int k b)=some (.bool (decide (b<a))):=by simp[cV,arith,kG]
theorem zZ{k:IntKind}{a b:Int}:cV .geq (.int k a) (.int k b)=some (.bool (decide (b≤a))):=by simp[cV,arith,kG]
theorem Fy{k:IntKind}{a b:Int}:cV .eql (.int k a) (.int k b)=some (.bool (a==b)):=by simp[cV,arith,kG]
theorem IF{k:IntKind}{a b:Int}:cV .neq (.int k a) (.int k b)=some (.bool (a !=b)):=by simp[cV,arith,kG]
theorem rQ{k:IntKind}{a b c:Int}(hc:jD k (a+b)=c):cV .add (.int k a) (.int k b)=some (.int k c):=by simp[cV,arith,hc]
theorem iX{k:IntKind}{a b c:Int}(hc:jD k (a-b)=c):cV .sub (.int k a) (.int k b)=some (.int k c):=by simp[cV,arith,hc]
theorem La{n:Nat}(hn:n<9223372036854775807):cV .add (.int .i64 n) (.int .i64 1)=some (.int .i64 (n+1:Nat)):=rQ (by rw[bY]<;>omega)
theorem J0{l m:List (Nat×bE)}(hk:l.map (·.1)=m.map (·.1))(hn:(m.map (·.1)).Nodup)(hg:∀b,b∈m.map (·.1)→fS l b=fS m b):l=m:=by
 induction m generalizing l with
 |nil=>simpa using hk
 |cons p m ih=>
  obtain⟨k,o⟩:=p
  cases l with
  |nil=>simp at hk
  |cons q l=>
   obtain⟨k',o'⟩:=q
   simp only[List.map_cons,List.cons.injEq]at hk
   obtain⟨h1,h2⟩:=hk
   subst h1
   simp only[List.map_cons,List.nodup_cons]at hn
   have h3:=hg k' (by simp)
   simp only[fS,cond_eq_ite,beq_eq,decide_true,if_true]at h3
   cases h3
   congr 1
   refine ih h2 hn.2 fun b hb=> ?_
   have h4:=hg b (by simp[hb])
   have hne:k'≠b:=fun e=>hn.1 (e▸hb)
   simpa only[fS,cond_eq_ite,beq_eq,decide_eq_true_eq,if_neg hne]using h4
structure WF (h:Heap):Prop where
 nodup:(h.bM.map (·.1)).Nodup
 lt:∀b,b∈h.bM.map (·.1)→b<h.next
theorem og{a n b:Nat}:b∈cA a n↔a≤b∧b<a+n:=by
 induction n with
 |zero=>simp[cA]
 |succ n ih=>simp[cA,ih];omega
theorem uZ(a n:Nat):(cA a n).Nodup:=by
 induction n with
 |zero=>simp[cA]
 |succ n ih=>simp only[cA,List.nodup_cons,og];exact⟨by omega,ih⟩
theorem WF.as{base:Nat}{h h':Heap}(hw:WF h)(hA:AS base h h'):WF h' where
 nodup:=by
  rw[hA.keys,List.nodup_append]
  refine⟨uZ _ _,hw.nodup,fun a ha b hb=> ?_⟩
  rw[og]at ha
  have:=hw.lt b hb
  omega
 lt:=fun b hb=>by
  rw[hA.keys,List.mem_append]at hb
  have:=hA.next
  rcases hb with hb|hb
  ·rw[og]at hb;omega
  ·have:=hw.lt b hb;omega
theorem WF.log{h:Heap}(hw:WF h)(l:List Nat):WF {h with log:=l}:=⟨hw.nodup,hw.lt⟩
theorem WF.push{h:Heap}(hw:WF h)(o:bE):WF (h.push o):=hw.as (AS.push 0 h o)
structure Ext (h h':Heap):Prop where
 next:h.next≤h'.next
 log:h'.log=h.log
 old:∀b,b<h.next→h'.get b=h.get b
 wf:WF h→WF h'
theorem Ext.refl(h:Heap):Ext h h:=⟨Nat.le_refl _,rfl,fun _ _=>rfl,id⟩
theorem Ext.trans{a b c:Heap}(h:Ext a b)(g:Ext b c):Ext a c:=⟨Nat.le_trans h.next g.next,g.log.trans h.log,fun x hx=>(g.old x (Nat.lt_of_lt_of_le hx h.next)).trans (h.old x hx),fun w=>g.wf (h.wf w)⟩
theorem Ext.push{a b:Heap}(h:Ext a b)(o:bE):Ext a (b.push o):=⟨Nat.le_succ_of_le h.next,h.log,fun x hx=>(Heap.jH (Nat.lt_of_lt_of_le hx h.next)).trans (h.old x hx),fun w=>(h.wf w).push o⟩
theorem Ext.wr{a b:Heap}(h:Ext a b){base x:Nat}{o:bE}(hx:a.next≤x)(hb:base≤x):Ext a (b.wr base x o):=⟨h.next,(Heap.aI hb).trans h.log,fun y hy=>(Heap.fO (by omega)).trans (h.old y hy),fun w=>(h.wf w).as (AS.wr base b x o)⟩
theorem CE{l:List (Nat×bE)}{b:Nat}(hb:b ∉ l.map (·.1)):fS l b=none:=by
 induction l with
 |nil=>rfl
 |cons p l ih=>
  obtain⟨k,o⟩:=p
  simp only[List.map_cons,List.mem_cons,not_or]at hb
  simp only[fS,cond_eq_ite,beq_eq,decide_eq_true_eq]
  rw[if_neg (Ne.symm hb.1)];exact ih hb.2
theorem uO{h h1:Heap}{v:Value}(hw:WF h)(hA:AS h.next h h1)(hl:h1.log=h.log)(h0:h.log=[])(hv:cD v=true):gcA h h1 v=h:=by
 have hA':=hA.keys
 have e:dN (h1.next-h.next) h1.bM=h.bM:=by
  rw[cu]
  have hlen:(cA h.next (h1.next-h.next)).length=h1.next-h.next:=by
   generalize h1.next-h.next=n
   induction n with
   |zero=>rfl
   |succ n ih=>simp[cA,ih]
  have hk:(h1.bM.drop (h1.next-h.next)).map (·.1)=h.bM.map (·.1):=by
   rw[List.map_drop,hA',List.drop_append_of_le_length (by omega),List.drop_of_length_le (by omega),List.nil_append]
  refine J0 hk hw.nodup fun b hb=> ?_
  have hbl:=hw.lt b hb
  have hs:=hA.same b hbl hbl (by rw[hl,h0];rfl)
  have hsplit:h1.bM=h1.bM.take (h1.next-h.next)++h1.bM.drop (h1.next-h.next):=(List.take_append_drop _ _).symm
  have hkt:(h1.bM.take (h1.next-h.next)).map (·.1)=cA h.next (h1.next-h.next):=by
   rw[List.map_take,hA',List.take_append_of_le_length (by omega),List.take_of_length_le (by omega)]
  have:=jQ _ h.next _ (h1.bM.drop (h1.next-h.next)) hkt b hbl
  rw[←hsplit]at this
  exact this.symm.trans hs
 simp only[gcA,hv,hl,h0,eV,Bool.and_true,cond_true,nL,e]
 cases h;simp at h0⊢;exact h0
end Go.A
end
section
namespace Go.A
variable {T:Nat→Option ah} {base:Nat} {rnd:Option Nat} {Q:XQ} {e:Env} {ds:Dfs} {h:Heap}
structure Rdy (h:Heap):Prop where
 wf:WF h
 log:h.log=[]
def Pu(T:Nat→Option ah)(f:Nat)(args:List Value)(h:Heap)(v:Value):Prop:=CW T f args h fun r h'=>r= .ret v∧h'=h
structure Jt (rs:List (Nat×Option (Option Nat))) (v0:Value) (x:bQ) (e:Env) (ds:Dfs) (h1:Heap):Prop where
 ok:(x= .normal∨x= .ret)∧ds=[]∧h1.log=[]∧∃vs,bW h1 e rs=some vs∧dZ vs=v0
theorem aF{rs:List (Nat×Option (Option Nat))}{v0:Value}{vs:List Value}(hl:h.log=[])(hr:bW h e rs=some vs)(hv:dZ vs=v0):Jt rs v0 .ret e [] h:=⟨⟨.inr rfl,rfl,hl,vs,hr,hv⟩⟩
theorem Pu.of(hp:bC T){f:Nat}{args:List Value}{c:aJ}{rs:List (Nat×Option (Option Nat))}{v0:Value}(hf:T f=some (.code c rs))(hr:Rdy h)(hv:cD v0=true)(H:WE T h.next none c (Jt rs v0) (dA 0 args) [] h):Pu T f args h v0:=by
 obtain⟨x,e,ds,h1,⟨m,hm⟩,⟨hx,rfl,hl,vs,hvs,rfl⟩⟩:=H.ok
 have hA:=(eS.all hp m).exec _ _ _ _ _ _ _ _ _ _ (hm m (Nat.le_refl _)) (Nat.le_refl _)
 refine CW.code hf ⟨x,e,[],h1,⟨m,hm⟩,?_⟩
 unfold vE
 have hg:=uO hr.wf hA (hl.trans hr.log.symm) hr.log hv
 rcases hx with rfl|rfl
 ·simp only[hvs,hg];exact⟨trivial,trivial⟩
 ·simp only[hvs,hg];exact⟨trivial,trivial⟩
theorem FW.pu{f:Nat}{args:List Value}{v:Value}{K:Env→Dfs→Heap→Prop}{dst:Option Nat}(H:Pu T f args {h with log:=[]} v)(hK:K (bK e dst v) ds h):FW T (.func f) args {h with log:=[]} (KO K Q base dst e ds h.log):=by
 refine .func (CW.mono H ?_)
 rintro r h' ⟨rfl,rfl⟩
 exact⟨hK⟩
theorem Rdy.of{h:Heap}(hw:WF h):Rdy {h with log:=[]}:=⟨hw.log [],rfl⟩
theorem FW.puD{f:Nat}{args:List Value}{v:Value}{K:List Rec→Env→Heap→Prop}{mask:Nat}{rs rs':List Rec}{dst:Option Nat}(H:Pu T f args {h with log:=[]} v)(hrs:bg h base [] mask rs=some rs')(hK:K rs' (bK e dst v) h):
 FW T (.func f) args {h with log:=[]} (KD K base mask rs dst e h.log):=by
 refine .func (CW.mono H ?_)
 rintro r h' ⟨rfl,rfl⟩
 refine⟨?_⟩
 show(match bg {h with log:=ax base h.log []} base [] mask rs with
  |some rs'=>K rs' (bK e dst v) {h with log:=ax base h.log []}
  |none=>False)
 have:({h with log:=ax base h.log []}:Heap)=h:=rfl
 rw[this,hrs]
 exact hK
structure ki (h:Heap) (b o n sz:Nat) (cs:List Value):Prop where
 lt:b<h.next
 obj:∃vs own s,h.get b=some (.cells vs own s)∧dM (n*sz) (dN o vs)=cs
 len:cs.length=n*sz
inductive aA (h:Heap) (sz:Nat):Value→Nat→List Value→Prop
 |nil {c}:aA h sz (.slice none 0 c) 0 []
 |mem {b o n cap cs}:ki h b o n sz cs→n≤cap→aA h sz (.slice (some ⟨b,o,none⟩) n cap) n cs
theorem ki.ext{h h':Heap}{b o n sz:Nat}{cs:List Value}(s:ki h b o n sz cs)(x:Ext h h'):ki h' b o n sz cs:=by
 obtain⟨vs,own,t,h1,h2⟩:=s.obj
 exact⟨Nat.lt_of_lt_of_le s.lt x.next,⟨vs,own,t,(x.old _ s.lt).trans h1,h2⟩,s.len⟩
theorem aA.ext{h h':Heap}{sz n:Nat}{v:Value}{cs:List Value}(s:aA h sz v n cs)(x:Ext h h'):aA h' sz v n cs:=by
 cases s with
 |nil=>exact .nil
 |mem s hc=>exact .mem (s.ext x) hc
theorem aA.form{h:Heap}{sz n:Nat}{v:Value}{cs:List Value}(s:aA h sz v n cs):∃a c,v= .slice a n c:=by
 cases s<;>exact⟨_,_,rfl⟩
theorem aA.log{h:Heap}{sz n:Nat}{v:Value}{cs:List Value}(s:aA h sz v n cs)(l:List Nat):aA {h with log:=l} sz v n cs:=by
 cases s with
 |nil=>exact .nil
 |mem s hc=>exact .mem ⟨s.lt,s.obj,s.len⟩ hc
theorem aA.inv{h:Heap}{sz n:Nat}{v:Value}{cs:List Value}(s:aA h sz v n cs):(∃c,v= .slice none 0 c∧n=0∧cs=[])∨∃b o cap,v= .slice (some ⟨b,o,none⟩) n cap∧ki h b o n sz cs∧n≤cap:=by
 cases s with
 |nil=>exact .inl ⟨_,rfl,rfl,rfl⟩
 |mem s hc=>exact .inr ⟨_,_,_,rfl,s,hc⟩
theorem aA.take{h:Heap}{sz n i c:Nat}{a:Option Addr}{cs:List Value}(s:aA h sz (.slice a n c) n cs)(hi:i≤n):aA h sz (.slice a i i) i (cs.take (i*sz)):=by
 rcases s.inv with⟨_,hv,h0,rfl⟩|⟨b,o,cap,hv,s1,hc⟩
 ·cases hv
  obtain rfl:i=0:=by omega
  simp
  exact .nil
 ·cases hv
  refine .mem ⟨s1.lt,?_,?_⟩ (Nat.le_refl _)
  ·obtain⟨vs,own,t,h1,h2⟩:=s1.obj
   refine⟨vs,own,t,h1,?_⟩
   rw[←h2]
   simp only[dj,List.take_take]
   rw[Nat.min_eq_left (Nat.mul_le_mul_right _ hi)]
  ·rw[List.length_take,s1.len,Nat.min_eq_left (Nat.mul_le_mul_right _ hi)]
theorem FL{size n i c:Nat}{a:Option Addr}{x y z:Operand}(hx:ev h e x=some (.slice a n c))(hy:ev h e y=some (.int .i64 (i:Nat)))(hz:ev h e z=some (.int .i64 (i:Nat)))(hi:i≤n)(hc:n≤c)(hn:n<1000000)(ha:a=none∨∃b o,a=some ⟨b,o,none⟩):
 aop h base e (.slice (.sl size) x none (some y) (some z))=some (.val (.slice a i i) h):=by
 have e0:(.int .i64 (i:Nat):Value)= .int .i64 (Int.ofNat i):=rfl
 rw[e0]at hy hz
 have hm:(Nat.ble 0 i&&Nat.ble i i&&Nat.ble i (bif Nat.beq c UNK then n else c)&&Nat.blt i UNK)=true:=by
  simp only[ble_eq,blt_eq,beq_eq,cond_eq_ite]
  unfold UNK
  split<;>simp<;>omega
 simp only[aop,hx,dU,eY,bnd,hy,hz,kU,hm,cond_true,Nat.sub_zero]
 rcases ha with rfl|⟨b,o,rfl⟩
 ·cases Nat.beq i 0<;>rfl
 ·cases Nat.beq i 0<;>simp
theorem aA.len{h:Heap}{sz n:Nat}{v:Value}{cs:List Value}(s:aA h sz v n cs):cs.length=n*sz:=by
 cases s with
 |nil=>simp
 |mem s _=>exact s.len
end Go.A
end
section
namespace Go.A
variable {T:Nat→Option ah} {base:Nat} {rnd:Option Nat} {Q:XQ} {e:Env} {ds:Dfs} {h:Heap}
theorem yR{k:IntKind}{a b:Int}(h:b≤a):cV .geq (.int k a) (.int k b)=some (.bool true):=by rw[zZ,decide_eq_true h]
theorem zg{k:IntKind}{a b:Int}(h:a<b):cV .geq (.int k a) (.int k b)=some (.bool false):=by rw[zZ,decide_eq_false (by omega)]
theorem JT{k:IntKind}{a b:Int}(h:a≤b):cV .leq (.int k a) (.int k b)=some (.bool true):=by rw[IA,decide_eq_true h]
theorem JX{k:IntKind}{a b:Int}(h:b<a):cV .leq (.int k a) (.int k b)=some (.bool false):=by rw[IA,decide_eq_false (by omega)]
theorem I6{k:IntKind}{a b:Int}(h:a<b):cV .lss (.int k a) (.int k b)=some (.bool true):=by rw[IE,decide_eq_true h]
theorem Dp{k:IntKind}{a b:Int}(h:b≤a):cV .lss (.int k a) (.int k b)=some (.bool false):=by rw[IE,decide_eq_false (by omega)]
theorem Jy{k:IntKind}{a b:Int}(h:b<a):cV .gtr (.int k a) (.int k b)=some (.bool true):=by rw[IM,decide_eq_true h]
theorem Jh{k:IntKind}{a b:Int}(h:a≤b):cV .gtr (.int k a) (.int k b)=some (.bool false):=by rw[IM,decide_eq_false (by omega)]
theorem zB{k:IntKind}{a b:Int}(h:a=b):cV .eql (.int k a) (.int k b)=some (.bool true):=by rw[Fy];simp[h]
theorem zj{k:IntKind}{a b:Int}(h:a≠b):cV .eql (.int k a) (.int k b)=some (.bool false):=by rw[Fy];simp[h]
theorem Jv{k:IntKind}{a b:Int}(h:a≠b):cV .neq (.int k a) (.int k b)=some (.bool true):=by rw[IF];simp[h]
theorem Jp{k:IntKind}{a b:Int}(h:a=b):cV .neq (.int k a) (.int k b)=some (.bool false):=by rw[IF];simp[h]
end Go.A
end
section
namespace Go.A
variable {T:Nat→Option ah} {base:Nat} {rnd:Option Nat} {Q:XQ} {e:Env} {ds:Dfs} {h:Heap}
def Al(T:Nat→Option ah)(f:Nat)(args:List Value)(h:Heap)(Q:Value→Heap→Prop):Prop:=CW T f args h fun r h'=>Ext h h'∧∃v,r= .ret v∧Q v h'
structure JU (rs:List (Nat×Option (Option Nat))) (Q:Value→Heap→Prop) (x:bQ) (e:Env) (ds:Dfs) (h1:Heap):Prop where
 ok:(x= .normal∨x= .ret)∧ds=[]∧h1.log=[]∧∃vs,bW h1 e rs=some vs∧Q (dZ vs) h1
theorem dn{rs:List (Nat×Option (Option Nat))}{Q:Value→Heap→Prop}{vs:List Value}(hl:h.log=[])(hr:bW h e rs=some vs)(hq:Q (dZ vs) h):JU rs Q .ret e [] h:=⟨⟨.inr rfl,rfl,hl,vs,hr,hq⟩⟩
theorem Ext.lY{h h1:Heap}(hr:Rdy h)(hA:AS h.next h h1)(hl:h1.log=[]):Ext h h1:=
 ⟨hA.next,hl.trans hr.log.symm,fun b hb=>hA.same b hb hb (by rw[hl];rfl),fun w=>w.as hA⟩
theorem Al.of(hp:bC T){f:Nat}{args:List Value}{c:aJ}{rs:List (Nat×Option (Option Nat))}{Q:Value→Heap→Prop}(hf:T f=some (.code c rs))(hr:Rdy h)(hQ:∀v h1,cD v=true→Q v h1→Q v h)(H:WE T h.next none c (JU rs Q) (dA 0 args) [] h):Al T f args h Q:=by
 obtain⟨x,e,ds,h1,⟨m,hm⟩,⟨hx,rfl,hl,vs,hvs,hq⟩⟩:=H.ok
 have hA:=(eS.all hp m).exec _ _ _ _ _ _ _ _ _ _ (hm m (Nat.le_refl _)) (Nat.le_refl _)
 refine CW.code hf ⟨x,e,[],h1,⟨m,hm⟩,?_⟩
 have key:Ext h (gcA h h1 (dZ vs))∧Q (dZ vs) (gcA h h1 (dZ vs)):=by
  cases hv:cD (dZ vs)with
  |true=>
   rw[uO hr.wf hA (hl.trans hr.log.symm) hr.log hv]
   exact⟨.refl _,hQ _ _ hv hq⟩
  |false=>
   have:gcA h h1 (dZ vs)=h1:=by simp[gcA,hv]
   rw[this]
   exact⟨.lY hr hA hl,hq⟩
 unfold vE
 rcases hx with rfl|rfl
 ·simp only[hvs];exact⟨key.1,_,rfl,key.2⟩
 ·simp only[hvs];exact⟨key.1,_,rfl,key.2⟩
theorem Ext.FP{h h':Heap}(x:Ext {h with log:=[]} h'):Ext h {h' with log:=ax base h.log h'.log}:=by
 have:h'.log=[]:=x.log
 refine⟨x.next,by rw[this];rfl,x.old,fun w=>(x.wf (w.log [])).log _⟩
theorem FW.al{f:Nat}{args:List Value}{Q':Value→Heap→Prop}{K:Env→Dfs→Heap→Prop}{dst:Option Nat}(H:Al T f args {h with log:=[]} Q')(hlog:∀v (h':Heap) l,Q' v h'→Q' v {h' with log:=l})
 (hK:∀v h',Ext h h'→Q' v h'→K (bK e dst v) ds h'):FW T (.func f) args {h with log:=[]} (KO K Q base dst e ds h.log):=by
 refine .func (CW.mono H ?_)
 rintro r h' ⟨hx,v,rfl,hq⟩
 exact⟨hK v _ hx.FP (hlog v h' _ hq)⟩
theorem FW.alD{f:Nat}{args:List Value}{Q':Value→Heap→Prop}{K:List Rec→Env→Heap→Prop}{mask:Nat}{rs:List Rec}{dst:Option Nat}(H:Al T f args {h with log:=[]} Q')(hlog:∀v (h':Heap) l,Q' v h'→Q' v {h' with log:=l})
 (hK:∀v h',Ext h h'→Q' v h'→∃rs',bg h' base [] mask rs=some rs'∧K rs' (bK e dst v) h'):FW T (.func f) args {h with log:=[]} (KD K base mask rs dst e h.log):=by
 refine .func (CW.mono H ?_)
 rintro r h' ⟨hx,v,rfl,hq⟩
 refine⟨?_⟩
 obtain⟨rs',h1,h2⟩:=hK v _ (hx.FP (base:=base)) (hlog v h' _ hq)
 show(match bg {h' with log:=ax base h.log h'.log} base h'.log mask rs with
  |some rs'=>K rs' (bK e dst v) {h' with log:=ax base h.log h'.log}
  |none=>False)
 have hl:h'.log=[]:=hx.log
 rw[hl]at h1 h2⊢
 rw[h1];exact h2
theorem fP:bW h e []=some []:=rfl
theorem jg{t n b o s:Nat}{own:Bool}{ws l:List Value}{rs:List (Nat×Option (Option Nat))}{vs:List Value}(ht:geT e t=some (.pointer (some ⟨b,o,none⟩)))(hb:h.get b=some (.cells ws own s))(hl:dM n (dN o ws)=l)(hn:Nat.beq (cI l) n=true)(hr:bW h e rs=some vs):
 bW h e ((t,some (some n))::rs)=some (.agg l.toArray::vs):=by simp only[bW,ht,mH,hb,hl,hn,cond_true,hr]
theorem ef{t b o s:Nat}{own:Bool}{ws:List Value}{v:Value}{rs:List (Nat×Option (Option Nat))}{vs:List Value}(ht:geT e t=some (.pointer (some ⟨b,o,none⟩)))(hb:h.get b=some (.cells ws own s))(hl:bG ws o=some v)(hr:bW h e rs=some vs):
 bW h e ((t,some none)::rs)=some (v::vs):=by simp only[bW,ht,mH,hb,hl,hr]
theorem bT{log:List Nat}{mask:Nat}:bg h base log mask []=some []:=rfl
theorem Ig{log:List Nat}{mask:Nat}{r:Rec}{rs rs':List Rec}(hb:Nat.testBit mask r.i=true)(H:bg h base log mask rs=some rs'):bg h base log mask (r::rs)=some rs':=by
 simp only[bg,hb,cond_true,H]
theorem GD{log:List Nat}{mask:Nat}{r:Rec}{rs rs':List Rec}(hb:Nat.testBit mask r.i=false)(hq:oh h base r=true)(hm:Cd log r=true)(H:bg h base log mask rs=some rs'):bg h base log mask (r::rs)=some (r::rs'):=by
 simp only[bg,hb,hq,hm,Bool.and_true,cond_true,cond_false,H]
theorem oZ{r:Rec}{b:Nat}(hk:r.k= .made b):oh h base r=true:=by simp only[oh,hk]
theorem ay{r:Rec}(hk:r.k= .quiet)(hv:aop h base r.e r.o.op=some (.val r.v h))(hs:j0 r.v r.v=true):oh h base r=true:=by
 have hb:Nat.beq h.next h.next=true:=by rw[beq_eq];simp
 simp only[oh,hk,hv,hs,hb,Bool.and_self]
theorem jx:kq h base []=true:=rfl
theorem b8{r:Rec}{rs:List Rec}(h1:oh h base r=true)(h2:kq h base rs=true):kq h base (r::rs)=true:=by simp only[kq,h1,cond_true,h2]
theorem dy(a:Option Addr):j0 (.pointer a) (.pointer a)=true:=by simp[j0,jv]
theorem dL(k:IntKind)(n:Int):j0 (.int k n) (.int k n)=true:=by simp[j0,jv]
theorem kM(a:Option Addr)(n c:Nat):j0 (.slice a n c) (.slice a n c)=true:=by simp[j0,jv]
theorem eU{c:Array Value}(h:jC c.toList c.toList=true):j0 (.agg c) (.agg c)=true:=h
theorem eW:jC [] []=true:=rfl
theorem bN{v:Value}{l:List Value}(h1:jv v v=true)(h2:jC l l=true):jC (v::l) (v::l)=true:=by simp only[jC,h1,cond_true,h2]
theorem dz(k:IntKind)(n:Int):jv (.int k n) (.int k n)=true:=by simp[jv]
theorem gC(a:Option Addr)(n c:Nat):jv (.slice a n c) (.slice a n c)=true:=by simp[jv]
theorem kI{b o n c size:Nat}{vs cs:List Value}{own:Bool}{s:Nat}(hb:h.get b=some (.cells vs own s))(hc:dM (n*size) (dN o vs)=cs)(hl:cs.length=n*size):cK h size (.slice (some ⟨b,o,none⟩) n c)=some (cs,n):=by
 simp only[cK,hb,hc,dF,hl,beq_eq,decide_true,cond_true]
theorem xO{size n:Nat}{v:Value}{cs:List Value}(s:aA h size v n cs):cK h size v=some (cs,n):=by
 cases s with
 |nil=>rfl
 |mem s _=>
  obtain⟨vs,own,t,h1,h2⟩:=s.obj
  exact kI h1 h2 s.len
theorem Ba{size bytes n c:Nat}{x y:Operand}{v:Value}{cs:List Value}(hx:ev h e x=some (.slice none 0 0))(hy:ev h e y=some v)(hs:cK h size v=some (cs,n))(hn:n≠0)(hb:(2*(0+n)+768)*bytes≤281474976710656)(hc:c=UNK):
 aop h base e (.append size bytes x y)=some (.val (.slice (some ⟨h.next,0,none⟩) n c) (h.push (.cells cs true size))):=by
 have h0:Nat.beq n 0=false:=by rw[beq_eq];simpa using hn
 have h1:Nat.ble ((2*(0+n)+768)*bytes) 281474976710656=true:=by rw[ble_eq];simpa using hb
 subst hc
 simp only[aop,hx,hy,hs,gi,h0,h1,cond_true,cond_false,Nat.beq,Bool.and_self,dU]
theorem rL{size bytes len n q:Nat}{x y:Operand}{v:Value}{vs cs ws:List Value}(hx:ev h e x=some (.slice (some ⟨q,0,none⟩) len UNK))(hy:ev h e y=some v)(hs:cK h size v=some (cs,n))(hn:n≠0)(hq:h.get q=some (.cells vs true size))(hl:vs.length=len*size)
 (hsz:0<size)(h1:fB cs=true)(hb:(2*(len+n)+768)*bytes≤281474976710656)(hw:dg vs cs=ws):
 aop h base e (.append size bytes x y)=some (.val (.slice (some ⟨h.next,0,none⟩) (len+n) UNK) ((h.wr base q .dead).push (.cells ws true size))):=by
 have h0:Nat.beq n 0=false:=by rw[beq_eq];simpa using hn
 have h2:Nat.ble ((2*(len+n)+768)*bytes) 281474976710656=true:=by rw[ble_eq];simpa using hb
 have h3:Nat.beq UNK UNK=true:=by rw[beq_eq];simp
 have h4:Nat.beq size size=true:=by rw[beq_eq];simp
 have h5:Nat.ble (0+(len+n)*size) (cI vs)=false:=by
  rw[ble_eq,dF,hl,Nat.add_mul]
  have:0<n*size:=Nat.mul_pos (Nat.pos_of_ne_zero hn) hsz
  simp;omega
 have h6:Nat.beq (len*size) (cI vs)=true:=by rw[beq_eq,dF,hl];simp
 simp only[aop,hx,hy,hs,gi,h0,h2,hq,h3,h4,h5,h6,h1,Bool.and_true,Bool.false_and,cond_true,cond_false,hw,dU,Nat.beq]
theorem xI{size bytes len n q o c s:Nat}{own:Bool}{x y:Operand}{v:Value}{vs cs ws:List Value}(hx:ev h e x=some (.slice (some ⟨q,o,none⟩) len c))(hy:ev h e y=some v)(hs:cK h size v=some (cs,n))(hn:n≠0)(hc:c<len+n)(hu:c<UNK)
 (hq:h.get q=some (.cells vs own s))(hl:o+len*size≤vs.length)(hb:(2*(len+n)+768)*bytes≤281474976710656)(hw:dg (dM (len*size) (dN o vs)) cs=ws):
 aop h base e (.append size bytes x y)=some (.val (.slice (some ⟨h.next,0,none⟩) (len+n) UNK) (h.push (.cells ws true size))):=by
 have h0:Nat.beq n 0=false:=by rw[beq_eq];simpa using hn
 have h2:Nat.ble ((2*(len+n)+768)*bytes) 281474976710656=true:=by rw[ble_eq];simpa using hb
 have h3:Nat.beq c UNK=false:=by rw[beq_eq];simp;omega
 have h4:Nat.ble (len+n) c=false:=by rw[ble_eq];simp;omega
 have h5:Nat.ble (o+len*size) (cI vs)=true:=by rw[ble_eq,dF];simpa using hl
 simp only[aop,hx,hy,hs,gi,h0,h2,hq,h3,h4,h5,cond_true,cond_false,hw,dU]
theorem rq{size bytes len c:Nat}{a:Option Addr}{x y:Operand}{v:Value}(hx:ev h e x=some (.slice a len c))(hy:ev h e y=some v)(hs:cK h size v=some ([],0))(hc:len≤c):aop h base e (.append size bytes x y)=some (.val (.slice a len c) h):=by
 have h2:Nat.ble len c=true:=by rw[ble_eq];simpa using hc
 simp only[aop,hx,hy,hs,gi,h2,cond_true,Nat.beq,dU]
end Go.A
end
section
namespace Go.A
variable {T:Nat→Option ah} {base:Nat} {rnd:Option Nat} {Q:XQ} {e:Env} {ds:Dfs} {h:Heap}
theorem jJ{ops:List aQ}{bf:List Nat}{rs rs':List Rec}{Q:Env→Heap→Prop}{i mask:Nat}{is:List Nat}{dst:Option Nat}{op:AOp}{g:Option (Nat×Bool)}{er:Env}{v:Value}{h2 h3:Heap}{lg:List Nat}(ho:bG ops i=some ⟨dst,op,g⟩)(hm:bG bf i=some mask)
 (he:bS e (bR ⟨dst,op,g⟩)=er)(hw:bA er g=some true)(hq:gU op=false)(hop:aop {h with log:=[]} h.next er op=some (.val v h2))(h3e:({h2 with log:=ax base h.log h2.log}:Heap)=h3)(hlg:h2.log=lg)
 (hrs:bg h3 base lg mask rs=some rs')(H:WD T base ops bf Q is rs' (bK e dst v) h3):WD T base ops bf Q (i::is) rs e h:=by
 subst h3e;subst hlg
 exact JN ho hm he hw hq hop hrs H
theorem uL(o:bE):(({h with log:=[]}:Heap).push o).log=[]:=rfl
theorem sJ{b:Nat}(hb:b<h.next)(o:bE):(({h with log:=[]}:Heap).wr h.next b o).log=[b]:=by
 simp[Heap.wr,blt_eq,hb,eE]
theorem u6(o:bE):({({h with log:=[]}:Heap).push o with log:=ax base h.log (({h with log:=[]}:Heap).push o).log}:Heap)=h.push o:=rfl
theorem IB{b:Nat}(hb:b<h.next)(hbb:base≤b)(o:bE):({({h with log:=[]}:Heap).wr h.next b o with log:=ax base h.log (({h with log:=[]}:Heap).wr h.next b o).log}:Heap)=h.wr base b o:=by
 rw[sJ hb]
 have h1:Nat.blt b base=false:=by rw[blt_eq];simp;omega
 simp only[Heap.wr,ax,h1,cond_false]
theorem xV{b:Nat}(hb:b<h.next)(hbb:base≤b)(o o':bE):({(({h with log:=[]}:Heap).wr h.next b o).push o' with log:=ax base h.log ((({h with log:=[]}:Heap).wr h.next b o).push o').log}:Heap)=(h.wr base b o).push o':=by
 have:=IB (base:=base) hb hbb o
 have h2:((({h with log:=[]}:Heap).wr h.next b o).push o').log=(({h with log:=[]}:Heap).wr h.next b o).log:=rfl
 rw[h2,←this];rfl
theorem ir{ops:List aQ}{bf:List Nat}{rs rs':List Rec}{Q:Env→Heap→Prop}{i mask:Nat}{is:List Nat}{dst:Option Nat}{x y:Operand}{n b o sz:Nat}{vs ws:List Value}{v:Value}{g:Option (Nat×Bool)}{er:Env}(ho:bG ops i=some ⟨dst, .store n x y,g⟩)(hm:bG bf i=some mask)
 (he:bS e (bR ⟨dst, .store n x y,g⟩)=er)(hw:bA er g=some true)(hx:ev {h with log:=[]} er x=some (.pointer (some ⟨b,o,none⟩)))(hy:ev {h with log:=[]} er y=some v)(hb:h.get b=some (.cells vs true sz))
 (hc:(Nat.beq (cI (cellsOf v)) n&&Nat.ble (o+n) (cI vs)&&fB (cellsOf v))=true)(hws:cW vs o (cellsOf v)=ws)(hlt:b<h.next)(hbb:base≤b)(hrs:bg (h.wr base b (.cells ws true sz)) base [b] mask rs=some rs')
 (H:WD T base ops bf Q is rs' (bK e dst (.tuple #[])) (h.wr base b (.cells ws true sz))):WD T base ops bf Q (i::is) rs e h:=
 jJ ho hm he hw rfl (jF (h:={h with log:=[]}) hx hy hb hc hws) (IB hlt hbb _) (sJ hlt _) hrs H
theorem wz{ops:List aQ}{bf:List Nat}{rs rs':List Rec}{Q:Env→Heap→Prop}{i mask:Nat}{is:List Nat}{dst:Option Nat}{g:Option (Nat×Bool)}{er:Env}{size bytes len n q o c s:Nat}{own:Bool}{x y:Operand}{v:Value}{vs cs ws:List Value}
 (ho:bG ops i=some ⟨dst, .append size bytes x y,g⟩)(hm:bG bf i=some mask)(he:bS e (bR ⟨dst, .append size bytes x y,g⟩)=er)(hwt:bA er g=some true)
 (hx:ev {h with log:=[]} er x=some (.slice (some ⟨q,o,none⟩) len c))(hy:ev {h with log:=[]} er y=some v)(hs:cK {h with log:=[]} size v=some (cs,n))(hn:n≠0)(hc:c<len+n)(hu:c<UNK)
 (hq:h.get q=some (.cells vs own s))(hl:o+len*size≤vs.length)(hb:(2*(len+n)+768)*bytes≤281474976710656)(hw:dg (dM (len*size) (dN o vs)) cs=ws)
 (hrs:bg (h.push (.cells ws true size)) base [] mask rs=some rs')(H:WD T base ops bf Q is rs' (bK e dst (.slice (some ⟨h.next,0,none⟩) (len+n) UNK)) (h.push (.cells ws true size))):WD T base ops bf Q (i::is) rs e h:=
 jJ ho hm he hwt rfl (xI (h:={h with log:=[]}) hx hy hs hn hc hu hq hl hb hw) (u6 _) (uL _) hrs H
theorem tr{ops:List aQ}{bf:List Nat}{rs rs':List Rec}{Q:Env→Heap→Prop}{i mask:Nat}{is:List Nat}{dst:Option Nat}{g:Option (Nat×Bool)}{er:Env}{size bytes n:Nat}{x y:Operand}{v:Value}{cs:List Value}
 (ho:bG ops i=some ⟨dst, .append size bytes x y,g⟩)(hm:bG bf i=some mask)(he:bS e (bR ⟨dst, .append size bytes x y,g⟩)=er)(hwt:bA er g=some true)
 (hx:ev {h with log:=[]} er x=some (.slice none 0 0))(hy:ev {h with log:=[]} er y=some v)(hs:cK {h with log:=[]} size v=some (cs,n))(hn:n≠0)(hb:(2*(0+n)+768)*bytes≤281474976710656)
 (hrs:bg (h.push (.cells cs true size)) base [] mask rs=some rs')(H:WD T base ops bf Q is rs' (bK e dst (.slice (some ⟨h.next,0,none⟩) n UNK)) (h.push (.cells cs true size))):WD T base ops bf Q (i::is) rs e h:=
 jJ ho hm he hwt rfl (Ba (h:={h with log:=[]}) hx hy hs hn hb rfl) (u6 _) (uL _) hrs H
theorem xh{ops:List aQ}{bf:List Nat}{rs rs':List Rec}{Q:Env→Heap→Prop}{i mask:Nat}{is:List Nat}{dst:Option Nat}{g:Option (Nat×Bool)}{er:Env}{size bytes len c:Nat}{a:Option Addr}{x y:Operand}{v:Value}
 (ho:bG ops i=some ⟨dst, .append size bytes x y,g⟩)(hm:bG bf i=some mask)(he:bS e (bR ⟨dst, .append size bytes x y,g⟩)=er)(hwt:bA er g=some true)
 (hx:ev {h with log:=[]} er x=some (.slice a len c))(hy:ev {h with log:=[]} er y=some v)(hs:cK {h with log:=[]} size v=some ([],0))(hc:len≤c)
 (hrs:bg h base [] mask rs=some rs')(H:WD T base ops bf Q is rs' (bK e dst (.slice a len c)) h):WD T base ops bf Q (i::is) rs e h:=
 jJ ho hm he hwt rfl (rq (h:={h with log:=[]}) hx hy hs hc) rfl rfl hrs H
theorem wu{ops:List aQ}{bf:List Nat}{rs rs':List Rec}{Q:Env→Heap→Prop}{i mask:Nat}{is:List Nat}{dst:Option Nat}{g:Option (Nat×Bool)}{er:Env}{size bytes len n q:Nat}{x y:Operand}{v:Value}{vs cs ws:List Value}
 (ho:bG ops i=some ⟨dst, .append size bytes x y,g⟩)(hm:bG bf i=some mask)(he:bS e (bR ⟨dst, .append size bytes x y,g⟩)=er)(hwt:bA er g=some true)
 (hx:ev {h with log:=[]} er x=some (.slice (some ⟨q,0,none⟩) len UNK))(hy:ev {h with log:=[]} er y=some v)(hs:cK {h with log:=[]} size v=some (cs,n))(hn:n≠0)(hq:h.get q=some (.cells vs true size))(hl:vs.length=len*size)
 (hsz:0<size)(h1:fB cs=true)(hb:(2*(len+n)+768)*bytes≤281474976710656)(hw:dg vs cs=ws)(hlt:q<h.next)(hbb:base≤q)
 (hrs:bg ((h.wr base q .dead).push (.cells ws true size)) base [q] mask rs=some rs')(H:WD T base ops bf Q is rs' (bK e dst (.slice (some ⟨h.next,0,none⟩) (len+n) UNK)) ((h.wr base q .dead).push (.cells ws true size))):WD T base ops bf Q (i::is) rs e h:=
 jJ ho hm he hwt rfl (rL (h:={h with log:=[]}) hx hy hs hn hq hl hsz h1 hb hw) (xV hlt hbb _ _) (sJ hlt .dead) hrs H
theorem Heap.vH{h:Heap}{o:bE}{x:Nat}(h1:x≤h.next)(h2:h.next≤x):(h.push o).get x=some o:=by rw[Heap.dr,if_pos (Nat.le_antisymm h1 h2)]
theorem Heap.BF{h:Heap}{base b:Nat}{o:bE}{x:Nat}(h1:x≤b)(h2:b≤x):(h.wr base b o).get x=(h.get x).map fun _=>o:=by rw[Heap.j7,if_pos (Nat.le_antisymm h1 h2),Nat.le_antisymm h1 h2]
theorem aa{log:List Nat}{mask i:Nat}{o:aQ}{e:Env}{v:Value}{k:Rk}{rs rs':List Rec}(hb:Nat.testBit mask i=true)(H:bg h base log mask rs=some rs'):bg h base log mask (⟨i,o,e,v,k⟩::rs)=some rs':=Ig hb H
theorem aM{log:List Nat}{mask i:Nat}{o:aQ}{e:Env}{v:Value}{k:Rk}{rs rs':List Rec}(hb:Nat.testBit mask i=false)(hq:oh h base ⟨i,o,e,v,k⟩=true)(hm:Cd log ⟨i,o,e,v,k⟩=true)(H:bg h base log mask rs=some rs'):
 bg h base log mask (⟨i,o,e,v,k⟩::rs)=some (⟨i,o,e,v,k⟩::rs'):=GD hb hq hm H
theorem qW{size n:Nat}{v:Value}{cs:List Value}{l:List Nat}(hs:cK h size v=some (cs,n)):cK {h with log:=l} size v=some (cs,n):=by
 have:cK {h with log:=l} size v=cK h size v:=by unfold cK;rfl
 rw[this];exact hs
end Go.A
end
section
namespace Go.A
variable {T:Nat→Option ah} {base:Nat} {rnd:Option Nat} {Q:XQ} {e:Env} {ds:Dfs} {h:Heap}
theorem kQ{x:Operand}{k:IntKind}{n d:Nat}(hx:ev h e x=some (.int k (n:Nat))):bnd h e d (some x)=some n:=by
 have:(.int k (n:Nat):Value)= .int k (Int.ofNat n):=rfl
 rw[this]at hx
 simp only[bnd,hx,kU]
theorem kH{d:Nat}:bnd h e d none=some d:=rfl
theorem jM(n:Nat):Nat.beq n n=true:=by rw[beq_eq];simp
theorem fe{a b:Nat}(h:a≤b):Nat.ble a b=true:=by rw[ble_eq];simpa using h
theorem gP{a b:Nat}(h:a<b):Nat.blt a b=true:=by rw[blt_eq];simpa using h
theorem rJ{a b:Nat}(h:¬a<b):Nat.blt a b=false:=by rw[blt_eq];simpa using h
theorem jW{a b:Nat}(h:a≠b):Nat.beq a b=false:=by rw[beq_eq];simpa using h
theorem zP{size b o n i:Nat}{k:IntKind}{x y:Operand}{vs:List Value}{own:Bool}(hx:ev h e x=some (.slice (some ⟨b,o,none⟩) n UNK))(hy:ev h e y=some (.int k (i:Nat)))(hb:h.get b=some (.cells vs own size))(hi:i≤n)(h0:0<n):
 aop h base e (.slice (.sl size) x none (some y) none)=some (.val (.slice (some ⟨b,o,none⟩) i UNK) h):=by
 simp only[aop,hx,eY,kQ hy,kH,hb,jM,fe (Nat.zero_le _),fe hi,gP h0,Bool.true_or,Bool.and_true,cond_true,dU,Nat.zero_mul,Nat.add_zero,Nat.sub_zero]
theorem ye{size b o n i:Nat}{k:IntKind}{x y:Operand}{vs:List Value}{own:Bool}(hx:ev h e x=some (.slice (some ⟨b,o,none⟩) n UNK))(hy:ev h e y=some (.int k (i:Nat)))(hb:h.get b=some (.cells vs own size))(hi:i<n):
 aop h base e (.slice (.sl size) x (some y) none none)=some (.val (.slice (some ⟨b,o+i*size,none⟩) (n-i) UNK) h):=by
 simp only[aop,hx,eY,kQ hy,kH,hb,jM,fe (Nat.le_of_lt hi),fe (Nat.le_refl n),gP hi,Bool.true_or,Bool.and_true,cond_true,dU]
theorem wD{size b o n:Nat}{k:IntKind}{x y:Operand}{vs:List Value}{own:Bool}(hx:ev h e x=some (.slice (some ⟨b,o,none⟩) n UNK))(hy:ev h e y=some (.int k (n:Nat)))(hb:h.get b=some (.cells vs own size))(h0:n≠0):
 aop h base e (.slice (.sl size) x (some y) none none)=some (.val (.slice (some ⟨h.next,0,none⟩) 0 UNK) (h.push (.cells [] false size))):=by
 simp only[aop,hx,eY,kQ hy,kH,hb,jM,fe (Nat.le_refl n),rJ (Nat.lt_irrefl n),jW h0,Bool.or_self,Bool.true_or,Bool.and_true,cond_true,cond_false,dU]
theorem tF{size bytes len n q o:Nat}{x y:Operand}{v:Value}{vs cs ws:List Value}(hx:ev h e x=some (.slice (some ⟨q,o,none⟩) len UNK))(hy:ev h e y=some v)(hs:cK h size v=some (cs,n))(hn:n≠0)(hq:h.get q=some (.cells vs true size))(hl:o+(len+n)*size≤vs.length)
 (h1:fB cs=true)(hb:(2*(len+n)+768)*bytes≤281474976710656)(hw:cW vs (o+len*size) cs=ws):
 aop h base e (.append size bytes x y)=some (.val (.slice (some ⟨q,o,none⟩) (len+n) UNK) (h.wr base q (.cells ws true size))):=by
 have h5:Nat.ble (o+(len+n)*size) (cI vs)=true:=by rw[dF];exact fe hl
 simp only[aop,hx,hy,hs,gi,jW hn,fe hb,hq,jM,h5,h1,Bool.and_true,cond_true,cond_false,hw,dU]
theorem yQ{b:Nat}(hb:b<h.next)(o:bE):({({h with log:=[]}:Heap).wr h.next b o with log:=ax base h.log (({h with log:=[]}:Heap).wr h.next b o).log}:Heap)=h.wr base b o:=by
 rw[sJ hb]
 rfl
theorem nj{α:Type}{l m:List α}{o:Nat}(ho:o+m.length≤l.length):cW l o m=l.take o++m++l.drop (o+m.length):=by
 apply List.ext_getElem?
 intro i
 rw[lp m l o i ho]
 by_cases h1:o≤i∧i<o+m.length
 ·rw[if_pos h1,List.getElem?_append_left (by simp;omega),List.getElem?_append_right (by simp;omega)]
  congr 1;simp;omega
 ·rw[if_neg h1]
  by_cases h2:i<o
  ·rw[List.getElem?_append_left (by simp;omega),List.getElem?_append_left (by simp;omega),List.getElem?_take_of_lt h2]
  ·rw[List.getElem?_append_right (by simp;omega),List.getElem?_drop]
   congr 1;simp;omega
structure Upd (h h':Heap) (b:Nat) (o:bE):Prop where
 next:h.next≤h'.next
 log:h'.log=[b]
 old:∀x,x<h.next→x≠b→h'.get x=h.get x
 obj:h'.get b=some o
 wf:WF h→WF h'
end Go.A
end
section
namespace Go.A
theorem z1(h:Heap)(o:bE):(h.push o).next=h.next+1:=rfl
theorem z2(h:Heap)(base b:Nat)(o:bE):(h.wr base b o).next=h.next:=rfl
theorem z3(h:Heap)(o:bE):(h.push o).get h.next=some o:=Heap.vl h o
theorem z4{h:Heap}{o:bE}{x:Nat}(hx:x<h.next):(h.push o).get x=h.get x:=Heap.jH hx
theorem z5{h:Heap}{base b:Nat}{o:bE}{x:Nat}(hx:x≠b):(h.wr base b o).get x=h.get x:=Heap.fO hx
theorem z6(h:Heap)(base b:Nat)(o:bE):(h.wr base b o).get b=(h.get b).map fun _=>o:=Heap.wC h base b o
theorem z7{α β:Type}(f:α→β)(a:α):Option.map f (some a)=some (f a):=rfl
theorem z8{h:Heap}{o:bE}{x:Nat}(h1:x≤h.next)(h2:h.next≤x):(h.push o).get x=some o:=Heap.vH h1 h2
theorem z9{h:Heap}{base b:Nat}{o:bE}{x:Nat}(h1:x≤b)(h2:b≤x):(h.wr base b o).get x=(h.get x).map fun _=>o:=Heap.BF h1 h2
end Go.A
end
section
namespace Go.A
variable {T:Nat→Option ah} {base:Nat} {rnd:Option Nat} {Q:XQ} {e:Env} {ds:Dfs} {h:Heap}
def dG(lo:Nat)(l:List Nat):Prop:=∀x∈l,lo≤x
theorem dG.nil(lo:Nat):dG lo []:=fun x hx=>by cases hx
theorem dG.merge{lo base:Nat}:∀{m l:List Nat},dG lo l→dG lo m→dG lo (ax base l m)
 |[],l,h1,_=>h1
 |b::m,l,h1,h2=>by
  simp only[ax]
  refine dG.merge ?_ fun x hx=>h2 x (List.mem_cons_of_mem _ hx)
  have hb:=h2 b (List.mem_cons_self ..)
  simp only[cond_eq_ite]
  split
  ·split
   ·exact h1
   ·intro x hx
    rcases List.mem_cons.1 hx with rfl|hx
    ·exact hb
    ·exact h1 x hx
  ·exact h1
structure Lk (lo:Nat) (h h':Heap):Prop where
 next:h.next≤h'.next
 log:dG lo h.log→dG lo h'.log
 old:∀x,x<lo→h'.get x=h.get x
 wf:WF h→WF h'
theorem Lk.refl(lo:Nat)(h:Heap):Lk lo h h:=⟨Nat.le_refl _,id,fun _ _=>rfl,id⟩
theorem Lk.trans{lo:Nat}{a b c:Heap}(x:Lk lo a b)(y:Lk lo b c):Lk lo a c:=⟨Nat.le_trans x.next y.next,fun h=>y.log (x.log h),fun z hz=>(y.old z hz).trans (x.old z hz),fun w=>y.wf (x.wf w)⟩
theorem Lk.push{lo:Nat}{a b:Heap}(x:Lk lo a b)(hlo:lo≤b.next)(o:bE):Lk lo a (b.push o):=x.trans ⟨Nat.le_succ _,id,fun z hz=>Heap.jH (by omega),fun w=>w.push o⟩
theorem Lk.wr{lo:Nat}{a b:Heap}(x:Lk lo a b){base y:Nat}{o:bE}(hy:lo≤y):Lk lo a (b.wr base y o):=
 x.trans ⟨Nat.le_refl _,fun hl=>by
  simp only[Heap.wr,cond_eq_ite]
  split
  ·split
   ·exact hl
   ·intro z hz
    rcases List.mem_cons.1 hz with rfl|hz
    ·exact hy
    ·exact hl z hz
  ·exact hl,fun z hz=>Heap.fO (by omega),fun w=>w.as (AS.wr _ _ _ _)⟩
theorem lU{l:List Nat}{x:Nat}(h:x ∉ l):eE l x=false:=by
 cases e:eE l x with
 |false=>rfl
 |true=>exact(h (ie.1 e)).elim
theorem Lk.lY{lo:Nat}{h h':Heap}(hA:AS h.next h h')(hlo:lo≤h.next)(hl:dG lo h'.log):Lk lo h h':=
 ⟨hA.next,fun _=>hl,fun x hx=>hA.same x (by omega) (by omega) (lU fun hm=>by have:=hl x hm;omega),fun w=>w.as hA⟩
theorem Lk.call{lo:Nat}{h h2:Heap}(x:Lk lo {h with log:=[]} h2):Lk lo h {h2 with log:=ax base h.log h2.log}:=
 ⟨x.next,fun hl=>hl.merge (x.log (dG.nil _)),x.old,fun w=>(x.wf (w.log [])).log _⟩
def Gr(T:Nat→Option ah)(f:Nat)(args:List Value)(h:Heap)(lo:Nat)(Q:Value→Heap→Prop):Prop:=CW T f args h fun r h'=>Lk lo h h'∧∃v,r= .ret v∧Q v h'
structure Jk (rs:List (Nat×Option (Option Nat))) (lo:Nat) (Q:Value→Heap→Prop) (x:bQ) (e:Env) (ds:Dfs) (h1:Heap):Prop where
 ok:(x= .normal∨x= .ret)∧ds=[]∧dG lo h1.log∧∃vs,bW h1 e rs=some vs∧Q (dZ vs) h1
theorem oP{rs:List (Nat×Option (Option Nat))}{lo:Nat}{Q:Value→Heap→Prop}{vs:List Value}(hl:dG lo h.log)(hr:bW h e rs=some vs)(hq:Q (dZ vs) h):Jk rs lo Q .normal e [] h:=⟨⟨.inl rfl,rfl,hl,vs,hr,hq⟩⟩
theorem oE{h h1:Heap}{v:Value}(hA:AS h.next h h1):(∀x,x<h.next→(gcA h h1 v).get x=h1.get x)∧h.next≤(gcA h h1 v).next∧(gcA h h1 v).log=h1.log∧(cD v=false→gcA h h1 v=h1):=by
 unfold gcA
 cases hc:(cD v&&eV h1 h.next h1.log)with
 |false=>exact⟨fun _ _=>rfl,hA.next,rfl,fun _=>rfl⟩
 |true=>
  refine⟨fun x hx=> ?_,Nat.le_refl _,rfl,fun hn=>by rw[hn]at hc;cases hc⟩
  have hA':=hA.keys
  have hlen:(cA h.next (h1.next-h.next)).length=h1.next-h.next:=by
   generalize h1.next-h.next=n
   induction n with
   |zero=>rfl
   |succ n ih=>simp[cA,ih]
  have hkt:(h1.bM.take (h1.next-h.next)).map (·.1)=cA h.next (h1.next-h.next):=by
   rw[List.map_take,hA',List.take_append_of_le_length (by omega),List.take_of_length_le (by omega)]
  have:=jQ _ h.next _ (h1.bM.drop (h1.next-h.next)) hkt x hx
  rw[List.take_append_drop]at this
  show fS (dN (h1.next-h.next) h1.bM) x=fS h1.bM x
  rw[cu]
  exact this.symm
theorem Gr.of(hp:bC T){f:Nat}{args:List Value}{c:aJ}{rs:List (Nat×Option (Option Nat))}{lo:Nat}{Q:Value→Heap→Prop}(hf:T f=some (.code c rs))(hlo:lo≤h.next)
 (hQ:∀v h1 h2,cD v=true→h.next≤h2.next→(∀x,x<h.next→h2.get x=h1.get x)→Q v h1→Q v h2)(H:WE T h.next none c (Jk rs lo Q) (dA 0 args) [] h):Gr T f args h lo Q:=by
 obtain⟨x,e,ds,h1,⟨m,hm⟩,⟨hx,rfl,hl,vs,hvs,hq⟩⟩:=H.ok
 have hA:=(eS.all hp m).exec _ _ _ _ _ _ _ _ _ _ (hm m (Nat.le_refl _)) (Nat.le_refl _)
 obtain⟨g1,g2,g3,g4⟩:=oE (v:=dZ vs) hA
 have key:Lk lo h (gcA h h1 (dZ vs))∧∃v,Res.ret (dZ vs)= .ret v∧Q v (gcA h h1 (dZ vs)):=by
  refine⟨Lk.lY (hA.gc' _) hlo (by rw[g3];exact hl),_,rfl,?_⟩
  cases hv:cD (dZ vs)with
  |true=>exact hQ _ _ _ hv g2 g1 hq
  |false=>rw[g4 hv];exact hq
 refine CW.code hf ⟨x,e,[],h1,⟨m,hm⟩,?_⟩
 unfold vE
 rcases hx with rfl|rfl<;>(simp only[hvs];exact key)
theorem wr0(l:Nat)(o:bE):({h with bM:=gM h.bM l o}:Heap)=h.wr 0 l o:=rfl
def busy:bE→Bool
 | .loop _ _ _ _ 1 _=>true
 |_=>false
theorem oI{f:Operand}{ps:List Nat}{asg body:aJ}{g:Nat}{first cap:Array Value}(hr:jy h rnd=true)(hf:ev h e f=some (.func (.func g) first cap))(hnc:fL (T g)=false)
 (H:CW T g (dg first.toList (dg [.func (.yield h.next) #[] #[]] cap.toList)) {h.push (.loop e ps asg body 0 .normal)with log:=[]} fun r h2=>∃v,r= .ret v∧∃e' ps' a' b' st gu,h2.get h.next=some (.loop e' ps' a' b' st gu)∧Nat.beq st 1=false∧
   Q gu e ds (({h2 with log:=ax base h.log h2.log}:Heap).wr base h.next .dead)):WE T base rnd (.rangeFunc f ps asg body) Q e ds h:=by
 obtain⟨r,h2,⟨m,hm⟩,v,rfl,e',ps',a',b',st,gu,hl,hst,hq⟩:=H
 refine⟨⟨gu,e,ds,_,⟨m+1,fun n hn=> ?_⟩,hq⟩⟩
 obtain⟨k,rfl⟩:∃k,n=k+1:=⟨n-1,by omega⟩
 simp only[b9,hr,hf,hnc,cond_true,cond_false,hm k (by omega),hl,hst]
theorem FW.pM(hp:bC T){fn:Fn}{args:List Value}{Q:Res→Heap→Prop}(H:FW T fn args h Q)(hl:h.log=[]):FW T fn args h fun r h'=>AS h.next h h'∧Q r h':=by
 obtain⟨r,h',⟨m,hm⟩,hq⟩:=H
 exact⟨r,h',⟨m,hm⟩,(eS.all hp m).gQ _ _ _ _ _ (hm m (Nat.le_refl _)) hl,hq⟩
theorem FW.mono'{fn:Fn}{args:List Value}{Q Q':Res→Heap→Prop}(H:FW T fn args h Q)(hq:∀r h',Q r h'→Q' r h'):FW T fn args h Q':=
 let⟨r,h',h1,h2⟩:=H;⟨r,h',h1,hq _ _ h2⟩
end Go.A
end
section
namespace Go.A
variable {T:Nat→Option ah} {base:Nat} {rnd:Option Nat} {Q:XQ} {e:Env} {ds:Dfs} {h:Heap}
theorem AS.zero{base:Nat}{h h':Heap}(a:AS base h h'):AS 0 h h':=⟨a.next,a.keys,fun b hb=>by omega,fun b hb=>by omega⟩
theorem tQ{h h1:Heap}{v:Value}(hA:AS 0 h h1):(∀x,x<h.next→(gcA h h1 v).get x=h1.get x)∧h.next≤(gcA h h1 v).next∧(gcA h h1 v).log=h1.log:=by
 unfold gcA
 cases hc:(cD v&&eV h1 h.next h1.log)with
 |false=>exact⟨fun _ _=>rfl,hA.next,rfl⟩
 |true=>
  refine⟨fun x hx=> ?_,Nat.le_refl _,rfl⟩
  have hA':=hA.keys
  have hlen:(cA h.next (h1.next-h.next)).length=h1.next-h.next:=by
   generalize h1.next-h.next=n
   induction n with
   |zero=>rfl
   |succ n ih=>simp[cA,ih]
  have hkt:(h1.bM.take (h1.next-h.next)).map (·.1)=cA h.next (h1.next-h.next):=by
   rw[List.map_take,hA',List.take_append_of_le_length (by omega),List.take_of_length_le (by omega)]
  have:=jQ _ h.next _ (h1.bM.drop (h1.next-h.next)) hkt x hx
  rw[List.take_append_drop]at this
  show fS (dN (h1.next-h.next) h1.bM) x=fS h1.bM x
  rw[cu]
  exact this.symm
structure YQ (l:Nat) (L:bE) (lo N n:Nat) (R:Heap→Prop) (x:bQ) (e:Env) (ds:Dfs) (h3:Heap):Prop where
 x:x= .normal
 busy:∃o,h3.get l=some o∧busy o=true
 log:∀z∈h3.log,lo≤z∧z<N
 rel:∀h5:Heap,n≤h5.next→(∀z,z<n→z≠l→h5.get z=h3.get z)→h5.get l=some L→R h5
structure YA (T:Nat→Option ah) (l:Nat) (e:Env) (ps:List Nat) (asg body:aJ) (lo N n:Nat) (R:Heap→Prop) (x:bQ) (e2:Env) (ds2:Dfs) (h2:Heap):Prop where
 x:x= .normal
 loop:h2.get l=some (.loop e ps asg body 0 .normal)
 body:WE T n (some l) body (YQ l (.loop e ps asg body 0 .normal) lo N n R) e2 ds2 (h2.wr 0 l (.loop e ps asg body 1 .normal))
theorem FW.rP(hp:bC T){l lo N:Nat}{e e1:Env}{ps:List Nat}{asg body:aJ}{args:List Value}{R:Heap→Prop}(hl:h.get l=some (.loop e ps asg body 0 .normal))(he:gN e ps args=some e1)(hlN:l<h.next)
 (H:WE T h.next (some l) asg (YA T l e ps asg body lo N h.next R) e1 [] h):FW T (.yield l) args h fun r h'=>r= .ret (.bool true)∧(∀z∈h'.log,lo≤z∧z<N)∧R h':=by
 obtain⟨x,e2,ds2,h2,⟨m,hm⟩,⟨rfl,hl2,H2⟩⟩:=H.ok
 obtain⟨x3,e3,ds3,h3,⟨m3,hm3⟩,⟨rfl,⟨o,ho,hb⟩,hlog,hrel⟩⟩:=H2.ok
 have hnr:notReady (h2.get l)=false:=by rw[hl2];rfl
 have A1:=(eS.all hp m).exec _ _ _ _ _ _ _ _ _ _ (hm m (Nat.le_refl _)) (Nat.le_refl _)
 have A2:=(eS.all hp m3).exec _ _ _ _ _ _ _ _ _ _ (hm3 m3 (Nat.le_refl _)) A1.next
 have A3:AS 0 h (h3.wr 0 l (.loop e ps asg body 0 .normal)):=((A1.zero.trans (AS.wr 0 h2 l _)).trans A2.zero).trans (AS.wr 0 h3 l _)
 have hloop:∃a b c d p,o= .loop a b c d 1 p:=by
  unfold A.busy at hb
  split at hb
  ·exact⟨_,_,_,_,_,rfl⟩
  ·cases hb
 obtain⟨oa,ob,oc,od,op,rfl⟩:=hloop
 obtain⟨g1,g2,g3⟩:=tQ (v:= .bool true) A3
 refine⟨.ret (.bool true),gcA h (h3.wr 0 l (.loop e ps asg body 0 .normal)) (.bool true),⟨m+m3+1,fun n hn=> ?_⟩,rfl,?_,?_⟩
 ·obtain⟨k,rfl⟩:∃k,n=k+1:=⟨n-1,by omega⟩
  have q1:=hm k (by omega)
  have q2:=hm3 k (by omega)
  rw[←wr0]at q2
  simp only[fE,hl,he,q1,hnr,cond_false,q2,ho]
  rfl
 ·rw[g3];exact hlog
 ·refine hrel _ g2 (fun z hz hne=>(g1 z hz).trans (Heap.fO hne)) ((g1 l hlN).trans ?_)
  exact Heap.cr ho
structure PW (l wb:Nat) (H0:Heap) (L:bE) (O:List (Nat×Nat)→bE) (done:List (Nat×Nat)) (H:Heap):Prop where
 old:∀x,x<l→x≠wb→H.get x=H0.get x
 obj:H.get wb=some (O done)
 loop:H.get l=some L
 nx:l<H.next
theorem PW.eF{l wb:Nat}{H0:Heap}{L:bE}{O:List (Nat×Nat)→bE}(hwb:wb<l)(done:List (Nat×Nat))(H H':Heap)(p:PW l wb H0 L O done H)(hn:l+1≤H'.next)(h:∀x,x<l+1→H'.get x=H.get x):PW l wb H0 L O done H':=
 ⟨fun x hx hne=>(h x (by omega)).trans (p.old x hx hne),(h wb (by omega)).trans p.obj,(h l (by omega)).trans p.loop,hn⟩
theorem pe{h:Heap}{l:Nat}{e:Env}{ps:List Nat}{asg body:aJ}{st:Nat}{p:bQ}(hl:h.get l=some (.loop e ps asg body st p)):jy h (some l)=true:=by
 simp only[jy,hl]
end Go.A
end
section
namespace Go.A
variable {T:Nat→Option ah} {base:Nat} {rnd:Option Nat} {Q:XQ} {e:Env} {ds:Dfs} {h:Heap}
inductive Own (lo:Nat) (h:Heap) (sz:Nat):Value→Nat→List Value→Prop
 |nil:Own lo h sz (.slice none 0 0) 0 []
 |full {q n cs}:lo≤q→q<h.next→h.get q=some (.cells cs true sz)→cs.length=n*sz→n≠0→Own lo h sz (.slice (some ⟨q,0,none⟩) n UNK) n cs
theorem Own.slice{lo sz n:Nat}{v:Value}{cs:List Value}(s:Own lo h sz v n cs)(hn:n<4000000):aA h sz v n cs:=by
 cases s with
 |nil=>exact .nil
 |full h1 h2 h3 h4 h5=>
  refine .mem ⟨h2,⟨_,_,_,h3,?_⟩,h4⟩ (by unfold UNK;omega)
  rw[dj,cu,List.drop_zero,List.take_of_length_le (by omega)]
theorem Own.keep{lo sz n:Nat}{h':Heap}{v:Value}{cs:List Value}(s:Own lo h sz v n cs)(hn:h.next≤h'.next)(ha:∀z,lo≤z→z<h.next→h'.get z=h.get z):Own lo h' sz v n cs:=by
 cases s with
 |nil=>exact .nil
 |full h1 h2 h3 h4 h5=>exact .full h1 (by omega) ((ha _ h1 h2).trans h3) h4 h5
theorem Own.ext{lo sz n:Nat}{h':Heap}{v:Value}{cs:List Value}(s:Own lo h sz v n cs)(x:Ext h h'):Own lo h' sz v n cs:=s.keep x.next fun z _ hz=>x.old z hz
theorem Own.low{lo lo' sz n:Nat}{v:Value}{cs:List Value}(s:Own lo h sz v n cs)(hl:lo'≤lo):Own lo' h sz v n cs:=by
 cases s with
 |nil=>exact .nil
 |full h1 h2 h3 h4 h5=>exact .full (by omega) h2 h3 h4 h5
structure Lx (lo:Nat) (h h':Heap):Prop where
 next:h.next≤h'.next
 log:h'.log=h.log
 old:∀z,z<lo→h'.get z=h.get z
 wf:WF h→WF h'
end Go.A
end
section
namespace Go.A
variable {T:Nat→Option ah} {base:Nat} {rnd:Option Nat} {Q:XQ} {e:Env} {ds:Dfs} {h:Heap}
structure Ws (S:Nat→Prop) (h h':Heap):Prop where
 next:h.next≤h'.next
 log:∀z∈h'.log,z∈h.log∨S z
 old:∀z,z<h.next→¬S z→h'.get z=h.get z
 wf:WF h→WF h'
theorem Ws.lY{S:Nat→Prop}{h h':Heap}(hA:AS h.next h h')(hl:∀z∈h'.log,S z):Ws S h h':=
 ⟨hA.next,fun z hz=> .inr (hl z hz),fun z hz hn=>hA.same z hz hz (lU fun hm=>hn (hl z hm)),fun w=>w.as hA⟩
theorem tD{base z:Nat}:∀{m l:List Nat},z∈ax base l m→z∈l∨z∈m
 |[],l,h=> .inl h
 |b::m,l,h=>by
  simp only[ax]at h
  rcases tD (m:=m) h with h|h
  ·revert h
   rw[cond_eq_ite,cond_eq_ite]
   split
   ·split
    ·exact .inl
    ·intro h
     rcases List.mem_cons.1 h with rfl|h
     ·exact .inr (List.mem_cons_self ..)
     ·exact .inl h
   ·exact .inl
  ·exact .inr (List.mem_cons_of_mem _ h)
theorem Ws.call{S:Nat→Prop}{h h2:Heap}(x:Ws S {h with log:=[]} h2):Ws S h {h2 with log:=ax base h.log h2.log}:=
 ⟨x.next,fun z hz=>(tD hz).imp id fun q=>(x.log z q).elim (fun q=>by cases q) id,x.old,fun w=>(x.wf (w.log [])).log _⟩
structure MX (rs:List (Nat×Option (Option Nat))) (S:Nat→Prop) (Q:Value→Heap→Prop) (x:bQ) (e:Env) (ds:Dfs) (h1:Heap):Prop where
 ok:(x= .normal∨x= .ret)∧ds=[]∧(∀z∈h1.log,S z)∧∃vs,bW h1 e rs=some vs∧Q (dZ vs) h1
theorem rK{base b:Nat}{o:bE}{S:Nat→Prop}(hl:∀z∈h.log,S z)(hb:S b):∀z∈(h.wr base b o).log,S z:=by
 intro z hz
 simp only[Heap.wr,cond_eq_ite]at hz
 split at hz
 ·split at hz
  ·exact hl z hz
  ·rcases List.mem_cons.1 hz with rfl|hz
   ·exact hb
   ·exact hl z hz
 ·exact hl z hz
end Go.A
end
section
namespace Go.A
variable {T:Nat→Option ah} {base:Nat} {rnd:Option Nat} {Q:XQ} {e:Env} {ds:Dfs} {h:Heap}
theorem iM{b:aJ}(H:WE T base rnd b (KS (WE T base rnd (.loop b) Q) Q) e ds h):WE T base rnd (.loop b) Q e ds h:=by
 obtain⟨x,e',ds',h',⟨m,h1⟩,⟨h2⟩⟩:=H.ok
 cases x with
 |normal=>
  obtain⟨x2,e2,ds2,h3,⟨m2,h4⟩,h5⟩:=WE.ok h2
  exact⟨_,_,_,_,⟨m+m2+1,fun n hn=>by
   obtain⟨k,rfl⟩:∃k,n=k+1:=⟨n-1,by omega⟩
   simp only[b9,h1 k (by omega)];exact h4 k (by omega)⟩,h5⟩
 |_=>exact⟨_,_,_,_,⟨m+1,fun n hn=>by
   obtain⟨k,rfl⟩:∃k,n=k+1:=⟨n-1,by omega⟩
   simp only[b9,h1 k (by omega)]⟩,h2⟩
theorem Fu{k k':IntKind}{n m:Int}{x:Operand}(hx:ev h e x=some (.int k' n))(hm:jD k n=m):aop h base e (.conv (.int k) x)=some (.val (.int k m) h):=by
 subst hm;simp only[aop,hx,bV,nJ,dU]
theorem ue(k:IntKind)(n:Nat):kU (.int k (n:Int))=some n:=rfl
theorem tW{z:List Value}{bytes l c m:Nat}{k1 k2:IntKind}{x y:Operand}(hx:ev h e x=some (.int k1 (l:Nat)))(hy:ev h e y=some (.int k2 (c:Nat)))(h1:l≤c)(h2:bytes*c≤281474976710656)(h3:c<1000000)(hm:cI z=m):
 aop h base e (.mkSlice z bytes x y)=some (.val (.slice (some ⟨h.next,0,none⟩) l c) (h.push (.cells (dx c z) true m))):=by
 subst hm
 simp only[aop,hx,hy,ue,fe h1,fe h2,gP (show c<UNK by unfold UNK;omega),Bool.and_self,cond_true]
theorem tv{len size i:Nat}{k:IntKind}{x y:Operand}{cs:Array Value}{v:Value}(hx:ev h e x=some (.agg cs))(hy:ev h e y=some (.int k (i:Nat)))(hi:i<len)(hv:bG cs.toList (i*size)=some v):aop h base e (.qR len size none x y)=some (.val v h):=by
 have:(.int k (i:Nat):Value)= .int k (Int.ofNat i):=rfl
 rw[this]at hy
 simp only[aop,hx,hy,gP hi,cond_true,hv,bV]
end Go.A
end
section
namespace Go.A
variable {T:Nat→Option ah} {base:Nat} {rnd:Option Nat} {Q:XQ} {e:Env} {ds:Dfs} {h:Heap}
theorem sN{z:Nat}:∀{m l:List Nat},z∈l→z∈ax base l m
 |[],l,h=>h
 |b::m,l,h=>by
  simp only[ax]
  refine sN (m:=m) ?_
  rw[cond_eq_ite,cond_eq_ite]
  split
  ·split
   ·exact h
   ·exact List.mem_cons_of_mem _ h
  ·exact h
theorem mem_merge{z:Nat}(hz:z<base):∀{m l:List Nat},z∈m→z∈ax base l m
 |b::m,l,h=>by
  simp only[ax]
  rcases List.mem_cons.1 h with rfl|h
  ·refine sN ?_
   rw[gP hz,cond_true,cond_eq_ite]
   split
   ·rename_i hh;exact ie.1 hh
   ·exact List.mem_cons_self ..
  ·exact mem_merge hz h
theorem tc{l:Nat}{a:Env}{b:List Nat}{c d:aJ}{st:Nat}{p:bQ}(hl:h.get l=some (.loop a b c d st p))(hb:l<base):∀{lg:List Nat},l∈lg→eV h base lg=false
 |x::lg,hm=>by
  have ih:l∈lg→eV h base lg=false:=tc hl hb
  by_cases hx:x=l
  ·subst hx
   simp only[eV,gP hb,cond_true,hl]
  ·have hm':l∈lg:=by rcases List.mem_cons.1 hm with h1|h1;exact absurd h1.symm hx;exact h1
   simp only[eV,cond_eq_ite,ih hm']
   split
   ·split<;>simp
   ·rfl
theorem Hr{h1:Heap}{v:Value}{l:Nat}{a:Env}{b:List Nat}{c d:aJ}{st:Nat}{p:bQ}(hl:h1.get l=some (.loop a b c d st p))(hb:l<h.next)(hm:l∈h1.log):gcA h h1 v=h1:=by
 unfold gcA
 rw[tc hl hb hm,Bool.and_false,cond_false]
theorem ux{b:Nat}{o:bE}(hb:b<base):(h.wr base b o).log=if eE h.log b=true then h.log else b::h.log:=by
 unfold Heap.wr
 rw[gP hb]
 simp only[cond_eq_ite,if_true]
theorem jh{b z:Nat}{o:bE}(hz:z∈(h.wr base b o).log):z=b∨z∈h.log:=by
 by_cases hb:b<base
 ·rw[ux hb]at hz
  by_cases hh:eE h.log b=true
  ·rw[if_pos hh]at hz;exact .inr hz
  ·rw[if_neg hh]at hz;exact List.mem_cons.1 hz
 ·rw[Heap.aI (by omega)]at hz;exact .inr hz
theorem rZ{b:Nat}{o:bE}(hb:b<base):b∈(h.wr base b o).log:=by
 rw[ux hb]
 by_cases hh:eE h.log b=true
 ·rw[if_pos hh];exact ie.1 hh
 ·rw[if_neg hh];exact List.mem_cons_self ..
structure YQX (l:Nat) (L LX:bE) (lo N n:Nat) (R S:Heap→Prop) (x:bQ) (e:Env) (ds:Dfs) (h3:Heap):Prop where
 busy:∃o,h3.get l=some o∧busy o=true
 log:∀z∈h3.log,lo≤z∧z<N
 rel:(x= .normal∧∀h5:Heap,n≤h5.next→(∀z,z<n→z≠l→h5.get z=h3.get z)→h5.get l=some L→R h5)∨(x= .ret∧∀h5:Heap,h5.next=h3.next→(∀z,z≠l→h5.get z=h3.get z)→h5.get l=some LX→S h5)
structure YAX (T:Nat→Option ah) (l:Nat) (e:Env) (ps:List Nat) (asg body:aJ) (lo N n:Nat) (R S:Heap→Prop) (x:bQ) (e2:Env) (ds2:Dfs) (h2:Heap):Prop where
 x:x= .normal
 loop:h2.get l=some (.loop e ps asg body 0 .normal)
 body:WE T n (some l) body (YQX l (.loop e ps asg body 0 .normal) (.loop e ps asg body 2 .ret) lo N n R S) e2 ds2 (h2.wr 0 l (.loop e ps asg body 1 .normal))
theorem FW.yq(hp:bC T){l lo N:Nat}{e e1:Env}{ps:List Nat}{asg body:aJ}{args:List Value}{R S:Heap→Prop}(hl:h.get l=some (.loop e ps asg body 0 .normal))(he:gN e ps args=some e1)(hlN:l<h.next)(hlo:lo≤l∧l<N)
 (H:WE T h.next (some l) asg (YAX T l e ps asg body lo N h.next R S) e1 [] h):
 FW T (.yield l) args h fun r h'=>(∀z∈h'.log,lo≤z∧z<N)∧(r= .ret (.bool true)∧R h'∨r= .ret (.bool false)∧l∈h'.log∧S h'):=by
 obtain⟨x,e2,ds2,h2,⟨m,hm⟩,⟨rfl,hl2,H2⟩⟩:=H.ok
 obtain⟨x3,e3,ds3,h3,⟨m3,hm3⟩,⟨⟨o,ho,hb⟩,hlog,hrel⟩⟩:=H2.ok
 have hnr:notReady (h2.get l)=false:=by rw[hl2];rfl
 have hloop:∃a b c d p,o= .loop a b c d 1 p:=by
  unfold A.busy at hb
  split at hb
  ·exact⟨_,_,_,_,_,rfl⟩
  ·cases hb
 obtain⟨oa,ob,oc,od,op,rfl⟩:=hloop
 rcases hrel with⟨rfl,hrel⟩|⟨rfl,hrel⟩
 ·have A1:=(eS.all hp m).exec _ _ _ _ _ _ _ _ _ _ (hm m (Nat.le_refl _)) (Nat.le_refl _)
  have A2:=(eS.all hp m3).exec _ _ _ _ _ _ _ _ _ _ (hm3 m3 (Nat.le_refl _)) A1.next
  have A3:AS 0 h (h3.wr 0 l (.loop e ps asg body 0 .normal)):=((A1.zero.trans (AS.wr 0 h2 l _)).trans A2.zero).trans (AS.wr 0 h3 l _)
  obtain⟨g1,g2,g3⟩:=tQ (v:= .bool true) A3
  refine⟨.ret (.bool true),gcA h (h3.wr 0 l (.loop e ps asg body 0 .normal)) (.bool true),⟨m+m3+1,fun n hn=> ?_⟩,?_, .inl ⟨rfl,?_⟩⟩
  ·obtain⟨k,rfl⟩:∃k,n=k+1:=⟨n-1,by omega⟩
   have q1:=hm k (by omega)
   have q2:=hm3 k (by omega)
   rw[←wr0]at q2
   simp only[fE,hl,he,q1,hnr,cond_false,q2,ho]
   rfl
  ·rw[g3];exact hlog
  ·refine hrel _ g2 (fun z hz hne=>(g1 z hz).trans (Heap.fO hne)) ((g1 l hlN).trans ?_)
   exact Heap.cr ho
 ·refine⟨.ret (.bool false),h3.wr h.next l (.loop e ps asg body 2 .ret),⟨m+m3+1,fun n hn=> ?_⟩,?_, .inr ⟨rfl,rZ hlN,?_⟩⟩
  ·obtain⟨k,rfl⟩:∃k,n=k+1:=⟨n-1,by omega⟩
   have q1:=hm k (by omega)
   have q2:=hm3 k (by omega)
   rw[←wr0]at q2
   simp only[fE,hl,he,q1,hnr,cond_false,q2,ho]
  ·intro z hz
   rcases jh hz with rfl|hz
   ·exact hlo
   ·exact hlog z hz
  ·exact hrel _ rfl (fun z hne=>Heap.fO hne) (Heap.cr ho)
structure Eg {α:Type} (T:Nat→Option ah) (lo N l:Nat) (V:α→Value) (all:List α) (P:List α→Heap→Prop) (S:Heap→Prop):Prop where
 nN:∀done x H,x∈all→Rdy H→N≤H.next→P done H→FW T (.yield l) [V x] H fun r H'=>(∀z∈H'.log,lo≤z∧z<N)∧(r= .ret (.bool true)∧P (done++[x]) H'∨r= .ret (.bool false)∧l∈H'.log∧S H')
 eF:∀done H H',P done H→N≤H'.next→(∀x,x<N→H'.get x=H.get x)→P done H'
 Ms:∀H m,S H→S {H with log:=m}
 Eb:∀H,S H→∃a b c d,H.get l=some (.loop a b c d 2 .ret)
theorem Eg.call(hp:bC T){α:Type}{lo N l:Nat}{V:α→Value}{all:List α}{P:List α→Heap→Prop}{S:Heap→Prop}(Y:Eg T lo N l V all P S){K:Env→Dfs→Heap→Prop}{dst:Option Nat}{done:List α}{x:α}(hx:x∈all)(hw:WF h)(hlo:lo≤h.next)(hN:N≤h.next)(hlb:l<base)(hP:P done h)
 (hK:∀h',Lk lo h h'→(∀z,N≤z→z<h.next→h'.get z=h.get z)→P (done++[x]) h'→K (bK e dst (.bool true)) ds h')
 (hX:∀h',Lk lo h h'→l∈h'.log→S h'→K (bK e dst (.bool false)) ds h'):FW T (.yield l) [V x] {h with log:=[]} (KO K Q base dst e ds h.log):=by
 refine FW.mono' (FW.pM hp (Y.nN done x _ hx (.of hw) hN (Y.eF _ _ _ hP hN fun _ _=>rfl)) rfl) ?_
 rintro r h2 ⟨hA,hl,hq⟩
 have hk:Lk lo {h with log:=[]} h2:=Lk.lY hA hlo fun z hz=>(hl z hz).1
 rcases hq with⟨rfl,hq⟩|⟨rfl,hm,hq⟩
 ·refine⟨hK _ hk.call (fun z h1 h3=> ?_) (Y.eF _ _ _ hq (Nat.le_trans hN hA.next) fun _ _=>rfl)⟩
  exact hA.same z h3 h3 (lU fun hm=>by have:=(hl z hm).2;omega)
 ·exact⟨hX _ hk.call (mem_merge hlb hm) (Y.Ms _ _ hq)⟩
def GrX(T:Nat→Option ah)(f:Nat)(args:List Value)(h:Heap)(lo:Nat)(P S:Heap→Prop):Prop:=CW T f args h fun r h'=>Lk lo h h'∧∃v,r= .ret v∧(P h'∨S h')
structure JF (rs:List (Nat×Option (Option Nat))) (lo l:Nat) (P S:Heap→Prop) (x:bQ) (e:Env) (ds:Dfs) (h1:Heap):Prop where
 ok:(x= .normal∨x= .ret)∧ds=[]∧dG lo h1.log∧(∃vs,bW h1 e rs=some vs)∧(P h1∨l∈h1.log∧S h1)
theorem ld{rs:List (Nat×Option (Option Nat))}{lo l:Nat}{P S:Heap→Prop}{vs:List Value}(hl:dG lo h.log)(hr:bW h e rs=some vs)(hm:l∈h.log)(hq:S h):JF rs lo l P S .ret e [] h:=⟨⟨.inr rfl,rfl,hl,⟨vs,hr⟩, .inr ⟨hm,hq⟩⟩⟩
theorem sD{rs:List (Nat×Option (Option Nat))}{lo l:Nat}{P S:Heap→Prop}{vs:List Value}(hl:dG lo h.log)(hr:bW h e rs=some vs)(hq:P h):JF rs lo l P S .normal e [] h:=⟨⟨.inl rfl,rfl,hl,⟨vs,hr⟩, .inl hq⟩⟩
theorem GrX.of(hp:bC T){f:Nat}{args:List Value}{c:aJ}{rs:List (Nat×Option (Option Nat))}{lo l:Nat}{P S:Heap→Prop}(hf:T f=some (.code c rs))(hlo:lo≤h.next)(hlN:l<h.next)
 (hP:∀h1 h2:Heap,h.next≤h2.next→(∀x,x<h.next→h2.get x=h1.get x)→P h1→P h2)(hS:∀H,S H→∃a b c d,H.get l=some (.loop a b c d 2 .ret))(H:WE T h.next none c (JF rs lo l P S) (dA 0 args) [] h):GrX T f args h lo P S:=by
 obtain⟨x,e,ds,h1,⟨m,hm⟩,⟨hx,rfl,hl,⟨vs,hvs⟩,hq⟩⟩:=H.ok
 have hA:=(eS.all hp m).exec _ _ _ _ _ _ _ _ _ _ (hm m (Nat.le_refl _)) (Nat.le_refl _)
 obtain⟨g1,g2,g3,g4⟩:=oE (v:=dZ vs) hA
 have key:Lk lo h (gcA h h1 (dZ vs))∧∃v,Res.ret (dZ vs)= .ret v∧(P (gcA h h1 (dZ vs))∨S (gcA h h1 (dZ vs))):=by
  refine⟨Lk.lY (hA.gc' _) hlo (by rw[g3];exact hl),_,rfl,?_⟩
  rcases hq with hq|⟨hml,hq⟩
  ·exact .inl (hP _ _ g2 g1 hq)
  ·obtain⟨a,b,c,d,hlp⟩:=hS _ hq
   rw[Hr hlp hlN hml]
   exact .inr hq
 refine CW.code hf ⟨x,e,[],h1,⟨m,hm⟩,?_⟩
 unfold vE
 rcases hx with rfl|rfl<;>(simp only[hvs];exact key)
theorem rG{base:Nat}:∀{m l:List Nat},dG base m→ax base l m=l
 |[],_,_=>rfl
 |b::m,l,h=>by
  have hb:=h b (List.mem_cons_self ..)
  simp only[ax,rJ (show¬b<base by omega),cond_false]
  exact rG fun x hx=>h x (List.mem_cons_of_mem _ hx)
theorem pP{h1:Heap}{f:Operand}{g lo:Nat}{first cap:Array Value}{ps:List Nat}{asg body:aJ}{P S:Heap→Prop}(hr:jy h1 rnd=true)(hf:ev h1 e f=some (.func (.func g) first cap))(hnc:fL (T g)=false)
 (hlo:base≤lo)(hlo2:lo≤h1.next)(hlog:h1.log=[])(w1:WF h1)
 (HG:GrX T g (dg first.toList (dg [.func (.yield h1.next) #[] #[]] cap.toList)) {h1.push (.loop e ps asg body 0 .normal)with log:=[]} lo P S)
 (hP:∀H,P H→∃a b c d,H.get h1.next=some (.loop a b c d 0 .normal))(hS:∀H,S H→∃a b c d,H.get h1.next=some (.loop a b c d 2 .ret))
 (K1:∀h2 h3:Heap,h3.log=[]→WF h3→h1.next<h3.next→h3.next=h2.next→(∀z,z≠h1.next→h3.get z=h2.get z)→P h2→Q .normal e ds h3)
 (K2:∀h2 h3:Heap,h3.log=[]→WF h3→h1.next<h3.next→h3.next=h2.next→(∀z,z≠h1.next→h3.get z=h2.get z)→S h2→Q .ret e ds h3):WE T base rnd (.rangeFunc f ps asg body) Q e ds h1:=by
 refine oI hr hf hnc (CW.mono HG ?_)
 rintro r h2 ⟨hk,v,rfl,hq⟩
 have hl2:dG base h2.log:=fun z hz=>Nat.le_trans hlo (hk.log (dG.nil _) z hz)
 have q1:(({h2 with log:=ax base h1.log h2.log}:Heap).wr base h1.next .dead).log=[]:=by
  rw[Heap.aI (by omega)]
  show ax base h1.log h2.log=[]
  rw[rG hl2,hlog]
 have q2:WF (({h2 with log:=ax base h1.log h2.log}:Heap).wr base h1.next .dead):=((hk.wf ((w1.push _).log _)).log _).as (AS.wr _ _ _ _)
 have q3:h1.next<h2.next:=hk.next
 have q4:∀z,z≠h1.next→(({h2 with log:=ax base h1.log h2.log}:Heap).wr base h1.next .dead).get z=h2.get z:=fun z hne=>Heap.fO hne
 rcases hq with hq|hq
 ·obtain⟨a,b,c,d,hl⟩:=hP _ hq
  exact⟨_,rfl,_,_,_,_,_,_,hl,rfl,K1 h2 _ q1 q2 q3 rfl q4 hq⟩
 ·obtain⟨a,b,c,d,hl⟩:=hS _ hq
  exact⟨_,rfl,_,_,_,_,_,_,hl,rfl,K2 h2 _ q1 q2 q3 rfl q4 hq⟩
end Go.A
end
section
namespace Go.A
variable {T:Nat→Option ah} {base:Nat} {rnd:Option Nat} {Q:XQ} {e:Env} {ds:Dfs} {h:Heap}
def gY(h:Heap)(q:Nat):Prop:=∃vs own t,h.get q=some (.cells vs own t)∧cp vs=false
theorem qJ{q n:Nat}(hq:q<n)(hd:gY h q):∀{l:List Nat},q∈l→eV h n l=false
 |b::l,hm=>by
  obtain⟨vs,own,t,g,hs⟩:=hd
  rcases List.mem_cons.1 hm with rfl|hm
  ·simp only[eV,gP hq,cond_true,g,hs,cond_false]
  ·have ih:=qJ hq ⟨vs,own,t,g,hs⟩ hm
   simp only[eV]
   split<;>simp[ih,cond_eq_ite]
theorem uU{h1:Heap}{v:Value}{q:Nat}(hq:q<h.next)(hm:q∈h1.log)(hd:gY h1 q):gcA h h1 v=h1:=by
 unfold gcA
 rw[qJ hq hd hm,Bool.and_false]
 rfl
theorem H7{v:Value}(hl:h.log=[]):∀x,(gcA h h v).get x=h.get x:=by
 intro x
 unfold gcA
 rw[hl]
 cases cD v<;>simp[eV,nL,Heap.get,cu]
structure YQK (l q:Nat) (L:bE) (lo n:Nat) (R:Heap→Prop) (x:bQ) (e:Env) (ds:Dfs) (h3:Heap):Prop where
 x:x= .normal
 busy:∃o,h3.get l=some o∧busy o=true
 log:∀z∈h3.log,lo≤z
 kept:q∈h3.log
 MT:gY h3 q
 rel:R (h3.wr 0 l L)
structure YAK (T:Nat→Option ah) (l q:Nat) (e:Env) (ps:List Nat) (asg body:aJ) (lo n:Nat) (R:Heap→Prop) (x:bQ) (e2:Env) (ds2:Dfs) (h2:Heap):Prop where
 x:x= .normal
 loop:h2.get l=some (.loop e ps asg body 0 .normal)
 body:WE T n (some l) body (YQK l q (.loop e ps asg body 0 .normal) lo n R) e2 ds2 (h2.wr 0 l (.loop e ps asg body 1 .normal))
theorem FW.I4(hp:bC T){l q lo:Nat}{e e1:Env}{ps:List Nat}{asg body:aJ}{args:List Value}{R:Heap→Prop}(hl:h.get l=some (.loop e ps asg body 0 .normal))(he:gN e ps args=some e1)(hlN:l<h.next)(hq:q<h.next)(hql:q≠l)
 (H:WE T h.next (some l) asg (YAK T l q e ps asg body lo h.next R) e1 [] h):FW T (.yield l) args h fun r h'=>r= .ret (.bool true)∧(∀z∈h'.log,lo≤z)∧q∈h'.log∧R h':=by
 obtain⟨x,e2,ds2,h2,⟨m,hm⟩,⟨rfl,hl2,H2⟩⟩:=H.ok
 obtain⟨x3,e3,ds3,h3,⟨m3,hm3⟩,⟨rfl,⟨o,ho,hb⟩,hlog,hk,⟨vs,own,t,gq,hs⟩,hrel⟩⟩:=H2.ok
 have hnr:notReady (h2.get l)=false:=by rw[hl2];rfl
 have hloop:∃a b c d p,o= .loop a b c d 1 p:=by
  unfold A.busy at hb
  split at hb
  ·exact⟨_,_,_,_,_,rfl⟩
  ·cases hb
 obtain⟨oa,ob,oc,od,op,rfl⟩:=hloop
 have hgc:gcA h (h3.wr 0 l (.loop e ps asg body 0 .normal)) (.bool true)=h3.wr 0 l (.loop e ps asg body 0 .normal):=uU (q:=q) hq (by rw[Heap.aI (by omega)];exact hk) ⟨vs,own,t,(Heap.fO hql).trans gq,hs⟩
 refine⟨.ret (.bool true),gcA h (h3.wr 0 l (.loop e ps asg body 0 .normal)) (.bool true),⟨m+m3+1,fun n hn=> ?_⟩,rfl,?_,?_,?_⟩
 ·obtain⟨k,rfl⟩:∃k,n=k+1:=⟨n-1,by omega⟩
  have q1:=hm k (by omega)
  have q2:=hm3 k (by omega)
  rw[←wr0]at q2
  simp only[fE,hl,he,q1,hnr,cond_false,q2,ho]
  rfl
 ·rw[hgc,Heap.aI (by omega)];exact hlog
 ·rw[hgc,Heap.aI (by omega)];exact hk
 ·rw[hgc];exact hrel
structure FQ {α:Type} (T:Nat→Option ah) (lo N l q:Nat) (V:α→Value) (all:List α) (P:List α→Heap→Prop):Prop where
 hq:q<N
 nN:∀done x rest H,all=done++x::rest→Rdy H→N≤H.next→P done H→FW T (.yield l) [V x] H fun r H'=>r= .ret (.bool true)∧(∀z∈H'.log,lo≤z)∧q∈H'.log∧gY H' q∧P (done++[x]) H'
 eF:∀done H H',P done H→H.next≤H'.next→(∀x,x<H.next→H'.get x=H.get x)→P done H'
theorem FQ.call(hp:bC T){α:Type}{lo N l q:Nat}{V:α→Value}{all:List α}{P:List α→Heap→Prop}(Y:FQ T lo N l q V all P){K:Env→Dfs→Heap→Prop}{dst:Option Nat}{done rest:List α}{x:α}(hx:all=done++x::rest)(hw:WF h)(hlo:lo≤h.next)(hN:N≤h.next)(hqb:q<base)(hP:P done h)
 (hK:∀h',Lk lo h h'→q∈h'.log∧gY h' q→P (done++[x]) h'→K (bK e dst (.bool true)) ds h'):FW T (.yield l) [V x] {h with log:=[]} (KO K Q base dst e ds h.log):=by
 refine FW.mono' (FW.pM hp (Y.nN done x rest _ hx (.of hw) hN (Y.eF _ _ _ hP (Nat.le_refl _) fun _ _=>rfl)) rfl) ?_
 rintro r h2 ⟨hA,rfl,hl,hm,hd,hq⟩
 have hk:Lk lo {h with log:=[]} h2:=Lk.lY hA hlo fun z hz=>hl z hz
 exact⟨hK _ hk.call ⟨mem_merge hqb hm,hd⟩ (Y.eF _ _ _ hq (Nat.le_refl _) fun _ _=>rfl)⟩
theorem Gr.ofK(hp:bC T){f:Nat}{args:List Value}{c:aJ}{rs:List (Nat×Option (Option Nat))}{lo:Nat}{Q Q':Value→Heap→Prop}(hf:T f=some (.code c rs))(hlo:lo≤h.next)
 (hQ:∀v h1,AS h.next h h1→Q v h1→Q' v (gcA h h1 v))(H:WE T h.next none c (Jk rs lo Q) (dA 0 args) [] h):Gr T f args h lo Q':=by
 obtain⟨x,e,ds,h1,⟨m,hm⟩,⟨hx,rfl,hl,vs,hvs,hq⟩⟩:=H.ok
 have hA:=(eS.all hp m).exec _ _ _ _ _ _ _ _ _ _ (hm m (Nat.le_refl _)) (Nat.le_refl _)
 obtain⟨g1,g2,g3,g4⟩:=oE (v:=dZ vs) hA
 have key:Lk lo h (gcA h h1 (dZ vs))∧∃v,Res.ret (dZ vs)= .ret v∧Q' v (gcA h h1 (dZ vs)):=
  ⟨Lk.lY (hA.gc' _) hlo (by rw[g3];exact hl),_,rfl,hQ _ _ hA hq⟩
 refine CW.code hf ⟨x,e,[],h1,⟨m,hm⟩,?_⟩
 unfold vE
 rcases hx with rfl|rfl<;>(simp only[hvs];exact key)
theorem He{α:Type}{lo N l q:Nat}{V:α→Value}{all done:List α}{P:List α→Heap→Prop}(Y:FQ T lo N l q V all P){v:Value}{h1:Heap}(hq:q<h.next)(hA:AS h.next h h1)(hlog:h.log=[])(p:v= .tuple #[]∧P done h1∧(h1=h∨q∈h1.log∧gY h1 q)):v= .tuple #[]∧P done (gcA h h1 v):=by
 obtain⟨hv,hP,hm⟩:=p
 refine⟨hv,?_⟩
 rcases hm with rfl|⟨hm,hd⟩
 ·exact Y.eF _ _ _ hP (oE hA).2.1 fun x _=>H7 hlog x
 ·rw[uU hq hm hd]
  exact hP
theorem B8{h1:Heap}{f:Operand}{g lo:Nat}{first cap:Array Value}{ps:List Nat}{asg body:aJ}{P:Heap→Prop}(hr:jy h1 rnd=true)(hf:ev h1 e f=some (.func (.func g) first cap))(hnc:fL (T g)=false)
 (hlo:base≤lo)(hlo2:lo≤h1.next)(hlog:h1.log=[])(w1:WF h1)
 (HG:Gr T g (dg first.toList (dg [.func (.yield h1.next) #[] #[]] cap.toList)) {h1.push (.loop e ps asg body 0 .normal)with log:=[]} lo fun v h'=>v= .tuple #[]∧P h')
 (hP:∀H,P H→∃a b c d,H.get h1.next=some (.loop a b c d 0 .normal))
 (K:∀h2 h3:Heap,h3.log=[]→WF h3→h1.next<h3.next→h3.next=h2.next→(∀z,z≠h1.next→h3.get z=h2.get z)→(∀z,z<lo→h3.get z=h1.get z)→P h2→Q .normal e ds h3):WE T base rnd (.rangeFunc f ps asg body) Q e ds h1:=by
 refine oI hr hf hnc (CW.mono HG ?_)
 rintro r h2 ⟨hk,v,rfl,rfl,hq⟩
 have hl2:dG base h2.log:=fun z hz=>Nat.le_trans hlo (hk.log (dG.nil _) z hz)
 have q1:(({h2 with log:=ax base h1.log h2.log}:Heap).wr base h1.next .dead).log=[]:=by
  rw[Heap.aI (by omega)]
  show ax base h1.log h2.log=[]
  rw[rG hl2,hlog]
 have q2:WF (({h2 with log:=ax base h1.log h2.log}:Heap).wr base h1.next .dead):=((hk.wf ((w1.push _).log _)).log _).as (AS.wr _ _ _ _)
 have q3:h1.next<h2.next:=hk.next
 have q4:∀z,z≠h1.next→(({h2 with log:=ax base h1.log h2.log}:Heap).wr base h1.next .dead).get z=h2.get z:=fun z hne=>Heap.fO hne
 obtain⟨a,b,c,d,hl⟩:=hP _ hq
 refine⟨_,rfl,_,_,_,_,_,_,hl,rfl,K h2 _ q1 q2 q3 rfl q4 (fun z hz=>(q4 z (by omega)).trans ((hk.old z hz).trans ?_)) hq⟩
 exact Heap.jH (by omega)
end Go.A
end
section
namespace Go.A
variable {T:Nat→Option ah} {base:Nat} {rnd:Option Nat} {Q:XQ} {e:Env} {ds:Dfs} {h:Heap}
def Gp(T:Nat→Option ah)(f:Nat)(args:List Value)(h:Heap)(S:Nat→Prop)(Q Qp:Value→Heap→Prop):Prop:=CW T f args h fun r h'=>Ws S h h'∧((∃v,r= .ret v∧Q v h')∨∃v,r= .panic v∧Qp v h')
structure Ej (rs:List (Nat×Option (Option Nat))) (S:Nat→Prop) (Q Qp:Value→Heap→Prop) (x:bQ) (e:Env) (ds:Dfs) (h1:Heap):Prop where
 ok:ds=[]∧(∀z∈h1.log,S z)∧(((x= .normal∨x= .ret)∧∃vs,bW h1 e rs=some vs∧Q (dZ vs) h1)∨∃v,x= .panic v∧Qp v h1)
theorem FV{rs:List (Nat×Option (Option Nat))}{S:Nat→Prop}{Q Qp:Value→Heap→Prop}{vs:List Value}(hl:∀z∈h.log,S z)(hr:bW h e rs=some vs)(hq:Q (dZ vs) h):Ej rs S Q Qp .ret e [] h:=⟨⟨rfl,hl, .inl ⟨.inr rfl,vs,hr,hq⟩⟩⟩
theorem sO{rs:List (Nat×Option (Option Nat))}{S:Nat→Prop}{Q Qp:Value→Heap→Prop}{vs:List Value}(hl:∀z∈h.log,S z)(hr:bW h e rs=some vs)(hq:Q (dZ vs) h):Ej rs S Q Qp .normal e [] h:=⟨⟨rfl,hl, .inl ⟨.inl rfl,vs,hr,hq⟩⟩⟩
theorem mT{rs:List (Nat×Option (Option Nat))}{S:Nat→Prop}{Q Qp:Value→Heap→Prop}{v:Value}(hl:∀z∈h.log,S z)(hq:Qp v h):Ej rs S Q Qp (.panic v) e [] h:=⟨⟨rfl,hl, .inr ⟨v,rfl,hq⟩⟩⟩
theorem vP{ops:List aQ}{bf:List Nat}{i mask m0:Nat}{e1:Env}{h1:Heap}{fin:bQ×Env×Heap}(hm:bG bf i=some mask)(hi:∀k rs',m0≤k→di T k base ops [i] bf rs' e1 h1=some fin):
 ∀(init:List Nat) (k:Nat) (rs:List Rec) (e:Env) (h:Heap),(∀j∈init,Nat.testBit mask j=true)→m0+init.length≤k→di T k base ops init bf rs e h=some (.normal,e1,h1)→di T k base ops (init++[i]) bf rs e h=some fin
 |[],k,rs,e,h,_,hk,H=>by
  obtain⟨k,rfl⟩|rfl:(∃k',k=k'+1)∨k=0:=by cases k with|zero=>exact .inr rfl|succ k=>exact .inl ⟨k,rfl⟩
  ·simp only[di]at H
   cases H
   exact hi _ _ (by simpa using hk)
  ·simp[di]at H
 |j::is,k,rs,e,h,hb,hk,H=>by
  obtain⟨k,rfl⟩|rfl:(∃k',k=k'+1)∨k=0:=by cases k with|zero=>exact .inr rfl|succ k=>exact .inl ⟨k,rfl⟩
  ·have ih:∀rs e h,di T k base ops is bf rs e h=some (.normal,e1,h1)→di T k base ops (is++[i]) bf rs e h=some fin:=fun rs e h=>vP hm hi is k rs e h (fun j hj=>hb j (List.mem_cons_of_mem _ hj)) (by simp only[List.length_cons]at hk;omega)
   have hall:∀{js:List Nat},mF bf j js=true→mF bf j (js++[i])=true:=fun {js} q=>by
    induction js with
    |nil=>simp[mF,hm,hb j (List.mem_cons_self ..)]
    |cons x js ihj=>
     simp only[mF,List.cons_append]at q⊢
     split at q
     ·rename_i m hx
      rw[cond_eq_ite]at q
      split at q
      ·rename_i ht;simp only[hx,ht,cond_true];exact ihj q
      ·cases q
     ·cases q
   rw[List.cons_append]
   simp only[di]at H⊢
   split at H
   ·rename_i o mk ho hmk
    try simp only[ho,hmk]
    split at H
    ·rename_i hw;(try simp only[hw]);exact ih _ _ _ H
    ·rename_i hw
     try simp only[hw]
     cases hq:gU o.op with
     |true=>
      simp only[hq,cond_true]at H⊢
      split at H
      ·rename_i v h' ho1
       try simp only[ho1]
       cases hn:cO o.op with
       |true=>
        simp only[hn,cond_true]at H⊢
        cases hr:kq h' base rs with
        |true=>simp only[hr,cond_true]at H⊢;exact ih _ _ _ H
        |false=>simp[hr]at H
       |false=>
        simp only[hn,cond_false]at H⊢
        cases hx:Nat.beq h'.next h.next with
        |true=>simp only[hx,cond_true]at H⊢;exact ih _ _ _ H
        |false=>
         simp only[hx,cond_false]at H⊢
         cases ha:mF bf j is with
         |true=>
          simp only[ha,hall ha,cond_true]at H⊢
          split at H
          ·rename_i v h2 ho2
           try simp only[ho2]
           split at H
           ·rename_i rs' hrs;(try simp only[hrs]);exact ih _ _ _ H
           ·cases H
          ·cases H
         |false=>simp[ha]at H
      ·cases H
     |false=>
      simp only[hq,cond_false]at H⊢
      split at H
      ·rename_i v h2 ho2
       try simp only[ho2]
       split at H
       ·rename_i rs' hrs;(try simp only[hrs]);exact ih _ _ _ H
       ·cases H
      ·rename_i fn args h3 ho2
       try simp only[ho2]
       split at H
       ·rename_i v h2 hc
        try simp only[hc]
        split at H
        ·rename_i rs' hrs;(try simp only[hrs]);exact ih _ _ _ H
        ·cases H
       ·cases H
       ·cases H
      ·cases H
    ·cases H
   ·cases H
  ·simp[di]at H
structure ML (T:Nat→Option ah) (ops:List aQ) (i:Nat) (Q:XQ) (ds:Dfs) (e:Env) (h:Heap):Prop where
 ok:∃o fn args h3,bG ops i=some o∧bA (bS e (bR o)) o.guard=some true∧gU o.op=false∧aop {h with log:=[]} h.next (bS e (bR o)) o.op=some (.call fn args h3)∧∃v h2,EvF T fn args {h with log:=[]} (.panic v,h2)∧∀base,Q (.panic v) [] ds {h2 with log:=ax base h.log h2.log}
theorem CJ{ops:List aQ}{is bf keep init:List Nat}{i mask:Nat}(hi:is=init++[i])(hm:bG bf i=some mask)(hall:∀j∈init,Nat.testBit mask j=true)(H:WD T base ops bf (ML T ops i Q ds) init [] e h):WE T base rnd (.draw ops is bf keep) Q e ds h:=by
 subst hi
 obtain⟨e1,h1,⟨m,q1⟩,⟨⟨o,fn,args,h3,a1,a2,a3,a4,v,h2,⟨m2,a5⟩,a6⟩⟩⟩:=H.ok
 refine⟨.panic v,[],ds,{h2 with log:=ax base h1.log h2.log},⟨m+m2+init.length+4,fun n hn=> ?_⟩,a6 base⟩
 obtain⟨k,rfl⟩:∃k,n=k+1:=⟨n-1,by omega⟩
 have:=vP (T:=T) (base:=base) (ops:=ops) (bf:=bf) (m0:=m2+2) (fin:=(.panic v,[],{h2 with log:=ax base h1.log h2.log})) hm (e1:=e1) (h1:=h1) (fun k rs' hk=>by
  obtain⟨k,rfl⟩:∃k',k=k'+1:=⟨k-1,by omega⟩
  simp only[di,a1,hm,a2,a3,a4,a5 k (by omega),cond_false]) init k [] e h hall (by omega) (q1 k (by omega))
 simp only[b9,this]
def Ga:bQ→Option Value
 | .panic v=>some v
 |_=>none
def DW(T:Nat→Option ah)(g:Nat)(args:List Value)(pan:Option Value)(h:Heap)(Q:Option Value→Heap→Prop):Prop:=∃p h',(∃m,∀n,m≤n→iP T n g args pan h=some (p,h'))∧Q p h'
theorem CW.KP{f:Nat}{args:List Value}{h:Heap}{Q:Res→Heap→Prop}{c:aJ}{rs:List (Nat×Option (Option Nat))}(hf:T f=some (.code c rs))
 (H:XW T h.next none c (dA 0 args) [] h fun x e ds h1=>(∀i,x≠ .exit i)∧∃g first cap as,ds=[(.func (.func g) first cap,as)]∧DW T g (dg first.toList (dg as cap.toList)) (Ga x) {h1 with log:=[]} fun p h2=>p=none∧∃vs,bW {h2 with log:=ax h.next h1.log h2.log} e rs=some vs∧Q (.ret (dZ vs)) (gcA h {h2 with log:=ax h.next h1.log h2.log} (dZ vs))):CW T f args h Q:=by
 obtain⟨x,e,ds,h1,⟨m,he⟩,hx,g,first,cap,as,rfl,p,h2,⟨m2,hd⟩,rfl,vs,hvs,hq⟩:=H
 refine⟨_,_,⟨m+m2+4,fun n hn=> ?_⟩,hq⟩
 obtain⟨k,rfl⟩:∃k,n=k+3:=⟨n-3,by omega⟩
 have h3:=he (k+2) (by omega)
 have h4:=hd (k+1) (by omega)
 cases x with
 |exit i=>exact(hx i rfl).elim
 |panic v=>simp only[Ga]at h4;simp only[gT,h3,lz,hf,h4,hvs]
 |normal=>simp only[Ga]at h4;simp only[gT,h3,lz,hf,h4,hvs]
 |ret=>simp only[Ga]at h4;simp only[gT,h3,lz,hf,h4,hvs]
structure KX (T:Nat→Option ah) (base:Nat) (rs:List (Nat×Option (Option Nat))) (Q:Value→Heap→Prop) (x:bQ) (e:Env) (ds:Dfs) (h1:Heap):Prop where
 ok:(∀i,x≠ .exit i)∧∃g first cap as,ds=[(.func (.func g) first cap,as)]∧DW T g (dg first.toList (dg as cap.toList)) (Ga x) {h1 with log:=[]} fun p h2=>p=none∧ax base h1.log h2.log=[]∧∃vs,bW {h2 with log:=[]} e rs=some vs∧Q (dZ vs) {h2 with log:=[]}
theorem Al.ofD(hp:bC T){f:Nat}{args:List Value}{c:aJ}{rs:List (Nat×Option (Option Nat))}{Q:Value→Heap→Prop}(hf:T f=some (.code c rs))(hr:Rdy h)(hQ:∀v h1,cD v=true→Q v h1→Q v h)
 (H:WE T h.next none c (KX T h.next rs Q) (dA 0 args) [] h):Al T f args h Q:=by
 obtain⟨x,e,ds,h1,⟨m,hm⟩,⟨hx,g,first,cap,as,rfl,p,h2,⟨m2,hd⟩,rfl,hl,vs,hvs,hq⟩⟩:=H.ok
 have hA:=(eS.all hp m).exec _ _ _ _ _ _ _ _ _ _ (hm m (Nat.le_refl _)) (Nat.le_refl _)
 have hA2:=hA.trans (AS.call (base:=h.next) ((eS.all hp m2).defer _ _ _ _ _ _ (hd m2 (Nat.le_refl _)) rfl) hA.next)
 rw[hl]at hA2
 refine CW.KP hf ⟨x,e,_,h1,⟨m,hm⟩,hx,g,first,cap,as,rfl,none,h2,⟨m2,hd⟩,rfl,vs,by rw[hl];exact hvs,?_⟩
 rw[hl]
 cases hv:cD (dZ vs)with
 |true=>
  rw[uO hr.wf hA2 (show({h2 with log:=[]}:Heap).log=h.log from hr.log.symm) hr.log hv]
  exact⟨.refl _,_,rfl,hQ _ _ hv hq⟩
 |false=>
  have:gcA h {h2 with log:=[]} (dZ vs)={h2 with log:=[]}:=by simp[gcA,hv]
  rw[this]
  exact⟨.lY hr hA2 rfl,_,rfl,hq⟩
structure SE (T:Nat→Option ah) (base:Nat) (c:aJ) (K:bQ→Env→Option Value→Heap→Prop) (e:Env) (p:Option Value) (h:Heap):Prop where
 ok:∃x e' p' h',(∃m,∀n,m≤n→fm T n base c e p h=some (x,e',p',h'))∧K x e' p' h'
structure SO (T:Nat→Option ah) (base:Nat) (K:Env→Option Value→Heap→Prop) (ops:List aQ) (e:Env) (p:Option Value) (h:Heap):Prop where
 ok:∃e' p' h',(∃m,∀n,m≤n→gG T n base ops e p h=some (.normal,e',p',h'))∧K e' p' h'
theorem DW.of{g:Nat}{args:List Value}{pan:Option Value}{Q:Option Value→Heap→Prop}{c:aJ}(hf:T g=some (.code c []))(H:SE T h.next c (fun x _ p h'=>(x= .normal∨x= .ret)∧Q p h') (dA 0 args) pan h):DW T g args pan h Q:=by
 obtain⟨x,e',p',h',⟨m,hm⟩,hx,hq⟩:=H.ok
 refine⟨p',h',⟨m+1,fun n hn=> ?_⟩,hq⟩
 obtain⟨k,rfl⟩:∃k,n=k+1:=⟨n-1,by omega⟩
 rcases hx with rfl|rfl<;>simp only[iP,hf,hm k (by omega)]
variable {p:Option Value} {K:bQ→Env→Option Value→Heap→Prop} {KO':Env→Option Value→Heap→Prop}
theorem AX(H:K .normal e p h):SE T base .skip K e p h:=⟨_,_,_,_,⟨1,fun n hn=>by obtain⟨k,rfl⟩:∃k,n=k+1:=⟨n-1,by omega⟩;simp only[fm]⟩,H⟩
theorem jb{ops:List aQ}{keep:List Nat}(H:SO T base (fun e' p' h'=>K .normal (bS e' keep) p' h') ops e p h):SE T base (.region ops keep) K e p h:=by
 obtain⟨e',p',h',⟨m,hm⟩,hk⟩:=H.ok
 exact⟨_,_,_,_,⟨m+1,fun n hn=>by obtain⟨k,rfl⟩:∃k,n=k+1:=⟨n-1,by omega⟩;simp only[fm,hm k (by omega)]⟩,hk⟩
theorem nO{a b:aJ}(H:SE T base a (fun x e' p' h'=>x= .normal∧SE T base b K e' p' h') e p h):SE T base (.seq a b) K e p h:=by
 obtain⟨x,e',p',h',⟨m,hm⟩,rfl,⟨x2,e2,p2,h2,⟨m2,hm2⟩,hk⟩⟩:=H.ok
 exact⟨_,_,_,_,⟨m+m2+1,fun n hn=>by obtain⟨k,rfl⟩:∃k,n=k+1:=⟨n-1,by omega⟩;simp only[fm,hm k (by omega),hm2 k (by omega)]⟩,hk⟩
theorem Hz{c:Operand}{a b:aJ}(hc:ev h e c=some (.bool true))(H:SE T base a K e p h):SE T base (.cond c a b) K e p h:=by
 obtain⟨x,e',p',h',⟨m,hm⟩,hk⟩:=H.ok
 exact⟨_,_,_,_,⟨m+1,fun n hn=>by obtain⟨k,rfl⟩:∃k,n=k+1:=⟨n-1,by omega⟩;simp only[fm,hc,hm k (by omega)]⟩,hk⟩
theorem xw{c:Operand}{a b:aJ}(hc:ev h e c=some (.bool false))(H:SE T base b K e p h):SE T base (.cond c a b) K e p h:=by
 obtain⟨x,e',p',h',⟨m,hm⟩,hk⟩:=H.ok
 exact⟨_,_,_,_,⟨m+1,fun n hn=>by obtain⟨k,rfl⟩:∃k,n=k+1:=⟨n-1,by omega⟩;simp only[fm,hc,hm k (by omega)]⟩,hk⟩
theorem nQ(H:KO' e p h):SO T base KO' [] e p h:=⟨_,_,_,⟨1,fun n hn=>by obtain⟨k,rfl⟩:∃k,n=k+1:=⟨n-1,by omega⟩;simp only[gG]⟩,H⟩
theorem fQ{dst:Option Nat}{op:AOp}{os:List aQ}{v:Value}{h':Heap}(ho:aop h base e op=some (.val v h'))(H:SO T base KO' os (bK e dst v) p h'):SO T base KO' (⟨dst,op,none⟩::os) e p h:=by
 obtain⟨e',p',h2,⟨m,hm⟩,hk⟩:=H.ok
 exact⟨_,_,_,⟨m+1,fun n hn=>by obtain⟨k,rfl⟩:∃k,n=k+1:=⟨n-1,by omega⟩;simp only[gG,bA,ho,hm k (by omega)]⟩,hk⟩
theorem Hs{dst:Option Nat}{os:List aQ}(H:SO T base KO' os (bK e dst .nilIface) none h):SO T base KO' (⟨dst, .recover,none⟩::os) e none h:=by
 obtain⟨e',p',h2,⟨m,hm⟩,hk⟩:=H.ok
 exact⟨_,_,_,⟨m+1,fun n hn=>by obtain⟨k,rfl⟩:∃k,n=k+1:=⟨n-1,by omega⟩;simp only[gG,bA,aop,hm k (by omega)]⟩,hk⟩
theorem Hj{dst:Option Nat}{os:List aQ}{v:Value}(H:SO T base KO' os (bK e dst v) none h):SO T base KO' (⟨dst, .recover,none⟩::os) e (some v) h:=by
 obtain⟨e',p',h2,⟨m,hm⟩,hk⟩:=H.ok
 exact⟨_,_,_,⟨m+1,fun n hn=>by obtain⟨k,rfl⟩:∃k,n=k+1:=⟨n-1,by omega⟩;simp only[gG,bA,aop,hm k (by omega)]⟩,hk⟩
end Go.A
end
section
namespace Go.A
variable {T:Nat→Option ah} {base:Nat} {rnd:Option Nat} {Q Q':XQ} {e e2:Env} {ds:Dfs} {h:Heap} {os:List aQ} {dst:Option Nat} {v u:Value} {x y:Operand} {keep k2:List Nat} {K:Env→Dfs→Heap→Prop}
theorem y1(H:Q .normal e2 ds h)(he:bS e keep=e2:=by simp only[bS,bK,geT,dA,cond_true,cond_false,Nat.beq];exact rfl):KR keep Q .normal e ds h:=LB he H
theorem y3(H:K e2 ds h)(he:bS e keep=e2:=by simp only[bS,bK,geT,dA,cond_true,cond_false,Nat.beq];exact rfl):WO T base rnd (KR keep (KS K Q)) [] e ds h:=fo (LB he (aP H))
theorem y4{b:aJ}(H:WO T base rnd (KR keep (KS (WE T base rnd b Q) Q)) os e ds h):WE T base rnd (.seq (.region os keep) b) Q e ds h:=aq (aD H)
theorem yM(H:WO T base rnd Q os (bK e dst v) ds h)(hx:ev h e x=some v:=by exact rfl):WO T base rnd Q (⟨dst, .mov x,none⟩::os) e ds h:=af (iR hx) H
theorem yE{i:Nat}{vs:Array Value}(H:WO T base rnd Q os (bK e dst v) ds h)(hx:ev h e x=some (.tuple vs):=by exact rfl)(hv:bG vs.toList i=some v:=by exact rfl):WO T base rnd Q (⟨dst, .extract x i,none⟩::os) e ds h:=af (je hx hv) H
theorem yL{b o sz:Nat}{vs:List Value}{own:Bool}(H:WO T base rnd Q os (bK e dst v) ds h)(hx:ev h e x=some (.pointer (some ⟨b,o,none⟩)):=by exact rfl)
 (hb:h.get b=some (.cells vs own sz):=by first|assumption|(simp(disch:=first|omega|(simp only[z1,z2];omega))only[z3,z4,z5,z6,z7,z1,z2, *];done)|(simp(disch:=first|omega|(simp only[z1,z2];omega))only[z3,z4,z5,z6,z7,z1,z2, *];exact rfl)|(simp(disch:=first|omega|(simp only[z1,z2];omega)|(simp only[z1,z2];done)|fail)only[z8,z4,z5,z9,z7,z1,z2, *];done)|(simp(disch:=first|omega|(simp only[z1,z2];omega)|(simp only[z1,z2];done)|fail)only[z8,z4,z5,z9,z7,z1,z2, *];exact rfl))
 (hv:bG vs o=some v:=by exact rfl):WO T base rnd Q (⟨dst, .load none x,none⟩::os) e ds h:=af (bt hx hb hv) H
theorem yN{n b o sz:Nat}{vs l:List Value}{own:Bool}(H:WO T base rnd Q os (bK e dst (.agg l.toArray)) ds h)(hx:ev h e x=some (.pointer (some ⟨b,o,none⟩)):=by exact rfl)
 (hb:h.get b=some (.cells vs own sz):=by first|assumption|(simp(disch:=first|omega|(simp only[z1,z2];omega))only[z3,z4,z5,z6,z7,z1,z2, *];done)|(simp(disch:=first|omega|(simp only[z1,z2];omega))only[z3,z4,z5,z6,z7,z1,z2, *];exact rfl)|(simp(disch:=first|omega|(simp only[z1,z2];omega)|(simp only[z1,z2];done)|fail)only[z8,z4,z5,z9,z7,z1,z2, *];done)|(simp(disch:=first|omega|(simp only[z1,z2];omega)|(simp only[z1,z2];done)|fail)only[z8,z4,z5,z9,z7,z1,z2, *];exact rfl))
 (hv:dM n (dN o vs)=l:=by exact rfl)(hl:Nat.beq (cI l) n=true:=by exact rfl):WO T base rnd Q (⟨dst, .load (some n) x,none⟩::os) e ds h:=af (cS hx hb hv hl) H
theorem yS{n b o sz:Nat}{vs ws:List Value}(H:WO T base rnd Q os (bK e dst (.tuple #[])) ds (h.wr base b (.cells ws true sz)))(hx:ev h e x=some (.pointer (some ⟨b,o,none⟩)):=by exact rfl)(hy:ev h e y=some v:=by exact rfl)
 (hb:h.get b=some (.cells vs true sz):=by first|assumption|(simp(disch:=first|omega|(simp only[z1,z2];omega))only[z3,z4,z5,z6,z7,z1,z2, *];done)|(simp(disch:=first|omega|(simp only[z1,z2];omega))only[z3,z4,z5,z6,z7,z1,z2, *];exact rfl)|(simp(disch:=first|omega|(simp only[z1,z2];omega)|(simp only[z1,z2];done)|fail)only[z8,z4,z5,z9,z7,z1,z2, *];done)|(simp(disch:=first|omega|(simp only[z1,z2];omega)|(simp only[z1,z2];done)|fail)only[z8,z4,z5,z9,z7,z1,z2, *];exact rfl))
 (hc:(Nat.beq (cI (cellsOf v)) n&&Nat.ble (o+n) (cI vs)&&fB (cellsOf v))=true:=by exact rfl)(hw:cW vs o (cellsOf v)=ws:=by exact rfl):WO T base rnd Q (⟨dst, .store n x y,none⟩::os) e ds h:=af (jF hx hy hb hc hw) H
theorem yF{off b o:Nat}(H:WO T base rnd Q os (bK e dst (.pointer (some ⟨b,o+off,none⟩))) ds h)(hx:ev h e x=some (.pointer (some ⟨b,o,none⟩)):=by exact rfl):WO T base rnd Q (⟨dst, .cH off x,none⟩::os) e ds h:=af (iy hx) H
theorem yB{vs:List Value}(H:WO T base rnd Q os (bK e dst (.pointer (some ⟨h.next,0,none⟩))) ds (h.push (.cells vs true 1)))(hx:ev h e x=some v:=by exact rfl)(hc:cellsOf v=vs:=by exact rfl):WO T base rnd Q (⟨dst, .box x,none⟩::os) e ds h:=af (K9 hx hc) H
theorem yT{c:Operand}(H:WO T base rnd Q os (bK e dst v) ds h)(hc:ev h e c=some (.bool true):=by exact rfl)(hx:ev h e x=some v:=by exact rfl):WO T base rnd Q (⟨dst, .pick c x y,none⟩::os) e ds h:=af (jI hc hx) H
theorem yU{c:Operand}(H:WO T base rnd Q os (bK e dst v) ds h)(hc:ev h e c=some (.bool false):=by exact rfl)(hx:ev h e y=some v:=by exact rfl):WO T base rnd Q (⟨dst, .pick c x y,none⟩::os) e ds h:=af (lP hc hx) H
theorem yO{op:AOp}{t:Nat}{b:Bool}(H:WO T base rnd Q (⟨dst,op,none⟩::os) e ds h)(hg:geT e t=some (.bool b):=by exact rfl):WO T base rnd Q (⟨dst,op,some (t,b)⟩::os) e ds h:=Kw hg H
theorem yP{op:AOp}{t:Nat}{b c:Bool}(H:WO T base rnd Q os (bK e dst (.tuple #[])) ds h)(hg:geT e t=some (.bool c):=by exact rfl)(hx:c= !b:=by exact rfl):WO T base rnd Q (⟨dst,op,some (t,b)⟩::os) e ds h:=Kc hg hx H
theorem yC{f:Operand}{args:List Operand}{fv:Value}{as:List Value}{g:Nat}{first cap:Array Value}{all:List Value}(H:FW T (.func g) all {h with log:=[]} (KO (WO T base rnd Q os) Q base dst e ds h.log))(hf:ev h e f=some fv:=by exact rfl)(ha:evs h e args=some as:=by exact rfl)(hv:fv= .func (.func g) first cap:=by exact rfl)(hl:dg first.toList (dg as cap.toList)=all:=by exact rfl):
 WO T base rnd Q (⟨dst, .call f args,none⟩::os) e ds h:=gj (zT hf ha hv hl) H
theorem yX{c:Operand}{a b:aJ}(H:WE T base rnd b Q e ds h)(hc:ev h e c=some (.bool false):=by exact rfl):WE T base rnd (.cond c a b) Q e ds h:=Ge hc H
theorem yY{c:Operand}{a b:aJ}(H:WE T base rnd a Q e ds h)(hc:ev h e c=some (.bool true):=by exact rfl):WE T base rnd (.cond c a b) Q e ds h:=GU hc H
theorem yA{b:Bool}(H:WO T base rnd Q os (bK e dst (.bool !b)) ds h)(hx:ev h e x=some (.bool b):=by exact rfl):WO T base rnd Q (⟨dst, .un .not x,none⟩::os) e ds h:=af (IK hx) H
theorem yD{a:Option Addr}{n c:Nat}(H:WO T base rnd Q os (bK e dst (.int .i64 n)) ds h)(hx:ev h e x=some (.slice a n c):=by exact rfl):WO T base rnd Q (⟨dst, .len 1 x,none⟩::os) e ds h:=af (DU hx) H
section
variable {k:IntKind} {a b:Int}
theorem yt{op:BinOp}{u:Value}(H:WO T base rnd Q os (bK e dst (.bool true)) ds h)(hx:ev h e x=some v:=by exact rfl)(hy:ev h e y=some u:=by exact rfl)(hv:cV op v u=some (.bool true):=by first|exact yR (by omega)|exact JT (by omega)|exact I6 (by omega)|exact Jy (by omega)|exact zB (by omega)|exact Jv (by omega)):
 WO T base rnd Q (⟨dst, .bin (.num op) x y,none⟩::os) e ds h:=af (cE hx hy hv) H
theorem yf{op:BinOp}{u:Value}(H:WO T base rnd Q os (bK e dst (.bool false)) ds h)(hx:ev h e x=some v:=by exact rfl)(hy:ev h e y=some u:=by exact rfl)(hv:cV op v u=some (.bool false):=by first|exact zg (by omega)|exact JX (by omega)|exact Dp (by omega)|exact Jh (by omega)|exact zj (by omega)|exact Jp (by omega)):
 WO T base rnd Q (⟨dst, .bin (.num op) x y,none⟩::os) e ds h:=af (cE hx hy hv) H
theorem fV{n:Nat}(H:WO T base rnd Q os (bK e dst (.int .i64 (n+1:Nat))) ds h)(hx:ev h e x=some (.int .i64 n):=by exact rfl)(hy:ev h e y=some (.int .i64 1):=by exact rfl)(hn:n<9223372036854775807:=by omega):WO T base rnd Q (⟨dst, .bin (.num .add) x y,none⟩::os) e ds h:=af (cE hx hy (La hn)) H
theorem qS(H:WO T base rnd Q os (bK e dst (.int .i64 (a+b))) ds h)(hx:ev h e x=some (.int .i64 a):=by exact rfl)(hy:ev h e y=some (.int .i64 b):=by exact rfl)(h1: -9223372036854775808≤a+b:=by omega)(h2:a+b<9223372036854775808:=by omega):WO T base rnd Q (⟨dst, .bin (.num .add) x y,none⟩::os) e ds h:=af (cE hx hy (rQ (bY h1 h2))) H
theorem vS(H:WO T base rnd Q os (bK e dst (.int .i64 (a-b))) ds h)(hx:ev h e x=some (.int .i64 a):=by exact rfl)(hy:ev h e y=some (.int .i64 b):=by exact rfl)(h1: -9223372036854775808≤a-b:=by omega)(h2:a-b<9223372036854775808:=by omega):WO T base rnd Q (⟨dst, .bin (.num .sub) x y,none⟩::os) e ds h:=af (cE hx hy (iX (bY h1 h2))) H
end
section
variable {ops:List aQ} {bf:List Nat} {rs:List Rec} {R:Env→Heap→Prop} {i mask:Nat} {is:List Nat} {g:Option (Nat×Bool)} {er:Env}
theorem qM(H:WD T base ops bf R is (⟨i,⟨dst, .mov x,g⟩,er,v, .quiet⟩::rs) (bK e dst v) h)(ho:bG ops i=some ⟨dst, .mov x,g⟩:=by exact rfl)(hm:bG bf i=some mask:=by exact rfl)(he:bS e (bR ⟨dst, .mov x,g⟩)=er:=by exact rfl)(hw:bA er g=some true:=by exact rfl)(hx:ev h er x=some v:=by exact rfl):WD T base ops bf R (i::is) rs e h:=ak ho hm he hw rfl rfl (iR hx) H
theorem qF{off b o:Nat}(H:WD T base ops bf R is (⟨i,⟨dst, .cH off x,g⟩,er, .pointer (some ⟨b,o+off,none⟩), .quiet⟩::rs) (bK e dst (.pointer (some ⟨b,o+off,none⟩))) h)(ho:bG ops i=some ⟨dst, .cH off x,g⟩:=by exact rfl)(hm:bG bf i=some mask:=by exact rfl)(he:bS e (bR ⟨dst, .cH off x,g⟩)=er:=by exact rfl)(hw:bA er g=some true:=by exact rfl)(hx:ev h er x=some (.pointer (some ⟨b,o,none⟩)):=by exact rfl):
 WD T base ops bf R (i::is) rs e h:=ak ho hm he hw rfl rfl (iy hx) H
theorem qL{b o sz:Nat}{vs:List Value}{own:Bool}(H:WD T base ops bf R is (⟨i,⟨dst, .load none x,g⟩,er,v, .quiet⟩::rs) (bK e dst v) h)(ho:bG ops i=some ⟨dst, .load none x,g⟩:=by exact rfl)(hm:bG bf i=some mask:=by exact rfl)(he:bS e (bR ⟨dst, .load none x,g⟩)=er:=by exact rfl)(hw:bA er g=some true:=by exact rfl)(hx:ev h er x=some (.pointer (some ⟨b,o,none⟩)):=by exact rfl)
 (hb:h.get b=some (.cells vs own sz):=by first|assumption|(simp(disch:=first|omega|(simp only[z1,z2];omega))only[z3,z4,z5,z6,z7,z1,z2, *];done)|(simp(disch:=first|omega|(simp only[z1,z2];omega))only[z3,z4,z5,z6,z7,z1,z2, *];exact rfl)|(simp(disch:=first|omega|(simp only[z1,z2];omega)|(simp only[z1,z2];done)|fail)only[z8,z4,z5,z9,z7,z1,z2, *];done)|(simp(disch:=first|omega|(simp only[z1,z2];omega)|(simp only[z1,z2];done)|fail)only[z8,z4,z5,z9,z7,z1,z2, *];exact rfl))
 (hv:bG vs o=some v:=by exact rfl):WD T base ops bf R (i::is) rs e h:=ak ho hm he hw rfl rfl (bt hx hb hv) H
theorem qN{n b o sz:Nat}{vs l:List Value}{own:Bool}(H:WD T base ops bf R is (⟨i,⟨dst, .load (some n) x,g⟩,er, .agg l.toArray, .quiet⟩::rs) (bK e dst (.agg l.toArray)) h)(ho:bG ops i=some ⟨dst, .load (some n) x,g⟩:=by exact rfl)(hm:bG bf i=some mask:=by exact rfl)(he:bS e (bR ⟨dst, .load (some n) x,g⟩)=er:=by exact rfl)(hw:bA er g=some true:=by exact rfl)(hx:ev h er x=some (.pointer (some ⟨b,o,none⟩)):=by exact rfl)
 (hb:h.get b=some (.cells vs own sz):=by first|assumption|(simp(disch:=first|omega|(simp only[z1,z2];omega))only[z3,z4,z5,z6,z7,z1,z2, *];done)|(simp(disch:=first|omega|(simp only[z1,z2];omega))only[z3,z4,z5,z6,z7,z1,z2, *];exact rfl)|(simp(disch:=first|omega|(simp only[z1,z2];omega)|(simp only[z1,z2];done)|fail)only[z8,z4,z5,z9,z7,z1,z2, *];done)|(simp(disch:=first|omega|(simp only[z1,z2];omega)|(simp only[z1,z2];done)|fail)only[z8,z4,z5,z9,z7,z1,z2, *];exact rfl))
 (hv:dM n (dN o vs)=l:=by exact rfl)(hl:Nat.beq (cI l) n=true:=by exact rfl):WD T base ops bf R (i::is) rs e h:=ak ho hm he hw rfl rfl (cS hx hb hv hl) H
theorem qE{j:Nat}{vs:Array Value}(H:WD T base ops bf R is (⟨i,⟨dst, .extract x j,g⟩,er,v, .quiet⟩::rs) (bK e dst v) h)(ho:bG ops i=some ⟨dst, .extract x j,g⟩:=by exact rfl)(hm:bG bf i=some mask:=by exact rfl)(he:bS e (bR ⟨dst, .extract x j,g⟩)=er:=by exact rfl)(hw:bA er g=some true:=by exact rfl)(hx:ev h er x=some (.tuple vs):=by exact rfl)(hv:bG vs.toList j=some v:=by exact rfl):
 WD T base ops bf R (i::is) rs e h:=ak ho hm he hw rfl rfl (je hx hv) H
theorem qC{f:Operand}{args:List Operand}{fv:Value}{as:List Value}{k:Nat}{first cap:Array Value}{all:List Value}(H:FW T (.func k) all {h with log:=[]} (KD (WD T base ops bf R is) base mask rs dst e h.log))(ho:bG ops i=some ⟨dst, .call f args,g⟩:=by exact rfl)(hm:bG bf i=some mask:=by exact rfl)(he:bS e (bR ⟨dst, .call f args,g⟩)=er:=by exact rfl)(hw:bA er g=some true:=by exact rfl)
 (hf:ev {h with log:=[]} er f=some fv:=by exact rfl)(ha:evs {h with log:=[]} er args=some as:=by exact rfl)(hv:fv= .func (.func k) first cap:=by exact rfl)(hl:dg first.toList (dg as cap.toList)=all:=by exact rfl):WD T base ops bf R (i::is) rs e h:=Ho ho hm he hw rfl (zT hf ha hv hl) H
end
end Go.A
end
