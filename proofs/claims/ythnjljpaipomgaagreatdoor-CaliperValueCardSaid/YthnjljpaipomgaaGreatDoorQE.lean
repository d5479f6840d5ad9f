/- The runs once more, for the kernel. -/
import Derived.Test.YthnjljpaipomgaaGreatDoorQA
set_option linter.all false
noncomputable section
namespace Go.A
structure Fam where
 exec:Nat->Option Nat->aN->Env->Dfs->Heap->Option (bk×Env×Dfs×Heap)
 ops:Nat->Option Nat->List aP->Env->Dfs->Heap->Option (bk×Env×Dfs×Heap)
 draw:Nat->List aP->List Nat->List Nat->List Rec->Env->Heap->Option (bk×Env×Heap)
 iZ:Fn->List Value->Heap->Option (Res×Heap)
 call:Nat->List Value->Heap->Option (Res×Heap)
 unw:List (Nat×Option (Option Nat))->Dfs->Option Value->Env->Heap->Heap->Option (Res×Heap)
 defer:Nat->List Value->Option Value->Heap->Option (Option Value×Heap)
 gp:Nat->aN->Env->Option Value->Heap->Option (bk×Env×Option Value×Heap)
 kj:Nat->List aP->Env->Option Value->Heap->Option (bk×Env×Option Value×Heap)
def Fam.none:Fam where
 exec:=λ_ _ _ _ _ _=> .none
 ops:=λ_ _ _ _ _ _=> .none
 draw:=λ_ _ _ _ _ _ _=> .none
 iZ:=λ_ _ _=> .none
 call:=λ_ _ _=> .none
 unw:=λ_ _ _ _ _ _=> .none
 defer:=λ_ _ _ _=> .none
 gp:=λ_ _ _ _ _=> .none
 kj:=λ_ _ _ _ _=> .none
def RC(T:Nat→Option aq)(F:Fam):Nat→Option Nat→aN→Env→Dfs→Heap→Option (bk×Env×Dfs×Heap):=fun base rnd c e ds h=>
    match c with
    | .skip=>some (.normal,e,ds,h)
    | .region ops keep=>match F.ops base rnd ops e ds h with
      |some (.normal,e',ds',h')=>some (.normal,bD e' keep,ds',h')
      |r=>r
    | .draw ops order before keep=>match F.draw base ops order before [] e h with
      |some (.normal,e',h')=>some (.normal,bD e' keep,ds,h')
      |some (x,e',h')=>some (x,e',ds,h')
      |none=>none
    | .seq a b=>match F.exec base rnd a e ds h with
      |some (.normal,e',ds',h')=>F.exec base rnd b e' ds' h'
      |r=>r
    | .cond c a b=>match ev h e c with
      |some (.bool true)=>F.exec base rnd a e ds h
      |some (.bool false)=>F.exec base rnd b e ds h
      |_=>none
    | .block id b=>match F.exec base rnd b e ds h with
      |some (.exit i,e',ds',h')=>bif Nat.beq i id then some (.normal,e',ds',h')else some (.exit i,e',ds',h')
      |r=>r
    | .loop b=>match F.exec base rnd b e ds h with
      |some (.normal,e',ds',h')=>F.exec base rnd (.loop b) e' ds' h'
      |r=>r
    | .scope b=>F.exec base rnd b e ds h
    | .rangeFunc f ps asg body=>bif nr h rnd then match ev h e f with
      |some (.func (.func g) first cap)=>bif gw (T g)then none else
       match F.call g (dP first.toList (dP [.func (.yield h.next) #[] #[]] cap.toList)) {h.push (.loop e ps asg body 0 .normal)with log:=[]}with
       |some (.ret _,h2)=>match h2.get h.next with
        |some (.loop _ _ _ _ st iN)=>bif Nat.beq st 1 then none else
         some (iN,e,ds,Heap.wr {h2 with log:=aB base h.log h2.log} base h.next .dead)
        |_=>none
       |some (.panic v,h2)=>some (.panic v,e,ds,{h2 with log:=aB base h.log h2.log})
       |none=>none
      |_=>none
      else none
    | .rangeMap ops it x keep out nxt pr ops2 k2 body=>match F.ops base rnd ops e ds h with
      |some (.normal,e0,ds0,h0)=>match ds0 with
       |_::_=>none
       |[]=>match ev h0 e0 x with
        |some (.map none)=>some (.normal,bD e0 keep,[],h0)
        |some (.map (some m))=>match h0.get m with
         |some (.map es)=>Hl out (bD e0 keep) h0 (ng (λe h=>F.ops (h0.next+1) rnd ops2 e [] h) (λe h=>F.exec (h0.next+1) rnd body e [] h) nxt pr k2 (itE it h0 (bD e0 keep)) (bD e0 keep) ((roM h0 m es).push .dead) es)
         |_=>none
        |_=>none
      |r=>r
    | .exit id=>some (.exit id,e,ds,h)
    | .ret=>some (.ret,e,ds,h)
def T2(T:Nat→Option aq)(F:Fam):Nat→Option Nat→List aP→Env→Dfs→Heap→Option (bk×Env×Dfs×Heap):=fun base rnd ops e ds h=>
    match ops with
    |[]=>some (.normal,e,ds,h)
    |o::os=>match bA e o.guard with
     |some false=>F.ops base rnd os (bN e o.dst (.tuple #[])) ds h
     |some true=>match aop h base e o.op with
      |some (.val v h')=>F.ops base rnd os (bN e o.dst v) ds h'
      |some (.call fn args h')=>match F.iZ fn args {h' with log:=[]}with
       |some (.ret v,h2)=>F.ops base rnd os (bN e o.dst v) ds {h2 with log:=aB base h'.log h2.log}
       |some (.panic v,h2)=>some (.panic v,e,ds,{h2 with log:=aB base h'.log h2.log})
       |none=>none
      |some (.jI f args)=>match rnd with|some _=>none|none=>F.ops base rnd os (bN e o.dst (.tuple #[])) ((f,args)::ds) h
      |some (.panic v h')=>some (.panic v,e,ds,h')
      |_=>none
     |none=>none
def RB(T:Nat→Option aq)(F:Fam):Nat→List aP→List Nat→List Nat→List Rec→Env→Heap→Option (bk×Env×Heap):=fun base ops order before rs e h=>
    match order with
    |[]=>some (.normal,e,h)
    |i::is=>match bK ops i,bK before i with
     |some o,some mask=>
      match bA (bD e (cA o)) o.guard with
      |some false=>F.draw base ops is before (⟨i,o,bD e (cA o), .tuple #[], .skip⟩::rs) (bN e o.dst (.tuple #[])) h
      |some true=>
       bif jb o.op then
        match aop h base (bD e (cA o)) o.op with
        |some (.val v h')=>
         bif dF o.op then
          bif mS h' base rs then F.draw base ops is before (⟨i,o,bD e (cA o),v, .made h.next⟩::rs) (bN e o.dst v) h' else none
         else bif Nat.beq h'.next h.next then F.draw base ops is before (⟨i,o,bD e (cA o),v, .quiet⟩::rs) (bN e o.dst v) h
         else bif oW before i is then
          match aop {h with log:=[]} h.next (bD e (cA o)) o.op with
          |some (.val v h2)=>match br {h2 with log:=aB base h.log h2.log} base h2.log mask rs with
           |some rs'=>F.draw base ops is before rs' (bN e o.dst v) {h2 with log:=aB base h.log h2.log}
           |none=>none
          |_=>none
         else none
        |_=>none
       else
        match aop {h with log:=[]} h.next (bD e (cA o)) o.op with
        |some (.val v h2)=>match br {h2 with log:=aB base h.log h2.log} base h2.log mask rs with
         |some rs'=>F.draw base ops is before rs' (bN e o.dst v) {h2 with log:=aB base h.log h2.log}
         |none=>none
        |some (.call fn args _)=>match F.iZ fn args {h with log:=[]}with
         |some (.ret v,h2)=>match br {h2 with log:=aB base h.log h2.log} base h2.log mask rs with
          |some rs'=>F.draw base ops is before rs' (bN e o.dst v) {h2 with log:=aB base h.log h2.log}
          |none=>none
         |some (.panic v,h2)=>some (.panic v,[],{h2 with log:=aB base h.log h2.log})
         |none=>none
        |_=>none
      |none=>none
     |_,_=>none
def NS(T:Nat→Option aq)(F:Fam):Fn→List Value→Heap→Option (Res×Heap):=fun fn args h=>
    match fn with
    | .func f=>F.call f args h
    | .yield l=>match h.get l with
      |some (.loop e ps asg body 0 .normal)=>match iX e ps args with
       |some e1=>match F.exec h.next (some l) asg e1 [] h with
        |some (.normal,e2,ds2,h2)=>bif notReady (h2.get l)then none else match F.exec h.next (some l) body e2 ds2 {h2 with cm:=iS h2.cm l (.loop e ps asg body 1 .normal)}with
         |some (.normal,_,_,h3)=>match h3.get l with
          |some (.loop _ _ _ _ 1 _)=>some (.ret (.bool true),gcA h {h3 with cm:=iS h3.cm l (.loop e ps asg body 0 .normal)} (.bool true))
          |_=>none
         |some (.exit i,_,_,h3)=>match h3.get l with
          |some (.loop _ _ _ _ 1 _)=>some (.ret (.bool false),h3.wr h.next l (.loop e ps asg body 2 (.exit i)))
          |_=>none
         |some (.ret,_,_,h3)=>match h3.get l with
          |some (.loop _ _ _ _ 1 _)=>some (.ret (.bool false),h3.wr h.next l (.loop e ps asg body 2 .ret))
          |_=>none
         |_=>none
        |_=>none
       |none=>none
      |_=>none
    |_=>none
def RA(T:Nat→Option aq)(F:Fam):Nat→List Value→Heap→Option (Res×Heap):=fun f args h=>
    match T f with
    |none=>none
    |some (.lD p)=>match p args h with
     |some (v,h')=>some (.ret v,h')
     |none=>none
    |some (.code code results)=>match F.exec h.next none code (dM 0 args) [] h with
     |some (.panic v,e,ds,h1)=>F.unw results ds (some v) e h h1
     |some (.exit _,_,_,_)=>none
     |some (_,e,ds,h1)=>F.unw results ds none e h h1
     |none=>none
def T3(T:Nat→Option aq)(F:Fam):List (Nat×Option (Option Nat))→Dfs→Option Value→Env→Heap→Heap→Option (Res×Heap):=fun results ds pan e h h1=>
    match ds with
    |[]=>match pan with
     |some v=>some (.panic v,h1)
     |none=>match bL h1 e results with
      |some vs=>some (.ret (dO vs),gcA h h1 (dO vs))
      |none=>none
    |(.func (.func g) first cap,args)::ds=>match F.defer g (dP first.toList (dP args cap.toList)) pan {h1 with log:=[]}with
     |some (pan',h2)=>F.unw results ds pan' e h {h2 with log:=aB h.next h1.log h2.log}
     |none=>none
    |_=>none
def NT(T:Nat→Option aq)(F:Fam):Nat→List Value→Option Value→Heap→Option (Option Value×Heap):=fun g args pan h=>
    match T g with
    |some (.code code [])=>match F.gp h.next code (dM 0 args) pan h with
     |some (.normal,_,pan',h')=>some (pan',h')
     |some (.ret,_,pan',h')=>some (pan',h')
     |_=>none
    |_=>none
def NW(T:Nat→Option aq)(F:Fam):Nat→aN→Env→Option Value→Heap→Option (bk×Env×Option Value×Heap):=fun base c e pan h=>
    match c with
    | .skip=>some (.normal,e,pan,h)
    | .region ops keep=>match F.kj base ops e pan h with
      |some (.normal,e',pan',h')=>some (.normal,bD e' keep,pan',h')
      |r=>r
    | .seq a b=>match F.gp base a e pan h with
      |some (.normal,e',pan',h')=>F.gp base b e' pan' h'
      |r=>r
    | .cond c a b=>match ev h e c with
      |some (.bool true)=>F.gp base a e pan h
      |some (.bool false)=>F.gp base b e pan h
      |_=>none
    | .ret=>some (.ret,e,pan,h)
    |_=>none
def RE(T:Nat→Option aq)(F:Fam):Nat→List aP→Env→Option Value→Heap→Option (bk×Env×Option Value×Heap):=fun base ops e pan h=>
    match ops with
    |[]=>some (.normal,e,pan,h)
    |o::os=>match bA e o.guard with
     |some false=>F.kj base os (bN e o.dst (.tuple #[])) pan h
     |some true=>match aop h base e o.op with
      |some (.val v h')=>F.kj base os (bN e o.dst v) pan h'
      |some .recover=>match pan with
       |some v=>F.kj base os (bN e o.dst v) none h
       |none=>F.kj base os (bN e o.dst .nilIface) none h
      |_=>none
     |none=>none
def Fam.succ(T:Nat->Option aq)(F:Fam):Fam where
 exec:=RC T F
 ops:=T2 T F
 draw:=RB T F
 iZ:=NS T F
 call:=RA T F
 unw:=T3 T F
 defer:=NT T F
 gp:=NW T F
 kj:=RE T F
def fam(T:Nat->Option aq)(n:Nat):Fam:=Nat.rec Fam.none (λ_ F=>Fam.succ T F) n
theorem J8(T:Nat->Option aq):∀n,fam T n={exec:=cC T n,ops:=fZ T n,draw:=dU T n,iZ:=gG T n,call:=iJ T n,unw:=nE T n,defer:=jF T n,gp:=gH T n,kj:=iO T n}
 |0=>by
  show Fam.none=_;unfold Fam.none;simp only[Fam.mk.injEq];refine⟨?_,?_,?_,?_,?_,?_,?_,?_,?_⟩
  ·funext x0 x1 x2 x3 x4 x5;simp only[cC]
  ·funext x0 x1 x2 x3 x4 x5;simp only[fZ]
  ·funext x0 x1 x2 x3 x4 x5 x6;simp only[dU]
  ·funext x0 x1 x2;simp only[gG]
  ·funext x0 x1 x2;simp only[iJ]
  ·funext x0 x1 x2 x3 x4 x5;simp only[nE]
  ·funext x0 x1 x2 x3;simp only[jF]
  ·funext x0 x1 x2 x3 x4;simp only[gH]
  ·funext x0 x1 x2 x3 x4;simp only[iO]
 |n+1=>by
  show Fam.succ T (fam T n)=_;rw[J8 T n];unfold Fam.succ;simp only[Fam.mk.injEq];refine⟨?_,?_,?_,?_,?_,?_,?_,?_,?_⟩
  ·funext x0 x1 x2 x3 x4 x5;refine Eq.trans ?_ (cC.eq_def T (n+1) x0 x1 x2 x3 x4 x5).symm;rfl
  ·funext x0 x1 x2 x3 x4 x5;refine Eq.trans ?_ (fZ.eq_def T (n+1) x0 x1 x2 x3 x4 x5).symm;rfl
  ·funext x0 x1 x2 x3 x4 x5 x6;refine Eq.trans ?_ (dU.eq_def T (n+1) x0 x1 x2 x3 x4 x5 x6).symm;rfl
  ·funext x0 x1 x2;refine Eq.trans ?_ (gG.eq_def T (n+1) x0 x1 x2).symm;rfl
  ·funext x0 x1 x2;refine Eq.trans ?_ (iJ.eq_def T (n+1) x0 x1 x2).symm;rfl
  ·funext x0 x1 x2 x3 x4 x5;refine Eq.trans ?_ (nE.eq_def T (n+1) x0 x1 x2 x3 x4 x5).symm;rfl
  ·funext x0 x1 x2 x3;refine Eq.trans ?_ (jF.eq_def T (n+1) x0 x1 x2 x3).symm;rfl
  ·funext x0 x1 x2 x3 x4;refine Eq.trans ?_ (gH.eq_def T (n+1) x0 x1 x2 x3 x4).symm;rfl
  ·funext x0 x1 x2 x3 x4;refine Eq.trans ?_ (iO.eq_def T (n+1) x0 x1 x2 x3 x4).symm;rfl
def Vq(k:IntKind):Nat:=IntKind.rec (motive:=λ_=>Nat) 0 1 2 3 4 5 6 7 k
def kEq(a b:IntKind):Bool:=Nat.beq (Vq a) (Vq b)
theorem AP(a b:IntKind):kEq a b=decide (a=b):=by cases a<;>cases b<;>rfl
def Kp(m:Nat)(b:Int):Bool:=Int.rec (motive:=λ_=>Bool) (λn=>Nat.beq m n) (λ_=>false) b
def Ko(m:Nat)(b:Int):Bool:=Int.rec (motive:=λ_=>Bool) (λ_=>false) (λn=>Nat.beq m n) b
def iEq(a b:Int):Bool:=Int.rec (motive:=λ_=>Int->Bool) Kp Ko a b
theorem Eu(a b:Int):iEq a b=(a==b):=by
 rw[vj];simp only[beq_iff_eq];cases a<;>cases b<;>simp[iEq,Kp,Ko,Nat.beq_eq]<;>omega
def Kr(m:Nat)(b:Int):Bool:=Int.rec (motive:=λ_=>Bool) (λn=>Nat.blt m n) (λ_=>false) b
def Kq(m:Nat)(b:Int):Bool:=Int.rec (motive:=λ_=>Bool) (λ_=>true) (λn=>Nat.blt n m) b
def iLt(a b:Int):Bool:=Int.rec (motive:=λ_=>Int->Bool) Kr Kq a b
theorem R6(a b:Int):iLt a b=decide (a<b):=by
 rw[vj];simp only[decide_eq_true_eq];cases a<;>cases b<;>simp[iLt,Kr,Kq,ub]<;>omega
def topP(k:IntKind):Nat:=IntKind.rec (motive:=λ_=>Nat) 128 32768 2147483648 9223372036854775808 256 65536 4294967296 18446744073709551616 k
def topN(k:IntKind):Nat:=IntKind.rec (motive:=λ_=>Nat) 128 32768 2147483648 9223372036854775808 0 0 0 0 k
def Rs(k:IntKind)(n:Int):Int:=Int.rec (motive:=λ_=>Int) (λm=>bif Nat.blt m (topP k)then .ofNat m else k.wrap (.ofNat m)) (λm=>bif Nat.blt m (topN k)then .negSucc m else k.wrap (.negSucc m)) n
theorem NH(k:IntKind)(n:Int):Rs k n=fE k n:=by cases n<;>cases k<;>rfl
def Sr{α:Type}(m:Nat)(f:Nat->α):α:=Nat.rec (motive:=λ_=>α) (f 0) (λn _=>f (Nat.succ n)) m
theorem OV{α:Type}(m:Nat)(f:Nat->α):Sr m f=f m:=by cases m<;>rfl
def R7{α:Type}(m:Int)(f:Int->α):α:=Int.rec (motive:=λ_=>α) (λn=>Sr n λn=>f (.ofNat n)) (λn=>Sr n λn=>f (.negSucc n)) m
theorem OA{α:Type}(m:Int)(f:Int->α):R7 m f=f m:=by cases m<;>simp[R7,OV]
def mkI(k:IntKind)(n:Int):Option Value:=R7 (Rs k n) λn=>some (.int k n)
def Jr(k:IntKind)(x y:Int):Option Value:=mkI k (x+y)
def JC(k:IntKind)(x y:Int):Option Value:=mkI k (x-y)
def Jy(k:IntKind)(x y:Int):Option Value:=mkI k (x*y)
def Jt(_:IntKind)(x y:Int):Option Value:=some (.bool (iEq x y))
def Jz(_:IntKind)(x y:Int):Option Value:=some (.bool (Bool.rec true false (iEq x y)))
def Jx(_:IntKind)(x y:Int):Option Value:=some (.bool (iLt x y))
def Jw(_:IntKind)(x y:Int):Option Value:=some (.bool (Bool.rec true false (iLt y x)))
def Jv(_:IntKind)(x y:Int):Option Value:=some (.bool (iLt y x))
def Ju(_:IntKind)(x y:Int):Option Value:=some (.bool (Bool.rec true false (iLt x y)))
def JA(k:IntKind)(x y:Int):Option Value:=arith .quo k x y
def JB(k:IntKind)(x y:Int):Option Value:=arith .rem k x y
def Js(k:IntKind)(x y:Int):Option Value:=arith .and k x y
def Rb(k:IntKind)(x y:Int):Option Value:=arith .or k x y
def JD(k:IntKind)(x y:Int):Option Value:=arith .xor k x y
def zn(k:IntKind)(x y:Int):Option Value:=arith .andNot k x y
def Lc(k:IntKind)(x:Int)(k':IntKind)(y:Int):Option Value:=Bool.rec none (Jr k x y) (kEq k k')
def Lq(k:IntKind)(x:Int)(k':IntKind)(y:Int):Option Value:=Bool.rec none (JC k x y) (kEq k k')
def Lj(k:IntKind)(x:Int)(k':IntKind)(y:Int):Option Value:=Bool.rec none (Jy k x y) (kEq k k')
def Lm(k:IntKind)(x:Int)(k':IntKind)(y:Int):Option Value:=Bool.rec none (JA k x y) (kEq k k')
def Ln(k:IntKind)(x:Int)(k':IntKind)(y:Int):Option Value:=Bool.rec none (JB k x y) (kEq k k')
def Ld(k:IntKind)(x:Int)(k':IntKind)(y:Int):Option Value:=Bool.rec none (Js k x y) (kEq k k')
def Sq(k:IntKind)(x:Int)(k':IntKind)(y:Int):Option Value:=Bool.rec none (Rb k x y) (kEq k k')
def Lr(k:IntKind)(x:Int)(k':IntKind)(y:Int):Option Value:=Bool.rec none (JD k x y) (kEq k k')
def Lo(k:IntKind)(x:Int)(_:IntKind)(y:Int):Option Value:=oK .shl k x y
def Lp(k:IntKind)(x:Int)(_:IntKind)(y:Int):Option Value:=oK .shr k x y
def wU(k:IntKind)(x:Int)(k':IntKind)(y:Int):Option Value:=Bool.rec none (zn k x y) (kEq k k')
def Le(k:IntKind)(x:Int)(k':IntKind)(y:Int):Option Value:=Bool.rec none (Jt k x y) (kEq k k')
def Ll(k:IntKind)(x:Int)(k':IntKind)(y:Int):Option Value:=Bool.rec none (Jz k x y) (kEq k k')
def Li(k:IntKind)(x:Int)(k':IntKind)(y:Int):Option Value:=Bool.rec none (Jx k x y) (kEq k k')
def Lh(k:IntKind)(x:Int)(k':IntKind)(y:Int):Option Value:=Bool.rec none (Jw k x y) (kEq k k')
def Lg(k:IntKind)(x:Int)(k':IntKind)(y:Int):Option Value:=Bool.rec none (Jv k x y) (kEq k k')
def Lf(k:IntKind)(x:Int)(k':IntKind)(y:Int):Option Value:=Bool.rec none (Ju k x y) (kEq k k')
def Ly(op:BinOp):IntKind->Int->IntKind->Int->Option Value:=BinOp.rec (motive:=λ_=>IntKind->Int->IntKind->Int->Option Value) Lc Lq Lj Lm Ln Ld Sq Lr Lo Lp wU Le Ll Li Lh Lg Lf op
def Ss(op:BinOp)(x y:Value):Option Value:=
 match x with
 | .int k a=>match y with
   | .int k' b=>Ly op k a k' b
   |_=>none
 | .string a=>match y with
   | .string b=>DX op a b
   |_=>none
 |_=>none
theorem JH{α:Type}(x y:α)(b:Bool):(Bool.rec x y b:α)=bif b then y else x:=by cases b<;>rfl
theorem Sn(k:IntKind)(n:Int):mkI k n=some (.int k (fE k n)):=by simp[mkI,OA,NH]
theorem bU:Ss=an:=by
 funext op x y;unfold Ss;split
 ·rename_i k a;split
  ·rename_i k' b;by_cases hk:k=k'
   ·subst hk;cases op<;>simp[Ly,an,Lc,Lq,Lj,Lm,Ln,Ld,Sq,Lr,Lo,Lp,wU,Le,Ll,Li,Lh,Lg,Lf,Jr,JC,Jy,JA,JB,Js,Rb,JD,zn,Jt,Jz,Jx,Jw,Jv,Ju,AP,JH,Sn,arith,ni,Eu,R6]
    all_goals first
     |(simp[bne];done)
     |(rw[vj];simp;done)
     |(rw[vj];simp;omega)
   ·cases op<;>simp[Ly,an,Lc,Lq,Lj,Lm,Ln,Ld,Sq,Lr,Lo,Lp,wU,Le,Ll,Li,Lh,Lg,Lf,AP,JH,hk]
  ·rename_i hy;cases op<;>cases y<;>first|rfl|exact(hy _ _ rfl).elim
 ·split
  ·cases op<;>rfl
  ·rename_i hy;cases op<;>cases y<;>first|rfl|exact(hy _ rfl).elim
 ·rename_i h1 h2;cases op<;>cases x<;>first|rfl|exact(h1 _ _ rfl).elim|exact(h2 _ rfl).elim
def XE(_:Nat):Option Value:=none
def XD(p:Nat×Value)(_:Env)(ih:Nat->Option Value)(t:Nat):Option Value:=Bool.rec (ih t) (some p.2) (Nat.beq p.1 t)
def geQ(e:Env)(t:Nat):Option Value:=List.rec (motive:=λ_=>Nat->Option Value) XE XD e t
theorem j8:geQ=geT:=by
 funext e t;induction e with
 |nil=>rfl
 |cons p e ih=>
  obtain⟨k,v⟩:=p;show(Bool.rec (geQ e t) (some v) (Nat.beq k t):Option Value)=_;rw[JH,ih];rfl
def Vt(t:Nat)(l:Env)(v:Value):Env:=(t,v)::l
def XN(_:Env):Env:=[]
def XM(t:Nat)(_:List Nat)(ih:Env->Env)(e:Env):Env:=Option.rec (motive:=λ_=>Env) (ih e) (Vt t (ih e)) (geQ e t)
def kY(e:Env)(l:List Nat):Env:=List.rec (motive:=λ_=>Env->Env) XN XM l e
theorem jK:kY=bD:=by
 funext e l;induction l with
 |nil=>rfl
 |cons t l ih=>
  show(Option.rec (kY e l) (Vt t (kY e l)) (geQ e t):Env)=_;rw[j8,ih];simp only[bD];cases geT e t<;>rfl
def XG(_:Nat):Option bM:=none
def XF(p:Nat×bM)(_:List (Nat×bM))(ih:Nat->Option bM)(t:Nat):Option bM:=Bool.rec (ih t) (some p.2) (Nat.beq p.1 t)
def goQ(e:List (Nat×bM))(t:Nat):Option bM:=List.rec (motive:=λ_=>Nat->Option bM) XG XF e t
theorem RZ:goQ=fA:=by
 funext e t;induction e with
 |nil=>rfl
 |cons p e ih=>
  obtain⟨k,v⟩:=p;show(Bool.rec (goQ e t) (some v) (Nat.beq k t):Option bM)=_;rw[JH,ih];rfl
def nk(h:Heap)(b:Nat):Option bM:=goQ h.cm b
theorem bC:nk=Heap.get:=by funext h b;simp[nk,Heap.get,RZ]
def X0(_:Nat)(_:bM):List (Nat×bM):=[]
def XZ(p:Nat×bM)(l:List (Nat×bM))(ih:Nat->bM->List (Nat×bM))(t:Nat)(o:bM):List (Nat×bM):=Bool.rec (p::ih t o) ((p.1,o)::l) (Nat.beq p.1 t)
def soQ(e:List (Nat×bM))(t:Nat)(o:bM):List (Nat×bM):=List.rec (motive:=λ_=>Nat->bM->List (Nat×bM)) X0 XZ e t o
theorem nu:soQ=iS:=by
 funext e t o;induction e with
 |nil=>rfl
 |cons p e ih=>
  obtain⟨k,v⟩:=p;show(Bool.rec ((k,v)::soQ e t o) ((k,o)::e) (Nat.beq k t):List (Nat×bM))=_;rw[JH,ih];rfl
def wrQ(h:Heap)(base b:Nat)(o:bM):Heap:={h with cm:=soQ h.cm b o,log:=bif Nat.blt b base then(bif fF h.log b then h.log else b::h.log)else h.log}
theorem bZ:wrQ=Heap.wr:=by funext h base b o;simp[wrQ,Heap.wr,nu]
def evQ(h:Heap)(e:Env)(x:Operand):Option Value:=Operand.rec (motive:=λ_=>Env->Heap->Option Value) (λt e _=>geQ e t) (λv _ _=>some v) (λg _ h=>ev h [] (.global g)) (λf _ _=>some (.func (.func f) #[] #[])) x e h
theorem bV:evQ=ev:=by
 funext h e x;cases x<;>first|rfl|(show geQ e _=_;rw[j8];rfl)
def CD(h:Heap)(e:Env):List Operand->Option (List Value)
 |[]=>some []
 |x::xs=>match evQ h e x with
  |some v=>match CD h e xs with
   |some vs=>some (v::vs)
   |none=>none
  |none=>none
theorem bB:CD=evs:=by
 funext h e l;induction l with
 |nil=>rfl
 |cons x l ih=>(simp only[CD,evs,bV,ih];rfl)
def CE(h:Heap)(e:Env)(z:List Value):List (Nat×Nat×Operand)->Option (List Value)
 |[]=>some z
 |(off,size,x)::ps=>match evQ h e x with
  |some v=>bif Nat.beq (cF (cellsOf v)) size&&Nat.ble (off+size) (cF z)then CE h e (cW z off (cellsOf v)) ps else none
  |none=>none
theorem bt:CE=je:=by
 funext h e z l;induction l generalizing z with
 |nil=>rfl
 |cons p l ih=>obtain⟨a,b,x⟩:=p;(simp only[CE,je,bV,ih];rfl)
def tI(e:Env)(g:Option (Nat×Bool)):Option Bool:=
 match g with
 |none=>some true
 |some (t,b)=>match geQ e t with
  |some (.bool x)=>some (x==b)
  |some _=>some false
  |none=>none
theorem iq:tI=bA:=by
 funext e g;cases g with
 |none=>rfl
 |some p=>obtain⟨t,b⟩:=p;(simp only[tI,bA,j8];rfl)
def MF(h:Heap)(e:Env):List (Nat×Option (Option Nat))->Option (List Value)
 |[]=>some []
 |(t,none)::rs=>match geQ e t with
  |some v=>match MF h e rs with
   |some vs=>some (v::vs)
   |none=>none
  |none=>none
 |(t,some n)::rs=>match geQ e t with
  |some a=>match pP h n a with
   |some v=>match MF h e rs with
    |some vs=>some (v::vs)
    |none=>none
   |none=>none
  |none=>none
theorem lT:MF=bL:=by
 funext h e l;induction l with
 |nil=>rfl
 |cons p l ih=>
  obtain⟨t,n⟩:=p;cases n<;>(simp only[MF,bL,j8,ih];rfl)
def KK(l:dZ)(x y:Value):Option Bool:=
 match l with
 | .i q=>match x with
   | .int k a=>match y with
     | .int k' b=>bif kEq k q&&kEq k' q then some (iEq a b)else none
     |_=>none
   |_=>none
 |l=>iG l x y
theorem KL:KK=iG:=by
 funext l x y;unfold KK;split
 ·rename_i q;split
  ·rename_i k a;split
   ·rename_i k' b;simp only[iG,AP,Eu,cond_eq_ite,ed,decide_eq_true_eq];by_cases h1:k=q<;>by_cases h2:k'=q<;>simp[h1,h2]
   ·rename_i hy;cases y<;>first|rfl|exact(hy _ _ rfl).elim
  ·rename_i hx;cases x<;>first|rfl|exact(hx _ _ rfl).elim
 ·rfl
def oz:List dZ->List Value->List Value->Option Bool
 |[],[],[]=>some true
 |l::ls,x::xs,y::ys=>match KK l x y with
  |some true=>oz ls xs ys
  |some false=>match oz ls xs ys with
   |some _=>some false
   |none=>none
  |none=>none
 |_,_,_=>none
theorem aL:oz=bF:=by
 funext ls;induction ls with
 |nil=>funext xs ys;cases xs<;>cases ys<;>rfl
 |cons l ls ih=>
  funext xs ys;cases xs<;>cases ys<;>first|rfl|(simp only[oz,bF,KL,ih];rfl)
def rP(ag:Bool)(ls:List dZ)(k:Value):Bool:=
 match rM k==ag,oz ls (cellsOf k) (cellsOf k)with
 |true,some _=>true
 |_,_=>false
theorem aU:rP=jr:=by funext ag ls k;(simp only[rP,jr,aL];rfl)
def ED(ag:Bool)(ls:List dZ)(k k':Value):Option Bool:=
 match rM k'==ag with
 |true=>oz ls (cellsOf k) (cellsOf k')
 |false=>none
theorem HF:ED=oS:=by funext ag ls k k';(simp only[ED,oS,aL];rfl)
def zG(ag:Bool)(ls:List dZ)(k:Value):Nat->List (Value×Value)->Option (Option (Nat×Value))
 |_,[]=>some none
 |i,(k',v)::es=>match ED ag ls k k' with
  |some true=>some (some (i,v))
  |some false=>zG ag ls k (i+1) es
  |none=>none
theorem bw:zG=mu:=by
 funext ag ls k i es;induction es generalizing i with
 |nil=>rfl
 |cons p es ih=>obtain⟨a,b⟩:=p;(simp only[zG,mu,HF,ih];rfl)
def BB(x y:Value):Bool:=
 match x with
 | .int k a=>match y with
   | .int k' b=>kEq k k'&&iEq a b
   |_=>false
 |x=>jw x y
theorem Ab:BB=jw:=by
 funext x y;unfold BB;split
 ·rename_i k a;split
  ·rename_i k' b;simp only[jw,AP,Eu];by_cases h:k=k'<;>simp[h]
  ·rename_i hy;cases y<;>first|rfl|exact(hy _ _ rfl).elim
 ·rfl
def KQ(h:Heap)(n:Option Nat):Value->Option Value
 | .pointer (some ⟨b,o,none⟩)=>match nk h b with
   |some (.cells vs _ _)=>match n with
    |none=>bK vs o
    |some n=>let l:=cG n (cw o vs);bif Nat.beq (cF l) n then some (.agg l.toArray)else none
   |_=>none
 |_=>none
def Ft(h:Heap)(base n:Nat)(v:Value):Value->Option Heap
 | .pointer (some ⟨b,o,none⟩)=>match nk h b with
   |some (.cells vs true sz)=>bif Nat.beq (cF (cellsOf v)) n&&Nat.ble (o+n) (cF vs)&&eC (cellsOf v)then some (wrQ h base b (.cells (cW vs o (cellsOf v)) true sz))else none
   |_=>none
 |_=>none
def Em(h:Heap)(e:Env)(dflt:Nat):Option Operand->Option Nat
 |none=>some dflt
 |some x=>match evQ h e x with
  |some v=>pQ v
  |none=>none
def BF(h:Heap)(e:Env)(size:Nat)(a:Option Addr)(len cap:Nat)(lo hi mx:Option Operand):Option (Value×Heap):=
 match Em h e 0 lo,Em h e len hi with
 |some l,some u=>
  match mx with
  |some _=>match Em h e 0 mx with
   |some m=>bif Nat.ble l u&&Nat.ble u m&&Nat.ble m (bif Nat.beq cap UNK then len else cap)&&Nat.blt m UNK then
    some (.slice (bif Nat.beq m l then a else match a with|some ⟨b,o,none⟩=>some ⟨b,o+l*size,none⟩|a=>a) (u-l) (m-l),h)
    else none
   |none=>none
  |none=>
   bif Nat.beq cap UNK then
    match a with
    |some ⟨b,o,none⟩=>match nk h b with
     |some (.cells vs _ sz)=>
      bif Nat.beq sz size&&Nat.ble l u&&(Nat.ble u len||Nat.ble (o+u*size) (cF vs))then
       bif Nat.blt l len||Nat.blt l u then some (.slice (some ⟨b,o+l*size,none⟩) (u-l) UNK,h)
       else bif Nat.beq l 0 then some (.slice (some ⟨b,o,none⟩) 0 UNK,h)
       else some (.slice (some ⟨h.next,0,none⟩) 0 UNK,h.push (.cells [] false size))
      else none
     |_=>none
    |_=>none
   else bif Nat.ble l u&&Nat.ble u cap then
    some (.slice (bif Nat.beq cap l then a else match a with|some ⟨b,o,none⟩=>some ⟨b,o+l*size,none⟩|a=>a) (u-l) (cap-l),h)
    else none
 |_,_=>none
def P4(h:Heap)(size:Nat):Value->Option (List Value×Nat)
 | .slice none n _=>bif Nat.beq n 0 then some ([],0)else none
 | .slice (some ⟨b,o,none⟩) n _=>match nk h b with
   |some (.cells vs _ _)=>let l:=cG (n*size) (cw o vs);bif Nat.beq (cF l) (n*size)then some (l,n)else none
   |_=>none
 | .slice (some ⟨_,_,some _⟩) n _=>bif Nat.beq n 0 then some ([],0)else none
 | .string s=>bif Nat.beq size 1 then some (s.data.toList.map λb=> .int .u8 b.toNat,s.size)else none
 |_=>none
def vo(h:Heap)(base size bytes:Nat)(s:Value)(new:List Value)(n:Nat):Option (Value×Heap):=
 match s with
 | .slice a len cap=>
   bif Nat.beq n 0 then(bif Nat.ble len cap then some (s,h)else none)else
   bif Nat.ble ((2*(len+n)+768)*bytes) 281474976710656 then
    match a with
    |none=>bif Nat.beq len 0&&Nat.beq cap 0 then some (.slice (some ⟨h.next,0,none⟩) n UNK,h.push (.cells new true size))else none
    |some ⟨b,o,none⟩=>match nk h b with
     |some (.cells vs own sz)=>
      bif Nat.beq cap UNK then
       bif own&&Nat.beq sz size then
        bif Nat.ble (o+(len+n)*size) (cF vs)&&eC new then
         some (.slice (some ⟨b,o,none⟩) (len+n) UNK,wrQ h base b (.cells (cW vs (o+len*size) new) true sz))
        else bif Nat.beq o 0&&Nat.beq (len*size) (cF vs)&&eC new then
         some (.slice (some ⟨h.next,0,none⟩) (len+n) UNK,(wrQ h base b .dead).push (.cells (dP vs new) true size))
        else none
       else none
      else bif Nat.ble (len+n) cap then
       bif own&&Nat.ble (o+(len+n)*size) (cF vs)&&eC new then
        some (.slice (some ⟨b,o,none⟩) (len+n) cap,wrQ h base b (.cells (cW vs (o+len*size) new) true sz))
       else none
      else bif Nat.ble (o+len*size) (cF vs)then
       some (.slice (some ⟨h.next,0,none⟩) (len+n) UNK,h.push (.cells (dP (cG (len*size) (cw o vs)) new) true size))
      else none
     |_=>none
    |_=>none
   else none
 |_=>none
theorem aZ:KQ=pP:=by
 funext h n v;unfold KQ pP;simp only[bV,bB,bt,bU,bw,aU,aL,bC,bZ];rfl
theorem bh:Ft=sB:=by
 funext h base n v x;unfold Ft sB;simp only[bV,bB,bt,bU,bw,aU,aL,bC,bZ];rfl
theorem ct:Em=bnd:=by
 funext h e d x;unfold Em bnd;simp only[bV,bB,bt,bU,bw,aU,aL,bC,bZ];rfl
theorem bg:BF=iM:=by
 funext h e size a len cap lo hi mx;unfold BF iM;simp only[bV,bB,bt,bU,bw,aU,aL,bC,bZ,ct];rfl
theorem cD:P4=dn:=by
 funext h size v;unfold P4 dn;simp only[bV,bB,bt,bU,bw,aU,aL,bC,bZ];rfl
theorem aT:vo=jj:=by
 funext h base size bytes s new n;unfold vo jj;simp only[bV,bB,bt,bU,bw,aU,aL,bC,bZ];rfl
def Mo(h:Heap)(base:Nat)(e:Env)(x:Operand):Option cU:=cO (evQ h e x) λv=>some (.val v h)
def Fa(h:Heap)(base:Nat)(e:Env)(c:Operand)(a:Operand)(b:Operand):Option cU:=match evQ h e c with
 |some (.bool true)=>cO (evQ h e a) λv=>some (.val v h)
 |some (.bool false)=>cO (evQ h e b) λv=>some (.val v h)
 |_=>none
def Mp(h:Heap)(base:Nat)(e:Env)(z:List Value):Option cU:=some (.val (.pointer (some ⟨h.next,0,none⟩)) (h.push (.cells z true 1)))
def Mm(h:Heap)(base:Nat)(e:Env)(x:Operand):Option cU:=cO (evQ h e x) λv=>some (.val (.pointer (some ⟨h.next,0,none⟩)) (h.push (.cells (cellsOf v) true 1)))
def Bh(h:Heap)(base:Nat)(e:Env)(z:List Value)(ps:List (Nat×Nat×Operand)):Option cU:=match CE h e z ps with
 |some cs=>some (.val (.agg cs.toArray) h)
 |none=>none
def xI(h:Heap)(base:Nat)(e:Env)(z:List Value)(n:Nat)(ps:List (Nat×Nat×Operand)):Option cU:=match CE h e (eW n z) ps with
 |some cs=>some (.val (.slice (some ⟨h.next,0,none⟩) n n) (h.push (.cells cs true (cF z))))
 |none=>none
def E8(h:Heap)(base:Nat)(e:Env)(n:Option Nat)(a:Operand):Option cU:=cO (evQ h e a) λa=>cO (KQ h n a) λv=>some (.val v h)
def Br(h:Heap)(base:Nat)(e:Env)(n:Nat)(a:Operand)(v:Operand):Option cU:=cO (evQ h e a) λa=>cO (evQ h e v) λv=>match Ft h base n v a with
 |some h'=>some (.val (.tuple #[]) h')
 |none=>none
def xS(h:Heap)(base:Nat)(e:Env)(x:Operand):Option cU:=cO (evQ h e x) λv=>match v with
 | .pointer none| .nilIface| .nilFunc=>none
 | .func (.method _) _ _=>none
 |v=>some (.val v h)
def Ml(h:Heap)(base:Nat)(e:Env):Ee->Operand->Operand->Option cU
 |(.num op),x,y=>cO (evQ h e x) λx=>cO (evQ h e y) λy=>cO (Ss op x y) λv=>some (.val v h)
 |(.beq neq),x,y=>match evQ h e x,evQ h e y with
  |some (.bool a),some (.bool b)=>some (.val (.bool (bif neq then !(a==b)else a==b)) h)
  |_,_=>none
 |(.nil k neq),x,y=>cO (evQ h e x) λx=>cO (evQ h e y) λy=>match pS k x y with
  |some b=>some (.val (.bool (bif neq then !b else b)) h)
  |none=>none
 |(.agg neq ls),x,y=>cO (evQ h e x) λx=>cO (evQ h e y) λy=>match x,y with
  | .agg xs, .agg ys=>match oz ls xs.toList ys.toList with
    |some b=>some (.val (.bool (bif neq then !b else b)) h)
    |none=>none
  |_,_=>none
def S7(h:Heap)(base:Nat)(e:Env)(op:UnOp)(x:Operand):Option cU:=cO (evQ h e x) λx=>cO (yp op x) λv=>some (.val v h)
def EZ(h:Heap)(base:Nat)(e:Env)(c:Cv)(x:Operand):Option cU:=cO (evQ h e x) λx=>fH (qZ h c x)
def uo(h:Heap)(base:Nat)(e:Env)(t:TypeId)(x:Operand):Option cU:=cO (evQ h e x) λv=>some (.val (.iface t v) h)
def xR(h:Heap)(base:Nat)(e:Env)(fn:Fn)(fs:List Operand)(cs:List Operand):Option cU:=match CD h e fs,CD h e cs with
 |some fs,some cs=>some (.val (.func fn fs.toArray cs.toArray) h)
 |_,_=>none
def Bn(h:Heap)(base:Nat)(e:Env):Option cU:=some (.val (.map (some h.next)) (h.push (.map [])))
def uq(h:Heap)(base:Nat)(e:Env)(z:List Value)(bytes:Nat)(l:Operand)(c:Operand):Option cU:=match evQ h e l,evQ h e c with
 |some l,some c=>match pQ l,pQ c with
  |some l,some c=>bif Nat.ble l c&&Nat.ble (bytes*c) 281474976710656&&Nat.blt c UNK then
   some (.val (.slice (some ⟨h.next,0,none⟩) l c) (h.push (.cells (eW c z) true (cF z))))
   else none
  |_,_=>none
 |_,_=>none
def Bq(h:Heap)(base:Nat)(e:Env):ASl->Operand->Option Operand->Option Operand->Option Operand->Option cU
 | .str,x,lo,hi,none=>match evQ h e x with
   |some (.string s)=>match Em h e 0 lo,Em h e s.size hi with
    |some l,some u=>bif Nat.ble l u&&Nat.ble u s.size then some (.val (.string (s.extract l u)) h)else none
    |_,_=>none
   |_=>none
 |(.sl size),x,lo,hi,mx=>match evQ h e x with
  |some (.slice a len cap)=>fH (BF h e size a len cap lo hi mx)
  |_=>none
 |(.arr n size),x,lo,hi,mx=>match evQ h e x with
  |some (.pointer (some a))=>fH (BF h e size (some a) n n lo hi mx)
  |_=>none
 | .str,_,_,_,(some _)=>none
def Bk(h:Heap)(base:Nat)(e:Env)(off:Nat)(x:Operand):Option cU:=match evQ h e x with
 |some (.pointer (some ⟨b,o,none⟩))=>some (.val (.pointer (some ⟨b,o+off,none⟩)) h)
 |_=>none
def Bl(h:Heap)(base:Nat)(e:Env)(off:Nat)(n:Option Nat)(x:Operand):Option cU:=match evQ h e x with
 |some (.agg cs)=>match n with
  |none=>cO (bK cs.toList off) λv=>some (.val v h)
  |some n=>let l:=cG n (cw off cs.toList);bif Nat.beq (cF l) n then some (.val (.agg l.toArray) h)else none
 |_=>none
def xK(h:Heap)(base:Nat)(e:Env)(len:Nat)(size:Nat)(x:Operand)(i:Operand):Option cU:=match evQ h e x,evQ h e i with
 |some (.pointer (some ⟨b,o,none⟩)),some (.int _ (.ofNat i))=>bif Nat.blt i len then some (.val (.pointer (some ⟨b,o+i*size,none⟩)) h)else none
 |_,_=>none
def xL(h:Heap)(base:Nat)(e:Env)(size:Nat)(x:Operand)(i:Operand):Option cU:=match evQ h e x,evQ h e i with
 |some (.slice (some ⟨b,o,none⟩) len _),some (.int _ (.ofNat i))=>bif Nat.blt i len then some (.val (.pointer (some ⟨b,o+i*size,none⟩)) h)else none
 |_,_=>none
def E6(h:Heap)(base:Nat)(e:Env)(len:Nat)(size:Nat)(n:Option Nat)(x:Operand)(i:Operand):Option cU:=match evQ h e x,evQ h e i with
 |some (.agg cs),some (.int _ (.ofNat i))=>bif Nat.blt i len then
  match n with
  |none=>cO (bK cs.toList (i*size)) λv=>some (.val v h)
  |some n=>let l:=cG n (cw (i*size) cs.toList);bif Nat.beq (cF l) n then some (.val (.agg l.toArray) h)else none
  else none
 |_,_=>none
def E7(h:Heap)(base:Nat)(e:Env)(x:Operand)(i:Operand):Option cU:=match evQ h e x,evQ h e i with
 |some (.string s),some (.int _ (.ofNat i))=>match bK s.data.toList i with
  |some b=>some (.val (.int .u8 b.toNat) h)
  |none=>none
 |_,_=>none
def xO(h:Heap)(base:Nat)(e:Env)(ag:Bool)(ls:List dZ)(z:Value)(ok:Bool)(m:Operand)(k:Operand):Option cU:=match evQ h e m,evQ h e k with
 |some (.map none),some k=>bif rP ag ls k then some (.val (bif ok then .tuple #[z, .bool false]else z) h)else none
 |some (.map (some r)),some k=>match rT (nk h r)with
  |some es=>bif rP ag ls k then match zG ag ls k 0 es with
   |some (some (_,v))=>some (.val (bif ok then .tuple #[v, .bool true]else v) h)
   |some none=>some (.val (bif ok then .tuple #[z, .bool false]else z) h)
   |none=>none else none
  |none=>none
 |_,_=>none
def Bm(h:Heap)(base:Nat)(e:Env)(ag:Bool)(ls:List dZ)(m:Operand)(k:Operand)(v:Operand):Option cU:=match evQ h e m,evQ h e k,evQ h e v with
 |some (.map (some r)),some k,some v=>match nk h r with
  |some (.map es)=>bif rP ag ls k then match zG ag ls k 0 es with
   |some (some (i,_))=>some (.val (.tuple #[]) (wrQ h base r (.map (rS es i (k,v)))))
   |some none=>some (.val (.tuple #[]) (wrQ h base r (.map (dP es [(k,v)]))))
   |none=>none else none
  |_=>none
 |_,_,_=>none
def uu(h:Heap)(base:Nat)(e:Env)(t:TypeId)(ok:Bool)(z:Value)(x:Operand):Option cU:=match evQ h e x with
 |some .nilIface=>bif ok then some (.val (.tuple #[z, .bool false]) h)else none
 |some (.iface t' v)=>if t'=t then some (.val (bif ok then .tuple #[v, .bool true]else v) h)
  else bif ok then some (.val (.tuple #[z, .bool false]) h)else none
 |_=>none
def um(h:Heap)(base:Nat)(e:Env)(t:Operand)(i:Nat):Option cU:=match evQ h e t with
 |some (.tuple vs)=>cO (bK vs.toList i) λv=>some (.val v h)
 |_=>none
def EY(h:Heap)(base:Nat)(e:Env)(f:Operand)(args:List Operand):Option cU:=match evQ h e f,CD h e args with
 |some f,some args=>pG f args h
 |_,_=>none
def xM(h:Heap)(base:Nat)(e:Env):Nat->Operand->Option cU
 |0,x=>match evQ h e x with
  |some (.string s)=>some (.val (.int .i64 s.size) h)
  |_=>none
 |1,x=>match evQ h e x with
  |some (.slice _ n _)=>some (.val (.int .i64 n) h)
  |_=>none
 |_,x=>match evQ h e x with
  |some (.map none)=>some (.val (.int .i64 0) h)
  |some (.map (some r))=>match rT (nk h r)with
   |some es=>some (.val (.int .i64 (cF es)) h)
   |none=>none
  |_=>none
def xN(h:Heap)(base:Nat)(e:Env)(n:Nat):Option cU:=some (.val (.int .i64 n) h)
def Mn(h:Heap)(base:Nat)(e:Env)(x:Operand):Option cU:=match evQ h e x with
 |some (.slice _ _ c)=>bif Nat.beq c UNK then none else some (.val (.int .i64 c) h)
 |_=>none
def xH(h:Heap)(base:Nat)(e:Env)(size:Nat)(bytes:Nat)(s:Operand)(x:Operand):Option cU:=match evQ h e s,evQ h e x with
 |some s,some x=>match P4 h size x with
  |some (l,n)=>fH (vo h base size bytes s l n)
  |none=>none
 |_,_=>none
def uk(h:Heap)(base:Nat)(e:Env)(z:List Value)(bytes:Nat)(s:Operand)(n:Operand):Option cU:=match evQ h e s,evQ h e n with
 |some s,some n=>match pQ n with
  |some n=>bif Nat.blt n 9223372036854775808&&Nat.ble (n*bytes) 281474976710656 then fH (vo h base (cF z) bytes s (eW n z) n)else none
  |none=>none
 |_,_=>none
def E3(h:Heap)(base:Nat)(e:Env)(size:Nat)(d:Operand)(s:Operand):Option cU:=match evQ h e d,evQ h e s with
 |some (.slice a dl _),some s=>match P4 h size s with
  |some (l,n)=>
   let m:=Nat.min n dl
   match a with
   |none=>some (.val (.int .i64 m) h)
   |some ⟨b,o,none⟩=>match nk h b with
    |some (.cells vs true sz)=>bif Nat.ble (o+m*size) (cF vs)&&eC (cG (m*size) l)then
     some (.val (.int .i64 m) (wrQ h base b (.cells (cW vs o (cG (m*size) l)) true sz)))
     else none
    |_=>none
   |_=>none
  |none=>none
 |_,_=>none
def Bi(h:Heap)(base:Nat)(e:Env)(z:List Value)(x:Operand):Option cU:=match evQ h e x with
 |some (.slice a n _)=>
  bif Nat.beq n 0 then some (.val (.tuple #[]) h)else
  match a with
  |none=>some (.val (.tuple #[]) h)
  |some ⟨b,o,none⟩=>match nk h b with
   |some (.cells vs true sz)=>bif Nat.ble (o+cF (eW n z)) (cF vs)&&eC (eW n z)then some (.val (.tuple #[]) (wrQ h base b (.cells (cW vs o (eW n z)) true sz)))else none
   |_=>none
  |_=>none
 |_=>none
def xQ(h:Heap)(base:Nat)(e:Env)(mx:Bool)(args:List Operand):Option cU:=match CD h e args with
 |some (x::l)=>cO (mmA mx x l) λv=>some (.val v h)
 |_=>none
def xJ(h:Heap)(base:Nat)(e:Env)(ag:Bool)(ls:List dZ)(m:Operand)(k:Operand):Option cU:=match evQ h e m,evQ h e k with
 |some (.map (some r)),some k=>match nk h r with
  |some (.map es)=>bif rP ag ls k then match zG ag ls k 0 es with
   |some (some (i,_))=>some (.val (.tuple #[]) (wrQ h base r (.map (CZ es i))))
   |some none=>some (.val (.tuple #[]) (wrQ h base r (.map es)))
   |none=>none else none
  |_=>none
 |some (.map none),some k=>bif rP ag ls k then some (.val (.tuple #[]) h)else none
 |_,_=>none
def E4(h:Heap)(base:Nat)(e:Env)(f:Operand)(args:List Operand):Option cU:=match evQ h e f,CD h e args with
 |some (.func (.func g) first cap),some args=>some (.jI (.func (.func g) first cap) args)
 |_,_=>none
def ur(h:Heap)(base:Nat)(e:Env):Option cU:=some .recover
def Fb(h:Heap)(base:Nat)(e:Env)(x:Operand):Option cU:=cO (evQ h e x) λv=>match v with
 | .iface _ _=>some (.panic v h)
 |_=>none
def Bp(h:Heap)(base:Nat)(e:Env)(x:Operand):Option cU:=match evQ h e x with
 |some (.string s)=>some (.val (.pointer (some ⟨h.next,0,none⟩)) (h.push (.lN s 0)))
 |_=>none
def E9(h:Heap)(base:Nat)(e:Env):Operand->Bool->Option cU
 |x,true=>match evQ h e x with
  |some (.pointer (some ⟨r,0,none⟩))=>match nk h r with
   |some (.lN s pos)=>bif Nat.blt pos s.size then
    let d:=Utf8.decode s pos
    some (.val (.tuple #[.bool true, .int .i64 pos, .int .i32 d.1]) (wrQ h base r (.lN s (pos+d.2))))
    else some (.val (.tuple #[.bool false]) h)
   |_=>none
  |_=>none
 |_,false=>none
def xT(h:Heap)(base:Nat)(e:Env)(_:Operand):Option cU:=none
def Bj(h:Heap)(base:Nat)(e:Env)(_:Operand):Option cU:=none
def VV(x0:Operand)(h:Heap)(base:Nat)(e:Env):Option cU:=Mo h base e x0
def Tg(x0:Operand)(x1:Operand)(x2:Operand)(h:Heap)(base:Nat)(e:Env):Option cU:=Fa h base e x0 x1 x2
def VW(x0:List Value)(h:Heap)(base:Nat)(e:Env):Option cU:=Mp h base e x0
def VS(x0:Operand)(h:Heap)(base:Nat)(e:Env):Option cU:=Mm h base e x0
def Pw(x0:List Value)(x1:List (Nat×Nat×Operand))(h:Heap)(base:Nat)(e:Env):Option cU:=Bh h base e x0 x1
def Mt(x0:List Value)(x1:Nat)(x2:List (Nat×Nat×Operand))(h:Heap)(base:Nat)(e:Env):Option cU:=xI h base e x0 x1 x2
def Te(x0:Option Nat)(x1:Operand)(h:Heap)(base:Nat)(e:Env):Option cU:=E8 h base e x0 x1
def PF(x0:Nat)(x1:Operand)(x2:Operand)(h:Heap)(base:Nat)(e:Env):Option cU:=Br h base e x0 x1 x2
def MC(x0:Operand)(h:Heap)(base:Nat)(e:Env):Option cU:=xS h base e x0
def VQ(x0:Ee)(x1:Operand)(x2:Operand)(h:Heap)(base:Nat)(e:Env):Option cU:=Ml h base e x0 x1 x2
def XX(x0:UnOp)(x1:Operand)(h:Heap)(base:Nat)(e:Env):Option cU:=S7 h base e x0 x1
def S9(x0:Cv)(x1:Operand)(h:Heap)(base:Nat)(e:Env):Option cU:=EZ h base e x0 x1
def Ip(x0:TypeId)(x1:Operand)(h:Heap)(base:Nat)(e:Env):Option cU:=uo h base e x0 x1
def MB(x0:Fn)(x1:List Operand)(x2:List Operand)(h:Heap)(base:Nat)(e:Env):Option cU:=xR h base e x0 x1 x2
def PC(h:Heap)(base:Nat)(e:Env):Option cU:=Bn h base e
def Iq(x0:List Value)(x1:Nat)(x2:Operand)(x3:Operand)(h:Heap)(base:Nat)(e:Env):Option cU:=uq h base e x0 x1 x2 x3
def PE(x0:ASl)(x1:Operand)(x2:Option Operand)(x3:Option Operand)(x4:Option Operand)(h:Heap)(base:Nat)(e:Env):Option cU:=Bq h base e x0 x1 x2 x3 x4
def Pz(x0:Nat)(x1:Operand)(h:Heap)(base:Nat)(e:Env):Option cU:=Bk h base e x0 x1
def PA(x0:Nat)(x1:Option Nat)(x2:Operand)(h:Heap)(base:Nat)(e:Env):Option cU:=Bl h base e x0 x1 x2
def Mw(x0:Nat)(x1:Nat)(x2:Operand)(x3:Operand)(h:Heap)(base:Nat)(e:Env):Option cU:=xK h base e x0 x1 x2 x3
def Mx(x0:Nat)(x1:Operand)(x2:Operand)(h:Heap)(base:Nat)(e:Env):Option cU:=xL h base e x0 x1 x2
def Tc(x0:Nat)(x1:Nat)(x2:Option Nat)(x3:Operand)(x4:Operand)(h:Heap)(base:Nat)(e:Env):Option cU:=E6 h base e x0 x1 x2 x3 x4
def Td(x0:Operand)(x1:Operand)(h:Heap)(base:Nat)(e:Env):Option cU:=E7 h base e x0 x1
def Mz(x0:Bool)(x1:List dZ)(x2:Value)(x3:Bool)(x4:Operand)(x5:Operand)(h:Heap)(base:Nat)(e:Env):Option cU:=xO h base e x0 x1 x2 x3 x4 x5
def PB(x0:Bool)(x1:List dZ)(x2:Operand)(x3:Operand)(x4:Operand)(h:Heap)(base:Nat)(e:Env):Option cU:=Bm h base e x0 x1 x2 x3 x4
def Is(x0:TypeId)(x1:Bool)(x2:Value)(x3:Operand)(h:Heap)(base:Nat)(e:Env):Option cU:=uu h base e x0 x1 x2 x3
def Io(x0:Operand)(x1:Nat)(h:Heap)(base:Nat)(e:Env):Option cU:=um h base e x0 x1
def S8(x0:Operand)(x1:List Operand)(h:Heap)(base:Nat)(e:Env):Option cU:=EY h base e x0 x1
def VU(x0:Nat)(x1:Operand)(h:Heap)(base:Nat)(e:Env):Option cU:=xM h base e x0 x1
def My(x0:Nat)(h:Heap)(base:Nat)(e:Env):Option cU:=xN h base e x0
def VT(x0:Operand)(h:Heap)(base:Nat)(e:Env):Option cU:=Mn h base e x0
def Ms(x0:Nat)(x1:Nat)(x2:Operand)(x3:Operand)(h:Heap)(base:Nat)(e:Env):Option cU:=xH h base e x0 x1 x2 x3
def Im(x0:List Value)(x1:Nat)(x2:Operand)(x3:Operand)(h:Heap)(base:Nat)(e:Env):Option cU:=uk h base e x0 x1 x2 x3
def Ta(x0:Nat)(x1:Operand)(x2:Operand)(h:Heap)(base:Nat)(e:Env):Option cU:=E3 h base e x0 x1 x2
def Px(x0:List Value)(x1:Operand)(h:Heap)(base:Nat)(e:Env):Option cU:=Bi h base e x0 x1
def MA(x0:Bool)(x1:List Operand)(h:Heap)(base:Nat)(e:Env):Option cU:=xQ h base e x0 x1
def Mv(x0:Bool)(x1:List dZ)(x2:Operand)(x3:Operand)(h:Heap)(base:Nat)(e:Env):Option cU:=xJ h base e x0 x1 x2 x3
def Tb(x0:Operand)(x1:List Operand)(h:Heap)(base:Nat)(e:Env):Option cU:=E4 h base e x0 x1
def Ir(h:Heap)(base:Nat)(e:Env):Option cU:=ur h base e
def Th(x0:Operand)(h:Heap)(base:Nat)(e:Env):Option cU:=Fb h base e x0
def PD(x0:Operand)(h:Heap)(base:Nat)(e:Env):Option cU:=Bp h base e x0
def Tf(x0:Operand)(x1:Bool)(h:Heap)(base:Nat)(e:Env):Option cU:=E9 h base e x0 x1
def MD(x0:Operand)(h:Heap)(base:Nat)(e:Env):Option cU:=xT h base e x0
def Py(x0:Operand)(h:Heap)(base:Nat)(e:Env):Option cU:=Bj h base e x0
def WI(o:AOp):Heap->Nat->Env->Option cU:=AOp.rec (motive:=λ_=>Heap->Nat->Env->Option cU) VV Tg VW VS Pw Mt Te PF MC VQ XX S9 Ip MB PC Iq PE Pz PA Mw Mx Tc Td Mz PB Is Io S8 VU My VT Ms Im Ta Px MA Mv Tb Ir Th PD Tf MD Py o
def Ek(h:Heap)(base:Nat)(e:Env)(o:AOp):Option cU:=WI o h base e
theorem kF:Ek=aop:=by
 funext h base e o;cases o;case mov x0=>show Mo h base e x0=_;first|rfl|(unfold Mo;simp only[bV,bB,bt,bU,bw,aU,aL,bC,bZ,ct,aZ,bh,bg,cD,aT];rfl)
 case pick x0 x1 x2=>show Fa h base e x0 x1 x2=_;first|rfl|(unfold Fa;simp only[bV,bB,bt,bU,bw,aU,aL,bC,bZ,ct,aZ,bh,bg,cD,aT];rfl)
 case new x0=>show Mp h base e x0=_;first|rfl|(unfold Mp;simp only[bV,bB,bt,bU,bw,aU,aL,bC,bZ,ct,aZ,bh,bg,cD,aT];rfl)
 case box x0=>show Mm h base e x0=_;first|rfl|(unfold Mm;simp only[bV,bB,bt,bU,bw,aU,aL,bC,bZ,ct,aZ,bh,bg,cD,aT];rfl)
 case build x0 x1=>show Bh h base e x0 x1=_;first|rfl|(unfold Bh;simp only[bV,bB,bt,bU,bw,aU,aL,bC,bZ,ct,aZ,bh,bg,cD,aT];rfl)
 case dw x0 x1 x2=>show xI h base e x0 x1 x2=_;first|rfl|(unfold xI;simp only[bV,bB,bt,bU,bw,aU,aL,bC,bZ,ct,aZ,bh,bg,cD,aT];rfl)
 case load x0 x1=>show E8 h base e x0 x1=_;first|rfl|(unfold E8;simp only[bV,bB,bt,bU,bw,aU,aL,bC,bZ,ct,aZ,bh,bg,cD,aT];rfl)
 case store x0 x1 x2=>show Br h base e x0 x1 x2=_;first|rfl|(unfold Br;simp only[bV,bB,bt,bU,bw,aU,aL,bC,bZ,ct,aZ,bh,bg,cD,aT];rfl)
 case cg x0=>show xS h base e x0=_;first|rfl|(unfold xS;simp only[bV,bB,bt,bU,bw,aU,aL,bC,bZ,ct,aZ,bh,bg,cD,aT];rfl)
 case un x0 x1=>show S7 h base e x0 x1=_;first|rfl|(unfold S7;simp only[bV,bB,bt,bU,bw,aU,aL,bC,bZ,ct,aZ,bh,bg,cD,aT];rfl)
 case conv x0 x1=>show EZ h base e x0 x1=_;first|rfl|(unfold EZ;simp only[bV,bB,bt,bU,bw,aU,aL,bC,bZ,ct,aZ,bh,bg,cD,aT];rfl)
 case iK x0 x1=>show uo h base e x0 x1=_;first|rfl|(unfold uo;simp only[bV,bB,bt,bU,bw,aU,aL,bC,bZ,ct,aZ,bh,bg,cD,aT];rfl)
 case dV x0 x1 x2=>show xR h base e x0 x1 x2=_;first|rfl|(unfold xR;simp only[bV,bB,bt,bU,bw,aU,aL,bC,bZ,ct,aZ,bh,bg,cD,aT];rfl)
 case mkMap=>show Bn h base e=_;first|rfl|(unfold Bn;simp only[bV,bB,bt,bU,bw,aU,aL,bC,bZ,ct,aZ,bh,bg,cD,aT];rfl)
 case mkSlice x0 x1 x2 x3=>show uq h base e x0 x1 x2 x3=_;first|rfl|(unfold uq;simp only[bV,bB,bt,bU,bw,aU,aL,bC,bZ,ct,aZ,bh,bg,cD,aT];rfl)
 case dz x0 x1=>show Bk h base e x0 x1=_;first|rfl|(unfold Bk;simp only[bV,bB,bt,bU,bw,aU,aL,bC,bZ,ct,aZ,bh,bg,cD,aT];rfl)
 case field x0 x1 x2=>show Bl h base e x0 x1 x2=_;first|rfl|(unfold Bl;simp only[bV,bB,bt,bU,bw,aU,aL,bC,bZ,ct,aZ,bh,bg,cD,aT];rfl)
 case dB x0 x1 x2 x3=>show xK h base e x0 x1 x2 x3=_;first|rfl|(unfold xK;simp only[bV,bB,bt,bU,bw,aU,aL,bC,bZ,ct,aZ,bh,bg,cD,aT];rfl)
 case aQ x0 x1 x2=>show xL h base e x0 x1 x2=_;first|rfl|(unfold xL;simp only[bV,bB,bt,bU,bw,aU,aL,bC,bZ,ct,aZ,bh,bg,cD,aT];rfl)
 case rL x0 x1 x2 x3 x4=>show E6 h base e x0 x1 x2 x3 x4=_;first|rfl|(unfold E6;simp only[bV,bB,bt,bU,bw,aU,aL,bC,bZ,ct,aZ,bh,bg,cD,aT];rfl)
 case jC x0 x1=>show E7 h base e x0 x1=_;first|rfl|(unfold E7;simp only[bV,bB,bt,bU,bw,aU,aL,bC,bZ,ct,aZ,bh,bg,cD,aT];rfl)
 case lookup x0 x1 x2 x3 x4 x5=>show xO h base e x0 x1 x2 x3 x4 x5=_;first|rfl|(unfold xO;simp only[bV,bB,bt,bU,bw,aU,aL,bC,bZ,ct,aZ,bh,bg,cD,aT];rfl)
 case mE x0 x1 x2 x3 x4=>show Bm h base e x0 x1 x2 x3 x4=_;first|rfl|(unfold Bm;simp only[bV,bB,bt,bU,bw,aU,aL,bC,bZ,ct,aZ,bh,bg,cD,aT];rfl)
 case jT x0 x1 x2 x3=>show uu h base e x0 x1 x2 x3=_;first|rfl|(unfold uu;simp only[bV,bB,bt,bU,bw,aU,aL,bC,bZ,ct,aZ,bh,bg,cD,aT];rfl)
 case extract x0 x1=>show um h base e x0 x1=_;first|rfl|(unfold um;simp only[bV,bB,bt,bU,bw,aU,aL,bC,bZ,ct,aZ,bh,bg,cD,aT];rfl)
 case call x0 x1=>show EY h base e x0 x1=_;first|rfl|(unfold EY;simp only[bV,bB,bt,bU,bw,aU,aL,bC,bZ,ct,aZ,bh,bg,cD,aT];rfl)
 case j9 x0=>show xN h base e x0=_;first|rfl|(unfold xN;simp only[bV,bB,bt,bU,bw,aU,aL,bC,bZ,ct,aZ,bh,bg,cD,aT];rfl)
 case cap x0=>show Mn h base e x0=_;first|rfl|(unfold Mn;simp only[bV,bB,bt,bU,bw,aU,aL,bC,bZ,ct,aZ,bh,bg,cD,aT];rfl)
 case append x0 x1 x2 x3=>show xH h base e x0 x1 x2 x3=_;first|rfl|(unfold xH;simp only[bV,bB,bt,bU,bw,aU,aL,bC,bZ,ct,aZ,bh,bg,cD,aT];rfl)
 case kG x0 x1 x2 x3=>show uk h base e x0 x1 x2 x3=_;first|rfl|(unfold uk;simp only[bV,bB,bt,bU,bw,aU,aL,bC,bZ,ct,aZ,bh,bg,cD,aT];rfl)
 case copy x0 x1 x2=>show E3 h base e x0 x1 x2=_;first|rfl|(unfold E3;simp only[bV,bB,bt,bU,bw,aU,aL,bC,bZ,ct,aZ,bh,bg,cD,aT];rfl)
 case clear x0 x1=>show Bi h base e x0 x1=_;first|rfl|(unfold Bi;simp only[bV,bB,bt,bU,bw,aU,aL,bC,bZ,ct,aZ,bh,bg,cD,aT];rfl)
 case eF x0 x1=>show xQ h base e x0 x1=_;first|rfl|(unfold xQ;simp only[bV,bB,bt,bU,bw,aU,aL,bC,bZ,ct,aZ,bh,bg,cD,aT];rfl)
 case delete x0 x1 x2 x3=>show xJ h base e x0 x1 x2 x3=_;first|rfl|(unfold xJ;simp only[bV,bB,bt,bU,bw,aU,aL,bC,bZ,ct,aZ,bh,bg,cD,aT];rfl)
 case jI x0 x1=>show E4 h base e x0 x1=_;first|rfl|(unfold E4;simp only[bV,bB,bt,bU,bw,aU,aL,bC,bZ,ct,aZ,bh,bg,cD,aT];rfl)
 case recover=>show ur h base e=_;first|rfl|(unfold ur;simp only[bV,bB,bt,bU,bw,aU,aL,bC,bZ,ct,aZ,bh,bg,cD,aT];rfl)
 case tB x0=>show Fb h base e x0=_;first|rfl|(unfold Fb;simp only[bV,bB,bt,bU,bw,aU,aL,bC,bZ,ct,aZ,bh,bg,cD,aT];rfl)
 case range x0=>show Bp h base e x0=_;first|rfl|(unfold Bp;simp only[bV,bB,bt,bU,bw,aU,aL,bC,bZ,ct,aZ,bh,bg,cD,aT];rfl)
 case nq x0=>show xT h base e x0=_;first|rfl|(unfold xT;simp only[bV,bB,bt,bU,bw,aU,aL,bC,bZ,ct,aZ,bh,bg,cD,aT];rfl)
 case entry x0=>show Bj h base e x0=_;first|rfl|(unfold Bj;simp only[bV,bB,bt,bU,bw,aU,aL,bC,bZ,ct,aZ,bh,bg,cD,aT];rfl)
 case bin op x y=>show Ml h base e op x y=_;cases op<;>(simp only[Ml,aop,bV,bB,bt,bU,bw,aU,aL,bC,bZ,ct,aZ,bh,bg,cD,aT];first|done|rfl)
 case slice k x lo hi mx=>show Bq h base e k x lo hi mx=_;cases k<;>cases mx<;>(simp only[Bq,aop,bV,bB,bt,bU,bw,aU,aL,bC,bZ,ct,aZ,bh,bg,cD,aT];first|done|rfl)
 case len k x=>
  match k with
  |0=>show xM h base e 0 x=_;simp only[xM,aop,bV,bB,bt,bU,bw,aU,aL,bC,bZ,ct,aZ,bh,bg,cD,aT];first|done|rfl
  |1=>show xM h base e 1 x=_;simp only[xM,aop,bV,bB,bt,bU,bw,aU,aL,bC,bZ,ct,aZ,bh,bg,cD,aT];first|done|rfl
  |k+2=>show xM h base e (k+2) x=_;simp only[xM,aop,bV,bB,bt,bU,bw,aU,aL,bC,bZ,ct,aZ,bh,bg,cD,aT];first|done|rfl
 case next x s=>show E9 h base e x s=_;cases s<;>(simp only[E9,aop,bV,bB,bt,bU,bw,aU,aL,bC,bZ,ct,aZ,bh,bg,cD,aT];first|done|rfl)
def VG(x0:Operand):List Operand:=dh (.mov x0)
def SF(x0:Operand)(x1:Operand)(x2:Operand):List Operand:=dh (.pick x0 x1 x2)
def VI(x0:List Value):List Operand:=dh (.new x0)
def VD(x0:Operand):List Operand:=dh (.box x0)
def OX(x0:List Value)(x1:List (Nat×Nat×Operand)):List Operand:=dh (.build x0 x1)
def LC(x0:List Value)(x1:Nat)(x2:List (Nat×Nat×Operand)):List Operand:=dh (.dw x0 x1 x2)
def SC(x0:Option Nat)(x1:Operand):List Operand:=dh (.load x0 x1)
def O8(x0:Nat)(x1:Operand)(x2:Operand):List Operand:=dh (.store x0 x1 x2)
def LL(x0:Operand):List Operand:=dh (.cg x0)
def VB(x0:Ee)(x1:Operand)(x2:Operand):List Operand:=dh (.bin x0 x1 x2)
def XP(x0:UnOp)(x1:Operand):List Operand:=dh (.un x0 x1)
def Sv(x0:Cv)(x1:Operand):List Operand:=dh (.conv x0 x1)
def HV(x0:TypeId)(x1:Operand):List Operand:=dh (.iK x0 x1)
def LK(x0:Fn)(x1:List Operand)(x2:List Operand):List Operand:=dh (.dV x0 x1 x2)
def O5:List Operand:=dh (.mkMap)
def HW(x0:List Value)(x1:Nat)(x2:Operand)(x3:Operand):List Operand:=dh (.mkSlice x0 x1 x2 x3)
def O7(x0:ASl)(x1:Operand)(x2:Option Operand)(x3:Option Operand)(x4:Option Operand):List Operand:=dh (.slice x0 x1 x2 x3 x4)
def O0(x0:Nat)(x1:Operand):List Operand:=dh (.dz x0 x1)
def O3(x0:Nat)(x1:Option Nat)(x2:Operand):List Operand:=dh (.field x0 x1 x2)
def LF(x0:Nat)(x1:Nat)(x2:Operand)(x3:Operand):List Operand:=dh (.dB x0 x1 x2 x3)
def LG(x0:Nat)(x1:Operand)(x2:Operand):List Operand:=dh (.aQ x0 x1 x2)
def Sz(x0:Nat)(x1:Nat)(x2:Option Nat)(x3:Operand)(x4:Operand):List Operand:=dh (.rL x0 x1 x2 x3 x4)
def SA(x0:Operand)(x1:Operand):List Operand:=dh (.jC x0 x1)
def LI(x0:Bool)(x1:List dZ)(x2:Value)(x3:Bool)(x4:Operand)(x5:Operand):List Operand:=dh (.lookup x0 x1 x2 x3 x4 x5)
def O4(x0:Bool)(x1:List dZ)(x2:Operand)(x3:Operand)(x4:Operand):List Operand:=dh (.mE x0 x1 x2 x3 x4)
def HY(x0:TypeId)(x1:Bool)(x2:Value)(x3:Operand):List Operand:=dh (.jT x0 x1 x2 x3)
def HU(x0:Operand)(x1:Nat):List Operand:=dh (.extract x0 x1)
def Su(x0:Operand)(x1:List Operand):List Operand:=dh (.call x0 x1)
def VF(x0:Nat)(x1:Operand):List Operand:=dh (.len x0 x1)
def LH(x0:Nat):List Operand:=dh (.j9 x0)
def VE(x0:Operand):List Operand:=dh (.cap x0)
def LA(x0:Nat)(x1:Nat)(x2:Operand)(x3:Operand):List Operand:=dh (.append x0 x1 x2 x3)
def HT(x0:List Value)(x1:Nat)(x2:Operand)(x3:Operand):List Operand:=dh (.kG x0 x1 x2 x3)
def Sw(x0:Nat)(x1:Operand)(x2:Operand):List Operand:=dh (.copy x0 x1 x2)
def OY(x0:List Value)(x1:Operand):List Operand:=dh (.clear x0 x1)
def LJ(x0:Bool)(x1:List Operand):List Operand:=dh (.eF x0 x1)
def LD(x0:Bool)(x1:List dZ)(x2:Operand)(x3:Operand):List Operand:=dh (.delete x0 x1 x2 x3)
def Sy(x0:Operand)(x1:List Operand):List Operand:=dh (.jI x0 x1)
def HX:List Operand:=dh (.recover)
def SH(x0:Operand):List Operand:=dh (.tB x0)
def O6(x0:Operand):List Operand:=dh (.range x0)
def SD(x0:Operand)(x1:Bool):List Operand:=dh (.next x0 x1)
def LM(x0:Operand):List Operand:=dh (.nq x0)
def OZ(x0:Operand):List Operand:=dh (.entry x0)
def Bc(o:AOp):List Operand:=AOp.rec (motive:=λ_=>List Operand) VG SF VI VD OX LC SC O8 LL VB XP Sv HV LK O5 HW O7 O0 O3 LF LG Sz SA LI O4 HY HU Su VF LH VE LA HT Sw OY LJ LD Sy HX SH O6 SD LM OZ o
theorem EV:Bc=dh:=by funext o;cases o<;>rfl
def Wb(x0:Operand):Bool:=cQ (.mov x0)
def Tx(x0:Operand)(x1:Operand)(x2:Operand):Bool:=cQ (.pick x0 x1 x2)
def Wc(x0:List Value):Bool:=cQ (.new x0)
def V8(x0:Operand):Bool:=cQ (.box x0)
def P8(x0:List Value)(x1:List (Nat×Nat×Operand)):Bool:=cQ (.build x0 x1)
def M3(x0:List Value)(x1:Nat)(x2:List (Nat×Nat×Operand)):Bool:=cQ (.dw x0 x1 x2)
def Tv(x0:Option Nat)(x1:Operand):Bool:=cQ (.load x0 x1)
def Qi(x0:Nat)(x1:Operand)(x2:Operand):Bool:=cQ (.store x0 x1 x2)
def Nb(x0:Operand):Bool:=cQ (.cg x0)
def V7(x0:Ee)(x1:Operand)(x2:Operand):Bool:=cQ (.bin x0 x1 x2)
def X1(x0:UnOp)(x1:Operand):Bool:=cQ (.un x0 x1)
def Tp(x0:Cv)(x1:Operand):Bool:=cQ (.conv x0 x1)
def IL(x0:TypeId)(x1:Operand):Bool:=cQ (.iK x0 x1)
def Na(x0:Fn)(x1:List Operand)(x2:List Operand):Bool:=cQ (.dV x0 x1 x2)
def Qe:Bool:=cQ (.mkMap)
def IM(x0:List Value)(x1:Nat)(x2:Operand)(x3:Operand):Bool:=cQ (.mkSlice x0 x1 x2 x3)
def Qg(x0:ASl)(x1:Operand)(x2:Option Operand)(x3:Option Operand)(x4:Option Operand):Bool:=cQ (.slice x0 x1 x2 x3 x4)
def Qb(x0:Nat)(x1:Operand):Bool:=cQ (.dz x0 x1)
def Qc(x0:Nat)(x1:Option Nat)(x2:Operand):Bool:=cQ (.field x0 x1 x2)
def M5(x0:Nat)(x1:Nat)(x2:Operand)(x3:Operand):Bool:=cQ (.dB x0 x1 x2 x3)
def M6(x0:Nat)(x1:Operand)(x2:Operand):Bool:=cQ (.aQ x0 x1 x2)
def Tt(x0:Nat)(x1:Nat)(x2:Option Nat)(x3:Operand)(x4:Operand):Bool:=cQ (.rL x0 x1 x2 x3 x4)
def Tu(x0:Operand)(x1:Operand):Bool:=cQ (.jC x0 x1)
def M8(x0:Bool)(x1:List dZ)(x2:Value)(x3:Bool)(x4:Operand)(x5:Operand):Bool:=cQ (.lookup x0 x1 x2 x3 x4 x5)
def Qd(x0:Bool)(x1:List dZ)(x2:Operand)(x3:Operand)(x4:Operand):Bool:=cQ (.mE x0 x1 x2 x3 x4)
def IP(x0:TypeId)(x1:Bool)(x2:Value)(x3:Operand):Bool:=cQ (.jT x0 x1 x2 x3)
def IK(x0:Operand)(x1:Nat):Bool:=cQ (.extract x0 x1)
def To(x0:Operand)(x1:List Operand):Bool:=cQ (.call x0 x1)
def Wa(x0:Nat)(x1:Operand):Bool:=cQ (.len x0 x1)
def M7(x0:Nat):Bool:=cQ (.j9 x0)
def V9(x0:Operand):Bool:=cQ (.cap x0)
def M1(x0:Nat)(x1:Nat)(x2:Operand)(x3:Operand):Bool:=cQ (.append x0 x1 x2 x3)
def IJ(x0:List Value)(x1:Nat)(x2:Operand)(x3:Operand):Bool:=cQ (.kG x0 x1 x2 x3)
def Tq(x0:Nat)(x1:Operand)(x2:Operand):Bool:=cQ (.copy x0 x1 x2)
def P9(x0:List Value)(x1:Operand):Bool:=cQ (.clear x0 x1)
def M9(x0:Bool)(x1:List Operand):Bool:=cQ (.eF x0 x1)
def M4(x0:Bool)(x1:List dZ)(x2:Operand)(x3:Operand):Bool:=cQ (.delete x0 x1 x2 x3)
def Ts(x0:Operand)(x1:List Operand):Bool:=cQ (.jI x0 x1)
def IN:Bool:=cQ (.recover)
def Ty(x0:Operand):Bool:=cQ (.tB x0)
def Qf(x0:Operand):Bool:=cQ (.range x0)
def Tw(x0:Operand)(x1:Bool):Bool:=cQ (.next x0 x1)
def Nc(x0:Operand):Bool:=cQ (.nq x0)
def Qa(x0:Operand):Bool:=cQ (.entry x0)
def Gv(o:AOp):Bool:=AOp.rec (motive:=λ_=>Bool) Wb Tx Wc V8 P8 M3 Tv Qi Nb V7 X1 Tp IL Na Qe IM Qg Qb Qc M5 M6 Tt Tu M8 Qd IP IK To Wa M7 V9 M1 IJ Tq P9 M9 M4 Ts IN Ty Qf Tw Nc Qa o
theorem Fe:Gv=cQ:=by funext o;cases o<;>rfl
def Wl(x0:Operand):Bool:=dF (.mov x0)
def TO(x0:Operand)(x1:Operand)(x2:Operand):Bool:=dF (.pick x0 x1 x2)
def Wm(x0:List Value):Bool:=dF (.new x0)
def Wh(x0:Operand):Bool:=dF (.box x0)
def Qw(x0:List Value)(x1:List (Nat×Nat×Operand)):Bool:=dF (.build x0 x1)
def Nw(x0:List Value)(x1:Nat)(x2:List (Nat×Nat×Operand)):Bool:=dF (.dw x0 x1 x2)
def TM(x0:Option Nat)(x1:Operand):Bool:=dF (.load x0 x1)
def QJ(x0:Nat)(x1:Operand)(x2:Operand):Bool:=dF (.store x0 x1 x2)
def NF(x0:Operand):Bool:=dF (.cg x0)
def Wg(x0:Ee)(x1:Operand)(x2:Operand):Bool:=dF (.bin x0 x1 x2)
def X5(x0:UnOp)(x1:Operand):Bool:=dF (.un x0 x1)
def TH(x0:Cv)(x1:Operand):Bool:=dF (.conv x0 x1)
def I3(x0:TypeId)(x1:Operand):Bool:=dF (.iK x0 x1)
def ND(x0:Fn)(x1:List Operand)(x2:List Operand):Bool:=dF (.dV x0 x1 x2)
def QE:Bool:=dF (.mkMap)
def I4(x0:List Value)(x1:Nat)(x2:Operand)(x3:Operand):Bool:=dF (.mkSlice x0 x1 x2 x3)
def QI(x0:ASl)(x1:Operand)(x2:Option Operand)(x3:Option Operand)(x4:Option Operand):Bool:=dF (.slice x0 x1 x2 x3 x4)
def Qz(x0:Nat)(x1:Operand):Bool:=dF (.dz x0 x1)
def QC(x0:Nat)(x1:Option Nat)(x2:Operand):Bool:=dF (.field x0 x1 x2)
def Ny(x0:Nat)(x1:Nat)(x2:Operand)(x3:Operand):Bool:=dF (.dB x0 x1 x2 x3)
def Nz(x0:Nat)(x1:Operand)(x2:Operand):Bool:=dF (.aQ x0 x1 x2)
def TK(x0:Nat)(x1:Nat)(x2:Option Nat)(x3:Operand)(x4:Operand):Bool:=dF (.rL x0 x1 x2 x3 x4)
def TL(x0:Operand)(x1:Operand):Bool:=dF (.jC x0 x1)
def NB(x0:Bool)(x1:List dZ)(x2:Value)(x3:Bool)(x4:Operand)(x5:Operand):Bool:=dF (.lookup x0 x1 x2 x3 x4 x5)
def QD(x0:Bool)(x1:List dZ)(x2:Operand)(x3:Operand)(x4:Operand):Bool:=dF (.mE x0 x1 x2 x3 x4)
def I6(x0:TypeId)(x1:Bool)(x2:Value)(x3:Operand):Bool:=dF (.jT x0 x1 x2 x3)
def IZ(x0:Operand)(x1:Nat):Bool:=dF (.extract x0 x1)
def TG(x0:Operand)(x1:List Operand):Bool:=dF (.call x0 x1)
def Wk(x0:Nat)(x1:Operand):Bool:=dF (.len x0 x1)
def NA(x0:Nat):Bool:=dF (.j9 x0)
def Wi(x0:Operand):Bool:=dF (.cap x0)
def Nv(x0:Nat)(x1:Nat)(x2:Operand)(x3:Operand):Bool:=dF (.append x0 x1 x2 x3)
def IY(x0:List Value)(x1:Nat)(x2:Operand)(x3:Operand):Bool:=dF (.kG x0 x1 x2 x3)
def TI(x0:Nat)(x1:Operand)(x2:Operand):Bool:=dF (.copy x0 x1 x2)
def Qx(x0:List Value)(x1:Operand):Bool:=dF (.clear x0 x1)
def NC(x0:Bool)(x1:List Operand):Bool:=dF (.eF x0 x1)
def Nx(x0:Bool)(x1:List dZ)(x2:Operand)(x3:Operand):Bool:=dF (.delete x0 x1 x2 x3)
def TJ(x0:Operand)(x1:List Operand):Bool:=dF (.jI x0 x1)
def I5:Bool:=dF (.recover)
def TP(x0:Operand):Bool:=dF (.tB x0)
def QF(x0:Operand):Bool:=dF (.range x0)
def TN(x0:Operand)(x1:Bool):Bool:=dF (.next x0 x1)
def NG(x0:Operand):Bool:=dF (.nq x0)
def Qy(x0:Operand):Bool:=dF (.entry x0)
def Ez(o:AOp):Bool:=AOp.rec (motive:=λ_=>Bool) Wl TO Wm Wh Qw Nw TM QJ NF Wg X5 TH I3 ND QE I4 QI Qz QC Ny Nz TK TL NB QD I6 IZ TG Wk NA Wi Nv IY TI Qx NC Nx TJ I5 TP QF TN NG Qy o
theorem iB:Ez=dF:=by funext o;cases o<;>rfl
def AF(o:AOp):Bool:=Gv o||Ez o
theorem gW:AF=jb:=by funext o;simp only[AF,jb,Fe,iB]
def lU(o:aP):List Nat:=
 match o.guard with
 |some (t,_)=>t::Ah (Bc o.op)
 |none=>Ah (Bc o.op)
theorem ij:lU=cA:=by funext o;unfold lU cA;simp only[EV];rfl
def sA:List Value->List Value->Bool
 |[],[]=>true
 |x::xs,y::ys=>bif BB x y then sA xs ys else false
 |_,_=>false
def Fj:Value->Value->Bool
 | .agg a, .agg b=>sA a.toList b.toList
 | .tuple a, .tuple b=>sA a.toList b.toList
 | .func (.func f) a' a, .func (.func g) b' b=>f==g&&(sA a'.toList b'.toList&&sA a.toList b.toList)
 |x,y=>BB x y
def Gw(h:Heap)(base:Nat)(r:Rec):Bool:=
 match r.k with
 | .quiet=>match Ek h base r.e r.o.op with
   |some (.val v' h2)=>Fj r.v v'&&Nat.beq h2.next h.next
   |_=>false
 |_=>true
def Bt(h:Heap)(base:Nat):List Rec->Bool
 |[]=>true
 |r::rs=>bif Gw h base r then Bt h base rs else false
def jq(h:Heap)(base:Nat)(log:List Nat)(mask:Nat):List Rec->Option (List Rec)
 |[]=>some []
 |r::rs=>bif Nat.testBit mask r.i then jq h base log mask rs else
  bif Gw h base r&&It log r then match jq h base log mask rs with
   |some rs'=>some (r::rs')
   |none=>none
  else none
theorem Iy:sA=jX:=by
 funext a;induction a with
 |nil=>funext b;cases b<;>rfl
 |cons x a ih=>funext b;cases b<;>first|rfl|(simp only[sA,jX,Ab,ih])
theorem Iz:Fj=iL:=by
 funext a b;unfold Fj iL;simp only[Iy,Ab];first|done|rfl
theorem DJ:Gw=si:=by
 funext h base r;unfold Gw si;simp only[kF,Iz];first|done|rfl
theorem iW:Bt=mS:=by
 funext h base rs;induction rs with
 |nil=>rfl
 |cons r rs ih=>simp only[Bt,mS,DJ,ih]
theorem eU:jq=br:=by
 funext h base log mask rs;induction rs with
 |nil=>rfl
 |cons r rs ih=>simp only[jq,br,DJ,ih];first|done|rfl
def Mr(T:Nat->Option aq)(F:Fam)(base:Nat)(rnd:Option Nat)(ops:List aP)(it:Nat)(x:Operand)(keep:List Nat)(out nxt pr:Nat)(ops2:List aP)(k2:List Nat)(body:aN)(e:Env)(ds:Dfs)(h:Heap):Option (bk×Env×Dfs×Heap):=match F.ops base rnd ops e ds h with
 |some (.normal,e0,ds0,h0)=>match ds0 with
  |_::_=>none
  |[]=>match evQ h0 e0 x with
   |some (.map none)=>some (.normal,kY e0 keep,[],h0)
   |some (.map (some m))=>match nk h0 m with
    |some (.map es)=>Hl out (kY e0 keep) h0 (ng (λe h=>F.ops (h0.next+1) rnd ops2 e [] h) (λe h=>F.exec (h0.next+1) rnd body e [] h) nxt pr k2 (itE it h0 (kY e0 keep)) (kY e0 keep) ((roM h0 m es).push .dead) es)
    |_=>none
   |_=>none
 |r=>r
def DF(T:Nat->Option aq)(F:Fam)(base:Nat)(rnd:Option Nat)(f:Operand)(ps:List Nat)(asg body:aN)(e:Env)(ds:Dfs)(h:Heap):Option (bk×Env×Dfs×Heap):=bif nr h rnd then match evQ h e f with
 |some (.func (.func g) first cap)=>bif gw (T g)then none else
  match F.call g (dP first.toList (dP [.func (.yield h.next) #[] #[]] cap.toList)) {h.push (.loop e ps asg body 0 .normal)with log:=[]}with
  |some (.ret _,h2)=>match nk h2 h.next with
   |some (.loop _ _ _ _ st iN)=>bif Nat.beq st 1 then none else
    some (iN,e,ds,Heap.wr {h2 with log:=aB base h.log h2.log} base h.next .dead)
   |_=>none
  |some (.panic v,h2)=>some (.panic v,e,ds,{h2 with log:=aB base h.log h2.log})
  |none=>none
 |_=>none
 else none
def DG(F:Fam)(l:Nat)(args:List Value)(h:Heap):Option (Res×Heap):=match nk h l with
 |some (.loop e ps asg body 0 .normal)=>match iX e ps args with
  |some e1=>match F.exec h.next (some l) asg e1 [] h with
   |some (.normal,e2,ds2,h2)=>bif notReady (nk h2 l)then none else match F.exec h.next (some l) body e2 ds2 {h2 with cm:=soQ h2.cm l (.loop e ps asg body 1 .normal)}with
    |some (.normal,_,_,h3)=>match nk h3 l with
     |some (.loop _ _ _ _ 1 _)=>some (.ret (.bool true),gcA h {h3 with cm:=soQ h3.cm l (.loop e ps asg body 0 .normal)} (.bool true))
     |_=>none
    |some (.exit i,_,_,h3)=>match nk h3 l with
     |some (.loop _ _ _ _ 1 _)=>some (.ret (.bool false),h3.wr h.next l (.loop e ps asg body 2 (.exit i)))
     |_=>none
    |some (.ret,_,_,h3)=>match nk h3 l with
     |some (.loop _ _ _ _ 1 _)=>some (.ret (.bool false),h3.wr h.next l (.loop e ps asg body 2 .ret))
     |_=>none
    |_=>none
   |_=>none
  |none=>none
 |_=>none
def Jo(T:Nat->Option aq)(F:Fam):Nat->Option Nat->aN->Env->Dfs->Heap->Option (bk×Env×Dfs×Heap):=λbase rnd c e ds h=>
 match c with
 | .skip=>some (.normal,e,ds,h)
 | .region ops keep=>match F.ops base rnd ops e ds h with
   |some (.normal,e',ds',h')=>some (.normal,kY e' keep,ds',h')
   |r=>r
 | .draw ops order before keep=>match F.draw base ops order before [] e h with
   |some (.normal,e',h')=>some (.normal,kY e' keep,ds,h')
   |some (x,e',h')=>some (x,e',ds,h')
   |none=>none
 | .seq a b=>match F.exec base rnd a e ds h with
   |some (.normal,e',ds',h')=>F.exec base rnd b e' ds' h'
   |r=>r
 | .cond c a b=>match evQ h e c with
   |some (.bool true)=>F.exec base rnd a e ds h
   |some (.bool false)=>F.exec base rnd b e ds h
   |_=>none
 | .block id b=>match F.exec base rnd b e ds h with
   |some (.exit i,e',ds',h')=>bif Nat.beq i id then some (.normal,e',ds',h')else some (.exit i,e',ds',h')
   |r=>r
 | .loop b=>match F.exec base rnd b e ds h with
   |some (.normal,e',ds',h')=>F.exec base rnd (.loop b) e' ds' h'
   |r=>r
 | .scope b=>F.exec base rnd b e ds h
 | .rangeFunc f ps asg body=>DF T F base rnd f ps asg body e ds h
 | .rangeMap ops it x keep out nxt pr ops2 k2 body=>Mr T F base rnd ops it x keep out nxt pr ops2 k2 body e ds h
 | .exit id=>some (.exit id,e,ds,h)
 | .ret=>some (.ret,e,ds,h)
def Ra(T:Nat->Option aq)(F:Fam):Nat->Option Nat->List aP->Env->Dfs->Heap->Option (bk×Env×Dfs×Heap):=λbase rnd ops e ds h=>
 match ops with
 |[]=>some (.normal,e,ds,h)
 |o::os=>match tI e o.guard with
  |some false=>F.ops base rnd os (bN e o.dst (.tuple #[])) ds h
  |some true=>match Ek h base e o.op with
   |some (.val v h')=>F.ops base rnd os (bN e o.dst v) ds h'
   |some (.call fn args h')=>match F.iZ fn args {h' with log:=[]}with
    |some (.ret v,h2)=>F.ops base rnd os (bN e o.dst v) ds {h2 with log:=aB base h'.log h2.log}
    |some (.panic v,h2)=>some (.panic v,e,ds,{h2 with log:=aB base h'.log h2.log})
    |none=>none
   |some (.jI f args)=>match rnd with|some _=>none|none=>F.ops base rnd os (bN e o.dst (.tuple #[])) ((f,args)::ds) h
   |some (.panic v h')=>some (.panic v,e,ds,h')
   |_=>none
  |none=>none
def Jm(T:Nat->Option aq)(F:Fam):Nat->List aP->List Nat->List Nat->List Rec->Env->Heap->Option (bk×Env×Heap):=λbase ops order before rs e h=>
 match order with
 |[]=>some (.normal,e,h)
 |i::is=>match bK ops i,bK before i with
  |some o,some mask=>
   match tI (kY e (lU o)) o.guard with
   |some false=>F.draw base ops is before (⟨i,o,kY e (lU o), .tuple #[], .skip⟩::rs) (bN e o.dst (.tuple #[])) h
   |some true=>
    bif AF o.op then
     match Ek h base (kY e (lU o)) o.op with
     |some (.val v h')=>
      bif Ez o.op then
       bif Bt h' base rs then F.draw base ops is before (⟨i,o,kY e (lU o),v, .made h.next⟩::rs) (bN e o.dst v) h' else none
      else bif Nat.beq h'.next h.next then F.draw base ops is before (⟨i,o,kY e (lU o),v, .quiet⟩::rs) (bN e o.dst v) h
      else bif oW before i is then
       match Ek {h with log:=[]} h.next (kY e (lU o)) o.op with
       |some (.val v h2)=>match jq {h2 with log:=aB base h.log h2.log} base h2.log mask rs with
        |some rs'=>F.draw base ops is before rs' (bN e o.dst v) {h2 with log:=aB base h.log h2.log}
        |none=>none
       |_=>none
      else none
     |_=>none
    else
     match Ek {h with log:=[]} h.next (kY e (lU o)) o.op with
     |some (.val v h2)=>match jq {h2 with log:=aB base h.log h2.log} base h2.log mask rs with
      |some rs'=>F.draw base ops is before rs' (bN e o.dst v) {h2 with log:=aB base h.log h2.log}
      |none=>none
     |some (.call fn args _)=>match F.iZ fn args {h with log:=[]}with
      |some (.ret v,h2)=>match jq {h2 with log:=aB base h.log h2.log} base h2.log mask rs with
       |some rs'=>F.draw base ops is before rs' (bN e o.dst v) {h2 with log:=aB base h.log h2.log}
       |none=>none
      |some (.panic v,h2)=>some (.panic v,[],{h2 with log:=aB base h.log h2.log})
      |none=>none
     |_=>none
   |none=>none
  |_,_=>none
def FQ(T:Nat->Option aq)(F:Fam):Fn->List Value->Heap->Option (Res×Heap):=λfn args h=>
 match fn with
 | .func f=>F.call f args h
 | .yield l=>DG F l args h
 |_=>none
def Jl(T:Nat->Option aq)(F:Fam):Nat->List Value->Heap->Option (Res×Heap):=λf args h=>
 match T f with
 |none=>none
 |some (.lD p)=>match p args h with
  |some (v,h')=>some (.ret v,h')
  |none=>none
 |some (.code code results)=>match F.exec h.next none code (dM 0 args) [] h with
  |some (.panic v,e,ds,h1)=>F.unw results ds (some v) e h h1
  |some (.exit _,_,_,_)=>none
  |some (_,e,ds,h1)=>F.unw results ds none e h h1
  |none=>none
def Rc(T:Nat->Option aq)(F:Fam):List (Nat×Option (Option Nat))->Dfs->Option Value->Env->Heap->Heap->Option (Res×Heap):=λresults ds pan e h h1=>
 match ds with
 |[]=>match pan with
  |some v=>some (.panic v,h1)
  |none=>match MF h1 e results with
   |some vs=>some (.ret (dO vs),gcA h h1 (dO vs))
   |none=>none
 |(.func (.func g) first cap,args)::ds=>match F.defer g (dP first.toList (dP args cap.toList)) pan {h1 with log:=[]}with
  |some (pan',h2)=>F.unw results ds pan' e h {h2 with log:=aB h.next h1.log h2.log}
  |none=>none
 |_=>none
def FT(T:Nat->Option aq)(F:Fam):Nat->List Value->Option Value->Heap->Option (Option Value×Heap):=λg args pan h=>
 match T g with
 |some (.code code [])=>match F.gp h.next code (dM 0 args) pan h with
  |some (.normal,_,pan',h')=>some (pan',h')
  |some (.ret,_,pan',h')=>some (pan',h')
  |_=>none
 |_=>none
def FU(T:Nat->Option aq)(F:Fam):Nat->aN->Env->Option Value->Heap->Option (bk×Env×Option Value×Heap):=λbase c e pan h=>
 match c with
 | .skip=>some (.normal,e,pan,h)
 | .region ops keep=>match F.kj base ops e pan h with
   |some (.normal,e',pan',h')=>some (.normal,kY e' keep,pan',h')
   |r=>r
 | .seq a b=>match F.gp base a e pan h with
   |some (.normal,e',pan',h')=>F.gp base b e' pan' h'
   |r=>r
 | .cond c a b=>match evQ h e c with
   |some (.bool true)=>F.gp base a e pan h
   |some (.bool false)=>F.gp base b e pan h
   |_=>none
 | .ret=>some (.ret,e,pan,h)
 |_=>none
def Jq(T:Nat->Option aq)(F:Fam):Nat->List aP->Env->Option Value->Heap->Option (bk×Env×Option Value×Heap):=λbase ops e pan h=>
 match ops with
 |[]=>some (.normal,e,pan,h)
 |o::os=>match tI e o.guard with
  |some false=>F.kj base os (bN e o.dst (.tuple #[])) pan h
  |some true=>match Ek h base e o.op with
   |some (.val v h')=>F.kj base os (bN e o.dst v) pan h'
   |some .recover=>match pan with
    |some v=>F.kj base os (bN e o.dst v) none h
    |none=>F.kj base os (bN e o.dst .nilIface) none h
   |_=>none
  |none=>none
def Fam.GJ(T:Nat->Option aq)(F:Fam):Fam where
 exec:=Jo T F
 ops:=Ra T F
 draw:=Jm T F
 iZ:=FQ T F
 call:=Jl T F
 unw:=Rc T F
 defer:=FT T F
 gp:=FU T F
 kj:=Jq T F
def pF(T:Nat->Option aq)(n:Nat):Fam:=Nat.rec Fam.none (λ_ F=>Fam.GJ T F) n
theorem M0:Fam.GJ=Fam.succ:=by
 funext T F;unfold Fam.GJ Fam.succ;simp only[Fam.mk.injEq];refine⟨?_,?_,?_,?_,?_,?_,?_,?_,?_⟩
 ·funext x0 x1 x2 x3 x4 x5;unfold Jo DF Mr;first|rfl|(simp only[bV,bB,bC,bZ,nu,jK,iq,lT,j8,kF,iW,eU,aZ,ij,gW,iB];rfl)
 ·funext x0 x1 x2 x3 x4 x5;unfold Ra;first|rfl|(simp only[bV,bB,bC,bZ,nu,jK,iq,lT,j8,kF,iW,eU,aZ,ij,gW,iB];rfl)
 ·funext x0 x1 x2 x3 x4 x5 x6;unfold Jm;first|rfl|(simp only[bV,bB,bC,bZ,nu,jK,iq,lT,j8,kF,iW,eU,aZ,ij,gW,iB];rfl)
 ·funext x0 x1 x2;unfold FQ DG;first|rfl|(simp only[bV,bB,bC,bZ,nu,jK,iq,lT,j8,kF,iW,eU,aZ,ij,gW,iB];rfl)
 ·funext x0 x1 x2;unfold Jl;first|rfl|(simp only[bV,bB,bC,bZ,nu,jK,iq,lT,j8,kF,iW,eU,aZ,ij,gW,iB];rfl)
 ·funext x0 x1 x2 x3 x4 x5;unfold Rc;first|rfl|(simp only[bV,bB,bC,bZ,nu,jK,iq,lT,j8,kF,iW,eU,aZ,ij,gW,iB];rfl)
 ·funext x0 x1 x2 x3;unfold FT;first|rfl|(simp only[bV,bB,bC,bZ,nu,jK,iq,lT,j8,kF,iW,eU,aZ,ij,gW,iB];rfl)
 ·funext x0 x1 x2 x3 x4;unfold FU;first|rfl|(simp only[bV,bB,bC,bZ,nu,jK,iq,lT,j8,kF,iW,eU,aZ,ij,gW,iB];rfl)
 ·funext x0 x1 x2 x3 x4;unfold Jq;first|rfl|(simp only[bV,bB,bC,bZ,nu,jK,iq,lT,j8,kF,iW,eU,aZ,ij,gW,iB];rfl)
theorem F4(T:Nat->Option aq):∀n,pF T n=fam T n
 |0=>rfl
 |n+1=>by
  show Fam.GJ T (pF T n)=Fam.succ T (fam T n);rw[F4 T n,M0]
end Go.A
