/- The runs once more, for the kernel. -/
import Derived.Test.YtgffeapobcfigaaGreatDoorJA
set_option linter.all false
noncomputable section
namespace Go.A
structure Fam where
 exec:Nat->Option Nat->aT->Env->Dfs->Heap->Option (bq×Env×Dfs×Heap)
 ops:Nat->Option Nat->List aX->Env->Dfs->Heap->Option (bq×Env×Dfs×Heap)
 draw:Nat->List aX->List Nat->List Nat->List Rec->Env->Heap->Option (bq×Env×Heap)
 ir:Fn->List Value->Heap->Option (Res×Heap)
 call:Nat->List Value->Heap->Option (Res×Heap)
 unw:List (Nat×Option (Option Nat))->Dfs->Option Value->Env->Heap->Heap->Option (Res×Heap)
 defer:Nat->List Value->Option Value->Heap->Option (Option Value×Heap)
 fE:Nat->aT->Env->Option Value->Heap->Option (bq×Env×Option Value×Heap)
 jm:Nat->List aX->Env->Option Value->Heap->Option (bq×Env×Option Value×Heap)
def Fam.none:Fam where
 exec:=λ_ _ _ _ _ _=> .none
 ops:=λ_ _ _ _ _ _=> .none
 draw:=λ_ _ _ _ _ _ _=> .none
 ir:=λ_ _ _=> .none
 call:=λ_ _ _=> .none
 unw:=λ_ _ _ _ _ _=> .none
 defer:=λ_ _ _ _=> .none
 fE:=λ_ _ _ _ _=> .none
 jm:=λ_ _ _ _ _=> .none
def M0(T:Nat→Option af)(F:Fam):Nat→Option Nat→aT→Env→Dfs→Heap→Option (bq×Env×Dfs×Heap):=fun base rnd c e ds h=>
    match c with
    | .skip=>some (.normal,e,ds,h)
    | .region ops keep=>match F.ops base rnd ops e ds h with
      |some (.normal,e',ds',h')=>some (.normal,bD e' keep,ds',h')
      |r=>r
    | .draw ops order before keep=>match F.draw base ops order before [] e h with
      |some (.normal,e',h')=>some (.normal,bD e' keep,ds,h')
      |some (x,e',h')=>some (x,e',ds,h')
      |none=>none
    | .seq a b=>match F.exec base rnd a e ds h with
      |some (.normal,e',ds',h')=>F.exec base rnd b e' ds' h'
      |r=>r
    | .cond c a b=>match ev h e c with
      |some (.bool true)=>F.exec base rnd a e ds h
      |some (.bool false)=>F.exec base rnd b e ds h
      |_=>none
    | .block id b=>match F.exec base rnd b e ds h with
      |some (.exit i,e',ds',h')=>bif Nat.beq i id then some (.normal,e',ds',h')else some (.exit i,e',ds',h')
      |r=>r
    | .loop b=>match F.exec base rnd b e ds h with
      |some (.normal,e',ds',h')=>F.exec base rnd (.loop b) e' ds' h'
      |r=>r
    | .scope b=>F.exec base rnd b e ds h
    | .rangeFunc f ps asg body=>bif mY h rnd then match ev h e f with
      |some (.func (.func g) first cap)=>bif fN (T g)then none else
       match F.call g (dD first.toList (dD [.func (.yield h.next) #[] #[]] cap.toList)) {h.push (.loop e ps asg body 0 .normal)with log:=[]}with
       |some (.ret _,h2)=>match h2.get h.next with
        |some (.loop _ _ _ _ st gT)=>bif Nat.beq st 1 then none else
         some (gT,e,ds,Heap.wr {h2 with log:=aC base h.log h2.log} base h.next .dead)
        |_=>none
       |some (.panic v,h2)=>some (.panic v,e,ds,{h2 with log:=aC base h.log h2.log})
       |none=>none
      |_=>none
      else none
    | .rangeMap ops it x keep out nxt pr ops2 k2 body=>match F.ops base rnd ops e ds h with
      |some (.normal,e0,ds0,h0)=>match ds0 with
       |_::_=>none
       |[]=>match ev h0 e0 x with
        |some (.map none)=>some (.normal,bD e0 keep,[],h0)
        |some (.map (some m))=>match h0.get m with
         |some (.map es)=>D0 out (bD e0 keep) h0 (nF (λe h=>F.ops (h0.next+1) rnd ops2 e [] h) (λe h=>F.exec (h0.next+1) rnd body e [] h) nxt pr k2 (itE it h0 (bD e0 keep)) (bD e0 keep) ((roM h0 m es).push .dead) es)
         |_=>none
        |_=>none
      |r=>r
    | .exit id=>some (.exit id,e,ds,h)
    | .ret=>some (.ret,e,ds,h)
def O8(T:Nat→Option af)(F:Fam):Nat→Option Nat→List aX→Env→Dfs→Heap→Option (bq×Env×Dfs×Heap):=fun base rnd ops e ds h=>
    match ops with
    |[]=>some (.normal,e,ds,h)
    |o::os=>match bE e o.guard with
     |some false=>F.ops base rnd os (bR e o.dst (.tuple #[])) ds h
     |some true=>match aop h base e o.op with
      |some (.val v h')=>F.ops base rnd os (bR e o.dst v) ds h'
      |some (.call fn args h')=>match F.ir fn args {h' with log:=[]}with
       |some (.ret v,h2)=>F.ops base rnd os (bR e o.dst v) ds {h2 with log:=aC base h'.log h2.log}
       |some (.panic v,h2)=>some (.panic v,e,ds,{h2 with log:=aC base h'.log h2.log})
       |none=>none
      |some (.ja f args)=>match rnd with|some _=>none|none=>F.ops base rnd os (bR e o.dst (.tuple #[])) ((f,args)::ds) h
      |some (.panic v h')=>some (.panic v,e,ds,h')
      |_=>none
     |none=>none
def MZ(T:Nat→Option af)(F:Fam):Nat→List aX→List Nat→List Nat→List Rec→Env→Heap→Option (bq×Env×Heap):=fun base ops order before rs e h=>
    match order with
    |[]=>some (.normal,e,h)
    |i::is=>match bN ops i,bN before i with
     |some o,some mask=>
      match bE (bD e (ct o)) o.guard with
      |some false=>F.draw base ops is before (⟨i,o,bD e (ct o), .tuple #[], .skip⟩::rs) (bR e o.dst (.tuple #[])) h
      |some true=>
       bif iQ o.op then
        match aop h base (bD e (ct o)) o.op with
        |some (.val v h')=>
         bif cW o.op then
          bif mB h' base rs then F.draw base ops is before (⟨i,o,bD e (ct o),v, .made h.next⟩::rs) (bR e o.dst v) h' else none
         else bif Nat.beq h'.next h.next then F.draw base ops is before (⟨i,o,bD e (ct o),v, .quiet⟩::rs) (bR e o.dst v) h
         else bif vZ before i is then
          match aop {h with log:=[]} h.next (bD e (ct o)) o.op with
          |some (.val v h2)=>match bA {h2 with log:=aC base h.log h2.log} base h2.log mask rs with
           |some rs'=>F.draw base ops is before rs' (bR e o.dst v) {h2 with log:=aC base h.log h2.log}
           |none=>none
          |_=>none
         else none
        |_=>none
       else
        match aop {h with log:=[]} h.next (bD e (ct o)) o.op with
        |some (.val v h2)=>match bA {h2 with log:=aC base h.log h2.log} base h2.log mask rs with
         |some rs'=>F.draw base ops is before rs' (bR e o.dst v) {h2 with log:=aC base h.log h2.log}
         |none=>none
        |some (.call fn args _)=>match F.ir fn args {h with log:=[]}with
         |some (.ret v,h2)=>match bA {h2 with log:=aC base h.log h2.log} base h2.log mask rs with
          |some rs'=>F.draw base ops is before rs' (bR e o.dst v) {h2 with log:=aC base h.log h2.log}
          |none=>none
         |some (.panic v,h2)=>some (.panic v,[],{h2 with log:=aC base h.log h2.log})
         |none=>none
        |_=>none
      |none=>none
     |_,_=>none
def J3(T:Nat→Option af)(F:Fam):Fn→List Value→Heap→Option (Res×Heap):=fun fn args h=>
    match fn with
    | .func f=>F.call f args h
    | .yield l=>match h.get l with
      |some (.loop e ps asg body 0 .normal)=>match ia e ps args with
       |some e1=>match F.exec h.next (some l) asg e1 [] h with
        |some (.normal,e2,ds2,h2)=>bif notReady (h2.get l)then none else match F.exec h.next (some l) body e2 ds2 {h2 with bP:=gW h2.bP l (.loop e ps asg body 1 .normal)}with
         |some (.normal,_,_,h3)=>match h3.get l with
          |some (.loop _ _ _ _ 1 _)=>some (.ret (.bool true),gcA h {h3 with bP:=gW h3.bP l (.loop e ps asg body 0 .normal)} (.bool true))
          |_=>none
         |some (.exit i,_,_,h3)=>match h3.get l with
          |some (.loop _ _ _ _ 1 _)=>some (.ret (.bool false),h3.wr h.next l (.loop e ps asg body 2 (.exit i)))
          |_=>none
         |some (.ret,_,_,h3)=>match h3.get l with
          |some (.loop _ _ _ _ 1 _)=>some (.ret (.bool false),h3.wr h.next l (.loop e ps asg body 2 .ret))
          |_=>none
         |_=>none
        |_=>none
       |none=>none
      |_=>none
    |_=>none
def MY(T:Nat→Option af)(F:Fam):Nat→List Value→Heap→Option (Res×Heap):=fun f args h=>
    match T f with
    |none=>none
    |some (.jN p)=>match p args h with
     |some (v,h')=>some (.ret v,h')
     |none=>none
    |some (.code code results)=>match F.exec h.next none code (dQ 0 args) [] h with
     |some (.panic v,e,ds,h1)=>F.unw results ds (some v) e h h1
     |some (.exit _,_,_,_)=>none
     |some (_,e,ds,h1)=>F.unw results ds none e h h1
     |none=>none
def O9(T:Nat→Option af)(F:Fam):List (Nat×Option (Option Nat))→Dfs→Option Value→Env→Heap→Heap→Option (Res×Heap):=fun results ds pan e h h1=>
    match ds with
    |[]=>match pan with
     |some v=>some (.panic v,h1)
     |none=>match cw h1 e results with
      |some vs=>some (.ret (eR vs),gcA h h1 (eR vs))
      |none=>none
    |(.func (.func g) first cap,args)::ds=>match F.defer g (dD first.toList (dD args cap.toList)) pan {h1 with log:=[]}with
     |some (pan',h2)=>F.unw results ds pan' e h {h2 with log:=aC h.next h1.log h2.log}
     |none=>none
    |_=>none
def J4(T:Nat→Option af)(F:Fam):Nat→List Value→Option Value→Heap→Option (Option Value×Heap):=fun g args pan h=>
    match T g with
    |some (.code code [])=>match F.fE h.next code (dQ 0 args) pan h with
     |some (.normal,_,pan',h')=>some (pan',h')
     |some (.ret,_,pan',h')=>some (pan',h')
     |_=>none
    |_=>none
def J5(T:Nat→Option af)(F:Fam):Nat→aT→Env→Option Value→Heap→Option (bq×Env×Option Value×Heap):=fun base c e pan h=>
    match c with
    | .skip=>some (.normal,e,pan,h)
    | .region ops keep=>match F.jm base ops e pan h with
      |some (.normal,e',pan',h')=>some (.normal,bD e' keep,pan',h')
      |r=>r
    | .seq a b=>match F.fE base a e pan h with
      |some (.normal,e',pan',h')=>F.fE base b e' pan' h'
      |r=>r
    | .cond c a b=>match ev h e c with
      |some (.bool true)=>F.fE base a e pan h
      |some (.bool false)=>F.fE base b e pan h
      |_=>none
    | .ret=>some (.ret,e,pan,h)
    |_=>none
def M3(T:Nat→Option af)(F:Fam):Nat→List aX→Env→Option Value→Heap→Option (bq×Env×Option Value×Heap):=fun base ops e pan h=>
    match ops with
    |[]=>some (.normal,e,pan,h)
    |o::os=>match bE e o.guard with
     |some false=>F.jm base os (bR e o.dst (.tuple #[])) pan h
     |some true=>match aop h base e o.op with
      |some (.val v h')=>F.jm base os (bR e o.dst v) pan h'
      |some .recover=>match pan with
       |some v=>F.jm base os (bR e o.dst v) none h
       |none=>F.jm base os (bR e o.dst .nilIface) none h
      |_=>none
     |none=>none
def Fam.succ(T:Nat->Option af)(F:Fam):Fam where
 exec:=M0 T F
 ops:=O8 T F
 draw:=MZ T F
 ir:=J3 T F
 call:=MY T F
 unw:=O9 T F
 defer:=J4 T F
 fE:=J5 T F
 jm:=M3 T F
def fam(T:Nat->Option af)(n:Nat):Fam:=Nat.rec Fam.none (λ_ F=>Fam.succ T F) n
theorem Gw(T:Nat->Option af):∀n,fam T n={exec:=bZ T n,ops:=fZ T n,draw:=ek T n,ir:=fO T n,call:=iA T n,unw:=nI T n,defer:=jI T n,fE:=iw T n,jm:=jc T n}
 |0=>by
  show Fam.none=_;unfold Fam.none;simp only[Fam.mk.injEq];refine⟨?_,?_,?_,?_,?_,?_,?_,?_,?_⟩
  ·funext x0 x1 x2 x3 x4 x5;simp only[bZ]
  ·funext x0 x1 x2 x3 x4 x5;simp only[fZ]
  ·funext x0 x1 x2 x3 x4 x5 x6;simp only[ek]
  ·funext x0 x1 x2;simp only[fO]
  ·funext x0 x1 x2;simp only[iA]
  ·funext x0 x1 x2 x3 x4 x5;simp only[nI]
  ·funext x0 x1 x2 x3;simp only[jI]
  ·funext x0 x1 x2 x3 x4;simp only[iw]
  ·funext x0 x1 x2 x3 x4;simp only[jc]
 |n+1=>by
  show Fam.succ T (fam T n)=_;rw[Gw T n];unfold Fam.succ;simp only[Fam.mk.injEq];refine⟨?_,?_,?_,?_,?_,?_,?_,?_,?_⟩
  ·funext x0 x1 x2 x3 x4 x5;refine Eq.trans ?_ (bZ.eq_def T (n+1) x0 x1 x2 x3 x4 x5).symm;rfl
  ·funext x0 x1 x2 x3 x4 x5;refine Eq.trans ?_ (fZ.eq_def T (n+1) x0 x1 x2 x3 x4 x5).symm;rfl
  ·funext x0 x1 x2 x3 x4 x5 x6;refine Eq.trans ?_ (ek.eq_def T (n+1) x0 x1 x2 x3 x4 x5 x6).symm;rfl
  ·funext x0 x1 x2;refine Eq.trans ?_ (fO.eq_def T (n+1) x0 x1 x2).symm;rfl
  ·funext x0 x1 x2;refine Eq.trans ?_ (iA.eq_def T (n+1) x0 x1 x2).symm;rfl
  ·funext x0 x1 x2 x3 x4 x5;refine Eq.trans ?_ (nI.eq_def T (n+1) x0 x1 x2 x3 x4 x5).symm;rfl
  ·funext x0 x1 x2 x3;refine Eq.trans ?_ (jI.eq_def T (n+1) x0 x1 x2 x3).symm;rfl
  ·funext x0 x1 x2 x3 x4;refine Eq.trans ?_ (iw.eq_def T (n+1) x0 x1 x2 x3 x4).symm;rfl
  ·funext x0 x1 x2 x3 x4;refine Eq.trans ?_ (jc.eq_def T (n+1) x0 x1 x2 x3 x4).symm;rfl
def Qn(k:IntKind):Nat:=IntKind.rec (motive:=λ_=>Nat) 0 1 2 3 4 5 6 7 k
def kEq(a b:IntKind):Bool:=Nat.beq (Qn a) (Qn b)
theorem ye(a b:IntKind):kEq a b=decide (a=b):=by cases a<;>cases b<;>rfl
def GK(m:Nat)(b:Int):Bool:=Int.rec (motive:=λ_=>Bool) (λn=>Nat.beq m n) (λ_=>false) b
def GJ(m:Nat)(b:Int):Bool:=Int.rec (motive:=λ_=>Bool) (λ_=>false) (λn=>Nat.beq m n) b
def iEq(a b:Int):Bool:=Int.rec (motive:=λ_=>Int->Bool) GK GJ a b
theorem BJ(a b:Int):iEq a b=(a==b):=by
 rw[Bool.eq_iff_iff];simp only[beq_iff_eq];cases a<;>cases b<;>simp[iEq,GK,GJ,Nat.beq_eq]<;>omega
def GM(m:Nat)(b:Int):Bool:=Int.rec (motive:=λ_=>Bool) (λn=>Nat.blt m n) (λ_=>false) b
def GL(m:Nat)(b:Int):Bool:=Int.rec (motive:=λ_=>Bool) (λ_=>true) (λn=>Nat.blt n m) b
def iLt(a b:Int):Bool:=Int.rec (motive:=λ_=>Int->Bool) GM GL a b
theorem No(a b:Int):iLt a b=decide (a<b):=by
 rw[Bool.eq_iff_iff];simp only[decide_eq_true_eq];cases a<;>cases b<;>simp[iLt,GM,GL,Nat.blt_eq]<;>omega
def topP(k:IntKind):Nat:=IntKind.rec (motive:=λ_=>Nat) 128 32768 2147483648 9223372036854775808 256 65536 4294967296 18446744073709551616 k
def topN(k:IntKind):Nat:=IntKind.rec (motive:=λ_=>Nat) 128 32768 2147483648 9223372036854775808 0 0 0 0 k
def MS(k:IntKind)(n:Int):Int:=Int.rec (motive:=λ_=>Int) (λm=>bif Nat.blt m (topP k)then .ofNat m else k.wrap (.ofNat m)) (λm=>bif Nat.blt m (topN k)then .negSucc m else k.wrap (.negSucc m)) n
theorem JU(k:IntKind)(n:Int):MS k n=eE k n:=by cases n<;>cases k<;>rfl
def NJ{α:Type}(m:Nat)(f:Nat->α):α:=Nat.rec (motive:=λ_=>α) (f 0) (λn _=>f (Nat.succ n)) m
theorem KM{α:Type}(m:Nat)(f:Nat->α):NJ m f=f m:=by cases m<;>rfl
def Np{α:Type}(m:Int)(f:Int->α):α:=Int.rec (motive:=λ_=>α) (λn=>NJ n λn=>f (.ofNat n)) (λn=>NJ n λn=>f (.negSucc n)) m
theorem Kt{α:Type}(m:Int)(f:Int->α):Np m f=f m:=by cases m<;>simp[Np,KM]
def mkI(k:IntKind)(n:Int):Option Value:=Np (MS k n) λn=>some (.int k n)
def FN(k:IntKind)(x y:Int):Option Value:=mkI k (x+y)
def F2(k:IntKind)(x y:Int):Option Value:=mkI k (x-y)
def FY(k:IntKind)(x y:Int):Option Value:=mkI k (x*y)
def FP(_:IntKind)(x y:Int):Option Value:=some (.bool (iEq x y))
def FZ(_:IntKind)(x y:Int):Option Value:=some (.bool (Bool.rec true false (iEq x y)))
def FV(_:IntKind)(x y:Int):Option Value:=some (.bool (iLt x y))
def FU(_:IntKind)(x y:Int):Option Value:=some (.bool (Bool.rec true false (iLt y x)))
def FT(_:IntKind)(x y:Int):Option Value:=some (.bool (iLt y x))
def FQ(_:IntKind)(x y:Int):Option Value:=some (.bool (Bool.rec true false (iLt x y)))
def F0(k:IntKind)(x y:Int):Option Value:=arith .quo k x y
def F1(k:IntKind)(x y:Int):Option Value:=arith .rem k x y
def FO(k:IntKind)(x y:Int):Option Value:=arith .and k x y
def My(k:IntKind)(x y:Int):Option Value:=arith .or k x y
def F3(k:IntKind)(x y:Int):Option Value:=arith .xor k x y
def wh(k:IntKind)(x y:Int):Option Value:=arith .andNot k x y
def Hv(k:IntKind)(x:Int)(k':IntKind)(y:Int):Option Value:=Bool.rec none (FN k x y) (kEq k k')
def HJ(k:IntKind)(x:Int)(k':IntKind)(y:Int):Option Value:=Bool.rec none (F2 k x y) (kEq k k')
def HC(k:IntKind)(x:Int)(k':IntKind)(y:Int):Option Value:=Bool.rec none (FY k x y) (kEq k k')
def HE(k:IntKind)(x:Int)(k':IntKind)(y:Int):Option Value:=Bool.rec none (F0 k x y) (kEq k k')
def HF(k:IntKind)(x:Int)(k':IntKind)(y:Int):Option Value:=Bool.rec none (F1 k x y) (kEq k k')
def Hw(k:IntKind)(x:Int)(k':IntKind)(y:Int):Option Value:=Bool.rec none (FO k x y) (kEq k k')
def NI(k:IntKind)(x:Int)(k':IntKind)(y:Int):Option Value:=Bool.rec none (My k x y) (kEq k k')
def HK(k:IntKind)(x:Int)(k':IntKind)(y:Int):Option Value:=Bool.rec none (F3 k x y) (kEq k k')
def HH(k:IntKind)(x:Int)(_:IntKind)(y:Int):Option Value:=mZ .shl k x y
def HI(k:IntKind)(x:Int)(_:IntKind)(y:Int):Option Value:=mZ .shr k x y
def uU(k:IntKind)(x:Int)(k':IntKind)(y:Int):Option Value:=Bool.rec none (wh k x y) (kEq k k')
def Hx(k:IntKind)(x:Int)(k':IntKind)(y:Int):Option Value:=Bool.rec none (FP k x y) (kEq k k')
def HD(k:IntKind)(x:Int)(k':IntKind)(y:Int):Option Value:=Bool.rec none (FZ k x y) (kEq k k')
def HB(k:IntKind)(x:Int)(k':IntKind)(y:Int):Option Value:=Bool.rec none (FV k x y) (kEq k k')
def HA(k:IntKind)(x:Int)(k':IntKind)(y:Int):Option Value:=Bool.rec none (FU k x y) (kEq k k')
def Hz(k:IntKind)(x:Int)(k':IntKind)(y:Int):Option Value:=Bool.rec none (FT k x y) (kEq k k')
def Hy(k:IntKind)(x:Int)(k':IntKind)(y:Int):Option Value:=Bool.rec none (FQ k x y) (kEq k k')
def HN(op:BinOp):IntKind->Int->IntKind->Int->Option Value:=BinOp.rec (motive:=λ_=>IntKind->Int->IntKind->Int->Option Value) Hv HJ HC HE HF Hw NI HK HH HI uU Hx HD HB HA Hz Hy op
def NL(op:BinOp)(x y:Value):Option Value:=
 match x with
 | .int k a=>match y with
   | .int k' b=>HN op k a k' b
   |_=>none
 | .string a=>match y with
   | .string b=>Bq op a b
   |_=>none
 |_=>none
theorem Gb{α:Type}(x y:α)(b:Bool):(Bool.rec x y b:α)=bif b then y else x:=by cases b<;>rfl
theorem NF(k:IntKind)(n:Int):mkI k n=some (.int k (eE k n)):=by simp[mkI,Kt,JU]
theorem bB:NL=aq:=by
 funext op x y;unfold NL;split
 ·rename_i k a;split
  ·rename_i k' b;by_cases hk:k=k'
   ·subst hk;cases op<;>simp[HN,aq,Hv,HJ,HC,HE,HF,Hw,NI,HK,HH,HI,uU,Hx,HD,HB,HA,Hz,Hy,FN,F2,FY,F0,F1,FO,My,F3,wh,FP,FZ,FV,FU,FT,FQ,ye,Gb,NF,arith,lF,BJ,No]
    all_goals first
     |(simp[bne];done)
     |(rw[Bool.eq_iff_iff];simp;done)
     |(rw[Bool.eq_iff_iff];simp;omega)
   ·cases op<;>simp[HN,aq,Hv,HJ,HC,HE,HF,Hw,NI,HK,HH,HI,uU,Hx,HD,HB,HA,Hz,Hy,ye,Gb,hk]
  ·rename_i hy;cases op<;>cases y<;>first|rfl|exact(hy _ _ rfl).elim
 ·split
  ·cases op<;>rfl
  ·rename_i hy;cases op<;>cases y<;>first|rfl|exact(hy _ rfl).elim
 ·rename_i h1 h2;cases op<;>cases x<;>first|rfl|exact(h1 _ _ rfl).elim|exact(h2 _ rfl).elim
def SJ(_:Nat):Option Value:=none
def SI(p:Nat×Value)(_:Env)(ih:Nat->Option Value)(t:Nat):Option Value:=Bool.rec (ih t) (some p.2) (Nat.beq p.1 t)
def geQ(e:Env)(t:Nat):Option Value:=List.rec (motive:=λ_=>Nat->Option Value) SJ SI e t
theorem jj:geQ=geT:=by
 funext e t;induction e with
 |nil=>rfl
 |cons p e ih=>
  obtain⟨k,v⟩:=p;show(Bool.rec (geQ e t) (some v) (Nat.beq k t):Option Value)=_;rw[Gb,ih];rfl
def Qq(t:Nat)(l:Env)(v:Value):Env:=(t,v)::l
def SQ(_:Env):Env:=[]
def SP(t:Nat)(_:List Nat)(ih:Env->Env)(e:Env):Env:=Option.rec (motive:=λ_=>Env) (ih e) (Qq t (ih e)) (geQ e t)
def jD(e:Env)(l:List Nat):Env:=List.rec (motive:=λ_=>Env->Env) SQ SP l e
theorem iU:jD=bD:=by
 funext e l;induction l with
 |nil=>rfl
 |cons t l ih=>
  show(Option.rec (jD e l) (Qq t (jD e l)) (geQ e t):Env)=_;rw[jj,ih];simp only[bD];cases geT e t<;>rfl
def SL(_:Nat):Option bC:=none
def SK(p:Nat×bC)(_:List (Nat×bC))(ih:Nat->Option bC)(t:Nat):Option bC:=Bool.rec (ih t) (some p.2) (Nat.beq p.1 t)
def goQ(e:List (Nat×bC))(t:Nat):Option bC:=List.rec (motive:=λ_=>Nat->Option bC) SL SK e t
theorem Nl:goQ=eO:=by
 funext e t;induction e with
 |nil=>rfl
 |cons p e ih=>
  obtain⟨k,v⟩:=p;show(Bool.rec (goQ e t) (some v) (Nat.beq k t):Option bC)=_;rw[Gb,ih];rfl
def lH(h:Heap)(b:Nat):Option bC:=goQ h.bP b
theorem bk:lH=Heap.get:=by funext h b;simp[lH,Heap.get,Nl]
def S6(_:Nat)(_:bC):List (Nat×bC):=[]
def S4(p:Nat×bC)(l:List (Nat×bC))(ih:Nat->bC->List (Nat×bC))(t:Nat)(o:bC):List (Nat×bC):=Bool.rec (p::ih t o) ((p.1,o)::l) (Nat.beq p.1 t)
def soQ(e:List (Nat×bC))(t:Nat)(o:bC):List (Nat×bC):=List.rec (motive:=λ_=>Nat->bC->List (Nat×bC)) S6 S4 e t o
theorem lP:soQ=gW:=by
 funext e t o;induction e with
 |nil=>rfl
 |cons p e ih=>
  obtain⟨k,v⟩:=p;show(Bool.rec ((k,v)::soQ e t o) ((k,o)::e) (Nat.beq k t):List (Nat×bC))=_;rw[Gb,ih];rfl
def wrQ(h:Heap)(base b:Nat)(o:bC):Heap:={h with bP:=soQ h.bP b o,log:=bif Nat.blt b base then(bif ff h.log b then h.log else b::h.log)else h.log}
theorem bL:wrQ=Heap.wr:=by funext h base b o;simp[wrQ,Heap.wr,lP]
def evQ(h:Heap)(e:Env)(x:Operand):Option Value:=Operand.rec (motive:=λ_=>Env->Heap->Option Value) (λt e _=>geQ e t) (λv _ _=>some v) (λg _ h=>ev h [] (.global g)) (λf _ _=>some (.func (.func f) #[] #[])) x e h
theorem bF:evQ=ev:=by
 funext h e x;cases x<;>first|rfl|(show geQ e _=_;rw[jj];rfl)
def Ah(h:Heap)(e:Env):List Operand->Option (List Value)
 |[]=>some []
 |x::xs=>match evQ h e x with
  |some v=>match Ah h e xs with
   |some vs=>some (v::vs)
   |none=>none
  |none=>none
theorem bh:Ah=evs:=by
 funext h e l;induction l with
 |nil=>rfl
 |cons x l ih=>(simp only[Ah,evs,bF,ih];rfl)
def Ai(h:Heap)(e:Env)(z:List Value):List (Nat×Nat×Operand)->Option (List Value)
 |[]=>some z
 |(off,size,x)::ps=>match evQ h e x with
  |some v=>bif Nat.beq (bG (cellsOf v)) size&&Nat.ble (off+size) (bG z)then Ai h e (cM z off (cellsOf v)) ps else none
  |none=>none
theorem aY:Ai=iS:=by
 funext h e z l;induction l generalizing z with
 |nil=>rfl
 |cons p l ih=>obtain⟨a,b,x⟩:=p;(simp only[Ai,iS,bF,ih];rfl)
def rP(e:Env)(g:Option (Nat×Bool)):Option Bool:=
 match g with
 |none=>some true
 |some (t,b)=>match geQ e t with
  |some (.bool x)=>some (x==b)
  |some _=>some false
  |none=>none
theorem gF:rP=bE:=by
 funext e g;cases g with
 |none=>rfl
 |some p=>obtain⟨t,b⟩:=p;(simp only[rP,bE,jj];rfl)
def IZ(h:Heap)(e:Env):List (Nat×Option (Option Nat))->Option (List Value)
 |[]=>some []
 |(t,none)::rs=>match geQ e t with
  |some v=>match IZ h e rs with
   |some vs=>some (v::vs)
   |none=>none
  |none=>none
 |(t,some n)::rs=>match geQ e t with
  |some a=>match nU h n a with
   |some v=>match IZ h e rs with
    |some vs=>some (v::vs)
    |none=>none
   |none=>none
  |none=>none
theorem jY:IZ=cw:=by
 funext h e l;induction l with
 |nil=>rfl
 |cons p l ih=>
  obtain⟨t,n⟩:=p;cases n<;>(simp only[IZ,cw,jj,ih];rfl)
def G6(l:dI)(x y:Value):Option Bool:=
 match l with
 | .i q=>match x with
   | .int k a=>match y with
     | .int k' b=>bif kEq k q&&kEq k' q then some (iEq a b)else none
     |_=>none
   |_=>none
 |l=>iV l x y
theorem G8:G6=iV:=by
 funext l x y;unfold G6;split
 ·rename_i q;split
  ·rename_i k a;split
   ·rename_i k' b;simp only[iV,ye,BJ,cond_eq_ite,Bool.and_eq_true,decide_eq_true_eq];by_cases h1:k=q<;>by_cases h2:k'=q<;>simp[h1,h2]
   ·rename_i hy;cases y<;>first|rfl|exact(hy _ _ rfl).elim
  ·rename_i hx;cases x<;>first|rfl|exact(hx _ _ rfl).elim
 ·rfl
def mQ:List dI->List Value->List Value->Option Bool
 |[],[],[]=>some true
 |l::ls,x::xs,y::ys=>match G6 l x y with
  |some true=>mQ ls xs ys
  |some false=>match mQ ls xs ys with
   |some _=>some false
   |none=>none
  |none=>none
 |_,_,_=>none
theorem aM:mQ=bI:=by
 funext ls;induction ls with
 |nil=>funext xs ys;cases xs<;>cases ys<;>rfl
 |cons l ls ih=>
  funext xs ys;cases xs<;>cases ys<;>first|rfl|(simp only[mQ,bI,G8,ih];rfl)
def p8(ag:Bool)(ls:List dI)(k:Value):Bool:=
 match pZ k==ag,mQ ls (cellsOf k) (cellsOf k)with
 |true,some _=>true
 |_,_=>false
theorem aQ:p8=jR:=by funext ag ls k;(simp only[p8,jR,aM];rfl)
def BL(ag:Bool)(ls:List dI)(k k':Value):Option Bool:=
 match pZ k'==ag with
 |true=>mQ ls (cellsOf k) (cellsOf k')
 |false=>none
theorem El:BL=rz:=by funext ag ls k k';(simp only[BL,rz,aM];rfl)
def wC(ag:Bool)(ls:List dI)(k:Value):Nat->List (Value×Value)->Option (Option (Nat×Value))
 |_,[]=>some none
 |i,(k',v)::es=>match BL ag ls k k' with
  |some true=>some (some (i,v))
  |some false=>wC ag ls k (i+1) es
  |none=>none
theorem aZ:wC=qZ:=by
 funext ag ls k i es;induction es generalizing i with
 |nil=>rfl
 |cons p es ih=>obtain⟨a,b⟩:=p;(simp only[wC,qZ,El,ih];rfl)
def zu(x y:Value):Bool:=
 match x with
 | .int k a=>match y with
   | .int k' b=>kEq k k'&&iEq a b
   |_=>false
 |x=>kP x y
theorem xk:zu=kP:=by
 funext x y;unfold zu;split
 ·rename_i k a;split
  ·rename_i k' b;simp only[kP,ye,BJ];by_cases h:k=k'<;>simp[h]
  ·rename_i hy;cases y<;>first|rfl|exact(hy _ _ rfl).elim
 ·rfl
def He(h:Heap)(n:Option Nat):Value->Option Value
 | .pointer (some ⟨b,o,none⟩)=>match lH h b with
   |some (.cells vs _ _)=>match n with
    |none=>bN vs o
    |some n=>let l:=cu n (bM o vs);bif Nat.beq (bG l) n then some (.agg l.toArray)else none
   |_=>none
 |_=>none
def Cw(h:Heap)(base n:Nat)(v:Value):Value->Option Heap
 | .pointer (some ⟨b,o,none⟩)=>match lH h b with
   |some (.cells vs true sz)=>bif Nat.beq (bG (cellsOf v)) n&&Nat.ble (o+n) (bG vs)&&dX (cellsOf v)then some (wrQ h base b (.cells (cM vs o (cellsOf v)) true sz))else none
   |_=>none
 |_=>none
def BD(h:Heap)(e:Env)(dflt:Nat):Option Operand->Option Nat
 |none=>some dflt
 |some x=>match evQ h e x with
  |some v=>nr v
  |none=>none
def zy(h:Heap)(e:Env)(size:Nat)(a:Option Addr)(len cap:Nat)(lo hi mx:Option Operand):Option (Value×Heap):=
 match BD h e 0 lo,BD h e len hi with
 |some l,some u=>
  match mx with
  |some _=>match BD h e 0 mx with
   |some m=>bif Nat.ble l u&&Nat.ble u m&&Nat.ble m (bif Nat.beq cap UNK then len else cap)&&Nat.blt m UNK then
    some (.slice (bif Nat.beq m l then a else match a with|some ⟨b,o,none⟩=>some ⟨b,o+l*size,none⟩|a=>a) (u-l) (m-l),h)
    else none
   |none=>none
  |none=>
   bif Nat.beq cap UNK then
    match a with
    |some ⟨b,o,none⟩=>match lH h b with
     |some (.cells vs _ sz)=>
      bif Nat.beq sz size&&Nat.ble l u&&(Nat.ble u len||Nat.ble (o+u*size) (bG vs))then
       bif Nat.blt l len||Nat.blt l u then some (.slice (some ⟨b,o+l*size,none⟩) (u-l) UNK,h)
       else bif Nat.beq l 0 then some (.slice (some ⟨b,o,none⟩) 0 UNK,h)
       else some (.slice (some ⟨h.next,0,none⟩) 0 UNK,h.push (.cells [] false size))
      else none
     |_=>none
    |_=>none
   else bif Nat.ble l u&&Nat.ble u cap then
    some (.slice (bif Nat.beq cap l then a else match a with|some ⟨b,o,none⟩=>some ⟨b,o+l*size,none⟩|a=>a) (u-l) (cap-l),h)
    else none
 |_,_=>none
def LH(h:Heap)(size:Nat):Value->Option (List Value×Nat)
 | .slice none n _=>bif Nat.beq n 0 then some ([],0)else none
 | .slice (some ⟨b,o,none⟩) n _=>match lH h b with
   |some (.cells vs _ _)=>let l:=cu (n*size) (bM o vs);bif Nat.beq (bG l) (n*size)then some (l,n)else none
   |_=>none
 | .string s=>bif Nat.beq size 1 then some (s.data.toList.map λb=> .int .u8 b.toNat,s.size)else none
 |_=>none
def tH(h:Heap)(base size bytes:Nat)(s:Value)(new:List Value)(n:Nat):Option (Value×Heap):=
 match s with
 | .slice a len cap=>
   bif Nat.beq n 0 then(bif Nat.ble len cap then some (s,h)else none)else
   bif Nat.ble ((2*(len+n)+768)*bytes) 281474976710656 then
    match a with
    |none=>bif Nat.beq len 0&&Nat.beq cap 0 then some (.slice (some ⟨h.next,0,none⟩) n UNK,h.push (.cells new true size))else none
    |some ⟨b,o,none⟩=>match lH h b with
     |some (.cells vs own sz)=>
      bif Nat.beq cap UNK then
       bif own&&Nat.beq sz size then
        bif Nat.ble (o+(len+n)*size) (bG vs)&&dX new then
         some (.slice (some ⟨b,o,none⟩) (len+n) UNK,wrQ h base b (.cells (cM vs (o+len*size) new) true sz))
        else bif Nat.beq o 0&&Nat.beq (len*size) (bG vs)&&dX new then
         some (.slice (some ⟨h.next,0,none⟩) (len+n) UNK,(wrQ h base b .dead).push (.cells (dD vs new) true size))
        else none
       else none
      else bif Nat.ble (len+n) cap then
       bif own&&Nat.ble (o+(len+n)*size) (bG vs)&&dX new then
        some (.slice (some ⟨b,o,none⟩) (len+n) cap,wrQ h base b (.cells (cM vs (o+len*size) new) true sz))
       else none
      else bif Nat.ble (o+len*size) (bG vs)then
       some (.slice (some ⟨h.next,0,none⟩) (len+n) UNK,h.push (.cells (dD (cu (len*size) (bM o vs)) new) true size))
      else none
     |_=>none
    |_=>none
   else none
 |_=>none
theorem aU:He=nU:=by
 funext h n v;unfold He nU;simp only[bF,bh,aY,bB,aZ,aQ,aM,bk,bL];rfl
theorem aW:Cw=qp:=by
 funext h base n v x;unfold Cw qp;simp only[bF,bh,aY,bB,aZ,aQ,aM,bk,bL];rfl
theorem bQ:BD=bnd:=by
 funext h e d x;unfold BD bnd;simp only[bF,bh,aY,bB,aZ,aQ,aM,bk,bL];rfl
theorem aV:zy=ic:=by
 funext h e size a len cap lo hi mx;unfold zy ic;simp only[bF,bh,aY,bB,aZ,aQ,aM,bk,bL,bQ];rfl
theorem bT:LH=dg:=by
 funext h size v;unfold LH dg;simp only[bF,bh,aY,bB,aZ,aQ,aM,bk,bL];rfl
theorem aP:tH=iE:=by
 funext h base size bytes s new n;unfold tH iE;simp only[bF,bh,aY,bB,aZ,aQ,aM,bk,bL];rfl
def IF(h:Heap)(base:Nat)(e:Env)(x:Operand):Option cG:=cC (evQ h e x) λv=>some (.val v h)
def Ch(h:Heap)(base:Nat)(e:Env)(c:Operand)(a:Operand)(b:Operand):Option cG:=match evQ h e c with
 |some (.bool true)=>cC (evQ h e a) λv=>some (.val v h)
 |some (.bool false)=>cC (evQ h e b) λv=>some (.val v h)
 |_=>none
def IG(h:Heap)(base:Nat)(e:Env)(z:List Value):Option cG:=some (.val (.pointer (some ⟨h.next,0,none⟩)) (h.push (.cells z true 1)))
def ID(h:Heap)(base:Nat)(e:Env)(x:Operand):Option cG:=cC (evQ h e x) λv=>some (.val (.pointer (some ⟨h.next,0,none⟩)) (h.push (.cells (cellsOf v) true 1)))
def zb(h:Heap)(base:Nat)(e:Env)(z:List Value)(ps:List (Nat×Nat×Operand)):Option cG:=match Ai h e z ps with
 |some cs=>some (.val (.agg cs.toArray) h)
 |none=>none
def vl(h:Heap)(base:Nat)(e:Env)(z:List Value)(n:Nat)(ps:List (Nat×Nat×Operand)):Option cG:=match Ai h e (dU n z) ps with
 |some cs=>some (.val (.slice (some ⟨h.next,0,none⟩) n n) (h.push (.cells cs true (bG z))))
 |none=>none
def Cf(h:Heap)(base:Nat)(e:Env)(n:Option Nat)(a:Operand):Option cG:=cC (evQ h e a) λa=>cC (He h n a) λv=>some (.val v h)
def zm(h:Heap)(base:Nat)(e:Env)(n:Nat)(a:Operand)(v:Operand):Option cG:=cC (evQ h e a) λa=>cC (evQ h e v) λv=>match Cw h base n v a with
 |some h'=>some (.val (.tuple #[]) h')
 |none=>none
def vw(h:Heap)(base:Nat)(e:Env)(x:Operand):Option cG:=cC (evQ h e x) λv=>match v with
 | .pointer none| .nilIface| .nilFunc=>none
 | .func (.method _) _ _=>none
 |v=>some (.val v h)
def IC(h:Heap)(base:Nat)(e:Env):Bu->Operand->Operand->Option cG
 |(.num op),x,y=>cC (evQ h e x) λx=>cC (evQ h e y) λy=>cC (NL op x y) λv=>some (.val v h)
 |(.beq neq),x,y=>match evQ h e x,evQ h e y with
  |some (.bool a),some (.bool b)=>some (.val (.bool (bif neq then !(a==b)else a==b)) h)
  |_,_=>none
 |(.nil k neq),x,y=>cC (evQ h e x) λx=>cC (evQ h e y) λy=>match nY k x y with
  |some b=>some (.val (.bool (bif neq then !b else b)) h)
  |none=>none
 |(.agg neq ls),x,y=>cC (evQ h e x) λx=>cC (evQ h e y) λy=>match x,y with
  | .agg xs, .agg ys=>match mQ ls xs.toList ys.toList with
    |some b=>some (.val (.bool (bif neq then !b else b)) h)
    |none=>none
  |_,_=>none
def N8(h:Heap)(base:Nat)(e:Env)(op:UnOp)(x:Operand):Option cG:=cC (evQ h e x) λx=>cC (vK op x) λv=>some (.val v h)
def B9(h:Heap)(base:Nat)(e:Env)(c:Cv)(x:Operand):Option cG:=cC (evQ h e x) λx=>fu (pM h c x)
def sJ(h:Heap)(base:Nat)(e:Env)(t:TypeId)(x:Operand):Option cG:=cC (evQ h e x) λv=>some (.val (.iface t v) h)
def vu(h:Heap)(base:Nat)(e:Env)(fn:Fn)(fs:List Operand)(cs:List Operand):Option cG:=match Ah h e fs,Ah h e cs with
 |some fs,some cs=>some (.val (.func fn fs.toArray cs.toArray) h)
 |_,_=>none
def zj(h:Heap)(base:Nat)(e:Env):Option cG:=some (.val (.map (some h.next)) (h.push (.map [])))
def sK(h:Heap)(base:Nat)(e:Env)(z:List Value)(bytes:Nat)(l:Operand)(c:Operand):Option cG:=match evQ h e l,evQ h e c with
 |some l,some c=>match nr l,nr c with
  |some l,some c=>bif Nat.ble l c&&Nat.ble (bytes*c) 281474976710656&&Nat.blt c UNK then
   some (.val (.slice (some ⟨h.next,0,none⟩) l c) (h.push (.cells (dU c z) true (bG z))))
   else none
  |_,_=>none
 |_,_=>none
def zl(h:Heap)(base:Nat)(e:Env):ASl->Operand->Option Operand->Option Operand->Option Operand->Option cG
 | .str,x,lo,hi,none=>match evQ h e x with
   |some (.string s)=>match BD h e 0 lo,BD h e s.size hi with
    |some l,some u=>bif Nat.ble l u&&Nat.ble u s.size then some (.val (.string (s.extract l u)) h)else none
    |_,_=>none
   |_=>none
 |(.sl size),x,lo,hi,mx=>match evQ h e x with
  |some (.slice a len cap)=>fu (zy h e size a len cap lo hi mx)
  |_=>none
 |(.arr n size),x,lo,hi,mx=>match evQ h e x with
  |some (.pointer (some a))=>fu (zy h e size (some a) n n lo hi mx)
  |_=>none
 | .str,_,_,_,(some _)=>none
def zg(h:Heap)(base:Nat)(e:Env)(off:Nat)(x:Operand):Option cG:=match evQ h e x with
 |some (.pointer (some ⟨b,o,none⟩))=>some (.val (.pointer (some ⟨b,o+off,none⟩)) h)
 |_=>none
def zh(h:Heap)(base:Nat)(e:Env)(off:Nat)(n:Option Nat)(x:Operand):Option cG:=match evQ h e x with
 |some (.agg cs)=>match n with
  |none=>cC (bN cs.toList off) λv=>some (.val v h)
  |some n=>let l:=cu n (bM off cs.toList);bif Nat.beq (bG l) n then some (.val (.agg l.toArray) h)else none
 |_=>none
def vn(h:Heap)(base:Nat)(e:Env)(len:Nat)(size:Nat)(x:Operand)(i:Operand):Option cG:=match evQ h e x,evQ h e i with
 |some (.pointer (some ⟨b,o,none⟩)),some (.int _ (.ofNat i))=>bif Nat.blt i len then some (.val (.pointer (some ⟨b,o+i*size,none⟩)) h)else none
 |_,_=>none
def vo(h:Heap)(base:Nat)(e:Env)(size:Nat)(x:Operand)(i:Operand):Option cG:=match evQ h e x,evQ h e i with
 |some (.slice (some ⟨b,o,none⟩) len _),some (.int _ (.ofNat i))=>bif Nat.blt i len then some (.val (.pointer (some ⟨b,o+i*size,none⟩)) h)else none
 |_,_=>none
def Cc(h:Heap)(base:Nat)(e:Env)(len:Nat)(size:Nat)(n:Option Nat)(x:Operand)(i:Operand):Option cG:=match evQ h e x,evQ h e i with
 |some (.agg cs),some (.int _ (.ofNat i))=>bif Nat.blt i len then
  match n with
  |none=>cC (bN cs.toList (i*size)) λv=>some (.val v h)
  |some n=>let l:=cu n (bM (i*size) cs.toList);bif Nat.beq (bG l) n then some (.val (.agg l.toArray) h)else none
  else none
 |_,_=>none
def Cd(h:Heap)(base:Nat)(e:Env)(x:Operand)(i:Operand):Option cG:=match evQ h e x,evQ h e i with
 |some (.string s),some (.int _ (.ofNat i))=>match bN s.data.toList i with
  |some b=>some (.val (.int .u8 b.toNat) h)
  |none=>none
 |_,_=>none
def vr(h:Heap)(base:Nat)(e:Env)(ag:Bool)(ls:List dI)(z:Value)(ok:Bool)(m:Operand)(k:Operand):Option cG:=match evQ h e m,evQ h e k with
 |some (.map none),some k=>bif p8 ag ls k then some (.val (bif ok then .tuple #[z, .bool false]else z) h)else none
 |some (.map (some r)),some k=>match yq (lH h r)with
  |some es=>bif p8 ag ls k then match wC ag ls k 0 es with
   |some (some (_,v))=>some (.val (bif ok then .tuple #[v, .bool true]else v) h)
   |some none=>some (.val (bif ok then .tuple #[z, .bool false]else z) h)
   |none=>none else none
  |none=>none
 |_,_=>none
def zi(h:Heap)(base:Nat)(e:Env)(ag:Bool)(ls:List dI)(m:Operand)(k:Operand)(v:Operand):Option cG:=match evQ h e m,evQ h e k,evQ h e v with
 |some (.map (some r)),some k,some v=>match lH h r with
  |some (.map es)=>bif p8 ag ls k then match wC ag ls k 0 es with
   |some (some (i,_))=>some (.val (.tuple #[]) (wrQ h base r (.map (rC es i (k,v)))))
   |some none=>some (.val (.tuple #[]) (wrQ h base r (.map (dD es [(k,v)]))))
   |none=>none else none
  |_=>none
 |_,_,_=>none
def sM(h:Heap)(base:Nat)(e:Env)(t:TypeId)(ok:Bool)(z:Value)(x:Operand):Option cG:=match evQ h e x with
 |some .nilIface=>bif ok then some (.val (.tuple #[z, .bool false]) h)else none
 |some (.iface t' v)=>if t'=t then some (.val (bif ok then .tuple #[v, .bool true]else v) h)
  else bif ok then some (.val (.tuple #[z, .bool false]) h)else none
 |_=>none
def sI(h:Heap)(base:Nat)(e:Env)(t:Operand)(i:Nat):Option cG:=match evQ h e t with
 |some (.tuple vs)=>cC (bN vs.toList i) λv=>some (.val v h)
 |_=>none
def B8(h:Heap)(base:Nat)(e:Env)(f:Operand)(args:List Operand):Option cG:=match evQ h e f,Ah h e args with
 |some f,some args=>nO f args h
 |_,_=>none
def vp(h:Heap)(base:Nat)(e:Env):Nat->Operand->Option cG
 |0,x=>match evQ h e x with
  |some (.string s)=>some (.val (.int .i64 s.size) h)
  |_=>none
 |1,x=>match evQ h e x with
  |some (.slice _ n _)=>some (.val (.int .i64 n) h)
  |_=>none
 |_,x=>match evQ h e x with
  |some (.map none)=>some (.val (.int .i64 0) h)
  |some (.map (some r))=>match yq (lH h r)with
   |some es=>some (.val (.int .i64 (bG es)) h)
   |none=>none
  |_=>none
def vq(h:Heap)(base:Nat)(e:Env)(n:Nat):Option cG:=some (.val (.int .i64 n) h)
def IE(h:Heap)(base:Nat)(e:Env)(x:Operand):Option cG:=match evQ h e x with
 |some (.slice _ _ c)=>bif Nat.beq c UNK then none else some (.val (.int .i64 c) h)
 |_=>none
def vk(h:Heap)(base:Nat)(e:Env)(size:Nat)(bytes:Nat)(s:Operand)(x:Operand):Option cG:=match evQ h e s,evQ h e x with
 |some s,some x=>match LH h size x with
  |some (l,n)=>fu (tH h base size bytes s l n)
  |none=>none
 |_,_=>none
def sH(h:Heap)(base:Nat)(e:Env)(z:List Value)(bytes:Nat)(s:Operand)(n:Operand):Option cG:=match evQ h e s,evQ h e n with
 |some s,some n=>match nr n with
  |some n=>bif Nat.blt n 9223372036854775808&&Nat.ble (n*bytes) 281474976710656 then fu (tH h base (bG z) bytes s (dU n z) n)else none
  |none=>none
 |_,_=>none
def Ca(h:Heap)(base:Nat)(e:Env)(size:Nat)(d:Operand)(s:Operand):Option cG:=match evQ h e d,evQ h e s with
 |some (.slice a dl _),some s=>match LH h size s with
  |some (l,n)=>
   let m:=Nat.min n dl
   match a with
   |none=>some (.val (.int .i64 m) h)
   |some ⟨b,o,none⟩=>match lH h b with
    |some (.cells vs true sz)=>bif Nat.ble (o+m*size) (bG vs)&&dX (cu (m*size) l)then
     some (.val (.int .i64 m) (wrQ h base b (.cells (cM vs o (cu (m*size) l)) true sz)))
     else none
    |_=>none
   |_=>none
  |none=>none
 |_,_=>none
def ze(h:Heap)(base:Nat)(e:Env)(z:List Value)(x:Operand):Option cG:=match evQ h e x with
 |some (.slice a n _)=>
  bif Nat.beq n 0 then some (.val (.tuple #[]) h)else
  match a with
  |none=>some (.val (.tuple #[]) h)
  |some ⟨b,o,none⟩=>match lH h b with
   |some (.cells vs true sz)=>bif Nat.ble (o+bG (dU n z)) (bG vs)&&dX (dU n z)then some (.val (.tuple #[]) (wrQ h base b (.cells (cM vs o (dU n z)) true sz)))else none
   |_=>none
  |_=>none
 |_=>none
def vt(h:Heap)(base:Nat)(e:Env)(mx:Bool)(args:List Operand):Option cG:=match Ah h e args with
 |some (x::l)=>cC (mmA mx x l) λv=>some (.val v h)
 |_=>none
def vm(h:Heap)(base:Nat)(e:Env)(ag:Bool)(ls:List dI)(m:Operand)(k:Operand):Option cG:=match evQ h e m,evQ h e k with
 |some (.map (some r)),some k=>match lH h r with
  |some (.map es)=>bif p8 ag ls k then match wC ag ls k 0 es with
   |some (some (i,_))=>some (.val (.tuple #[]) (wrQ h base r (.map (AD es i))))
   |some none=>some (.val (.tuple #[]) (wrQ h base r (.map es)))
   |none=>none else none
  |_=>none
 |some (.map none),some k=>bif p8 ag ls k then some (.val (.tuple #[]) h)else none
 |_,_=>none
def Cb(h:Heap)(base:Nat)(e:Env)(f:Operand)(args:List Operand):Option cG:=match evQ h e f,Ah h e args with
 |some (.func (.func g) first cap),some args=>some (.ja (.func (.func g) first cap) args)
 |_,_=>none
def sL(h:Heap)(base:Nat)(e:Env):Option cG:=some .recover
def Ci(h:Heap)(base:Nat)(e:Env)(x:Operand):Option cG:=cC (evQ h e x) λv=>match v with
 | .iface _ _=>some (.panic v h)
 |_=>none
def zk(h:Heap)(base:Nat)(e:Env)(x:Operand):Option cG:=match evQ h e x with
 |some (.string s)=>some (.val (.pointer (some ⟨h.next,0,none⟩)) (h.push (.jS s 0)))
 |_=>none
def Cg(h:Heap)(base:Nat)(e:Env):Operand->Bool->Option cG
 |x,true=>match evQ h e x with
  |some (.pointer (some ⟨r,0,none⟩))=>match lH h r with
   |some (.jS s pos)=>bif Nat.blt pos s.size then
    let d:=Utf8.decode s pos
    some (.val (.tuple #[.bool true, .int .i64 pos, .int .i32 d.1]) (wrQ h base r (.jS s (pos+d.2))))
    else some (.val (.tuple #[.bool false]) h)
   |_=>none
  |_=>none
 |_,false=>none
def vz(h:Heap)(base:Nat)(e:Env)(_:Operand):Option cG:=none
def zf(h:Heap)(base:Nat)(e:Env)(_:Operand):Option cG:=none
def QS(x0:Operand)(h:Heap)(base:Nat)(e:Env):Option cG:=IF h base e x0
def Oi(x0:Operand)(x1:Operand)(x2:Operand)(h:Heap)(base:Nat)(e:Env):Option cG:=Ch h base e x0 x1 x2
def QT(x0:List Value)(h:Heap)(base:Nat)(e:Env):Option cG:=IG h base e x0
def QM(x0:Operand)(h:Heap)(base:Nat)(e:Env):Option cG:=ID h base e x0
def Ll(x0:List Value)(x1:List (Nat×Nat×Operand))(h:Heap)(base:Nat)(e:Env):Option cG:=zb h base e x0 x1
def IM(x0:List Value)(x1:Nat)(x2:List (Nat×Nat×Operand))(h:Heap)(base:Nat)(e:Env):Option cG:=vl h base e x0 x1 x2
def Og(x0:Option Nat)(x1:Operand)(h:Heap)(base:Nat)(e:Env):Option cG:=Cf h base e x0 x1
def Lu(x0:Nat)(x1:Operand)(x2:Operand)(h:Heap)(base:Nat)(e:Env):Option cG:=zm h base e x0 x1 x2
def IW(x0:Operand)(h:Heap)(base:Nat)(e:Env):Option cG:=vw h base e x0
def QL(x0:Bu)(x1:Operand)(x2:Operand)(h:Heap)(base:Nat)(e:Env):Option cG:=IC h base e x0 x1 x2
def SY(x0:UnOp)(x1:Operand)(h:Heap)(base:Nat)(e:Env):Option cG:=N8 h base e x0 x1
def Oa(x0:Cv)(x1:Operand)(h:Heap)(base:Nat)(e:Env):Option cG:=B9 h base e x0 x1
def EP(x0:TypeId)(x1:Operand)(h:Heap)(base:Nat)(e:Env):Option cG:=sJ h base e x0 x1
def IV(x0:Fn)(x1:List Operand)(x2:List Operand)(h:Heap)(base:Nat)(e:Env):Option cG:=vu h base e x0 x1 x2
def Lr(h:Heap)(base:Nat)(e:Env):Option cG:=zj h base e
def ER(x0:List Value)(x1:Nat)(x2:Operand)(x3:Operand)(h:Heap)(base:Nat)(e:Env):Option cG:=sK h base e x0 x1 x2 x3
def Lt(x0:ASl)(x1:Operand)(x2:Option Operand)(x3:Option Operand)(x4:Option Operand)(h:Heap)(base:Nat)(e:Env):Option cG:=zl h base e x0 x1 x2 x3 x4
def Lo(x0:Nat)(x1:Operand)(h:Heap)(base:Nat)(e:Env):Option cG:=zg h base e x0 x1
def Lp(x0:Nat)(x1:Option Nat)(x2:Operand)(h:Heap)(base:Nat)(e:Env):Option cG:=zh h base e x0 x1 x2
def IP(x0:Nat)(x1:Nat)(x2:Operand)(x3:Operand)(h:Heap)(base:Nat)(e:Env):Option cG:=vn h base e x0 x1 x2 x3
def IQ(x0:Nat)(x1:Operand)(x2:Operand)(h:Heap)(base:Nat)(e:Env):Option cG:=vo h base e x0 x1 x2
def Oe(x0:Nat)(x1:Nat)(x2:Option Nat)(x3:Operand)(x4:Operand)(h:Heap)(base:Nat)(e:Env):Option cG:=Cc h base e x0 x1 x2 x3 x4
def Of(x0:Operand)(x1:Operand)(h:Heap)(base:Nat)(e:Env):Option cG:=Cd h base e x0 x1
def IT(x0:Bool)(x1:List dI)(x2:Value)(x3:Bool)(x4:Operand)(x5:Operand)(h:Heap)(base:Nat)(e:Env):Option cG:=vr h base e x0 x1 x2 x3 x4 x5
def Lq(x0:Bool)(x1:List dI)(x2:Operand)(x3:Operand)(x4:Operand)(h:Heap)(base:Nat)(e:Env):Option cG:=zi h base e x0 x1 x2 x3 x4
def ET(x0:TypeId)(x1:Bool)(x2:Value)(x3:Operand)(h:Heap)(base:Nat)(e:Env):Option cG:=sM h base e x0 x1 x2 x3
def EO(x0:Operand)(x1:Nat)(h:Heap)(base:Nat)(e:Env):Option cG:=sI h base e x0 x1
def N9(x0:Operand)(x1:List Operand)(h:Heap)(base:Nat)(e:Env):Option cG:=B8 h base e x0 x1
def QO(x0:Nat)(x1:Operand)(h:Heap)(base:Nat)(e:Env):Option cG:=vp h base e x0 x1
def IS(x0:Nat)(h:Heap)(base:Nat)(e:Env):Option cG:=vq h base e x0
def QN(x0:Operand)(h:Heap)(base:Nat)(e:Env):Option cG:=IE h base e x0
def IL(x0:Nat)(x1:Nat)(x2:Operand)(x3:Operand)(h:Heap)(base:Nat)(e:Env):Option cG:=vk h base e x0 x1 x2 x3
def EN(x0:List Value)(x1:Nat)(x2:Operand)(x3:Operand)(h:Heap)(base:Nat)(e:Env):Option cG:=sH h base e x0 x1 x2 x3
def Oc(x0:Nat)(x1:Operand)(x2:Operand)(h:Heap)(base:Nat)(e:Env):Option cG:=Ca h base e x0 x1 x2
def Lm(x0:List Value)(x1:Operand)(h:Heap)(base:Nat)(e:Env):Option cG:=ze h base e x0 x1
def IU(x0:Bool)(x1:List Operand)(h:Heap)(base:Nat)(e:Env):Option cG:=vt h base e x0 x1
def IN(x0:Bool)(x1:List dI)(x2:Operand)(x3:Operand)(h:Heap)(base:Nat)(e:Env):Option cG:=vm h base e x0 x1 x2 x3
def Od(x0:Operand)(x1:List Operand)(h:Heap)(base:Nat)(e:Env):Option cG:=Cb h base e x0 x1
def ES(h:Heap)(base:Nat)(e:Env):Option cG:=sL h base e
def Oj(x0:Operand)(h:Heap)(base:Nat)(e:Env):Option cG:=Ci h base e x0
def Ls(x0:Operand)(h:Heap)(base:Nat)(e:Env):Option cG:=zk h base e x0
def Oh(x0:Operand)(x1:Bool)(h:Heap)(base:Nat)(e:Env):Option cG:=Cg h base e x0 x1
def IX(x0:Operand)(h:Heap)(base:Nat)(e:Env):Option cG:=vz h base e x0
def Ln(x0:Operand)(h:Heap)(base:Nat)(e:Env):Option cG:=zf h base e x0
def Rt(o:AOp):Heap->Nat->Env->Option cG:=AOp.rec (motive:=λ_=>Heap->Nat->Env->Option cG) QS Oi QT QM Ll IM Og Lu IW QL SY Oa EP IV Lr ER Lt Lo Lp IP IQ Oe Of IT Lq ET EO N9 QO IS QN IL EN Oc Lm IU IN Od ES Oj Ls Oh IX Ln o
def BA(h:Heap)(base:Nat)(e:Env)(o:AOp):Option cG:=Rt o h base e
theorem jr:BA=aop:=by
 funext h base e o;cases o;case mov x0=>show IF h base e x0=_;first|rfl|(unfold IF;simp only[bF,bh,aY,bB,aZ,aQ,aM,bk,bL,bQ,aU,aW,aV,bT,aP];rfl)
 case pick x0 x1 x2=>show Ch h base e x0 x1 x2=_;first|rfl|(unfold Ch;simp only[bF,bh,aY,bB,aZ,aQ,aM,bk,bL,bQ,aU,aW,aV,bT,aP];rfl)
 case new x0=>show IG h base e x0=_;first|rfl|(unfold IG;simp only[bF,bh,aY,bB,aZ,aQ,aM,bk,bL,bQ,aU,aW,aV,bT,aP];rfl)
 case box x0=>show ID h base e x0=_;first|rfl|(unfold ID;simp only[bF,bh,aY,bB,aZ,aQ,aM,bk,bL,bQ,aU,aW,aV,bT,aP];rfl)
 case build x0 x1=>show zb h base e x0 x1=_;first|rfl|(unfold zb;simp only[bF,bh,aY,bB,aZ,aQ,aM,bk,bL,bQ,aU,aW,aV,bT,aP];rfl)
 case cU x0 x1 x2=>show vl h base e x0 x1 x2=_;first|rfl|(unfold vl;simp only[bF,bh,aY,bB,aZ,aQ,aM,bk,bL,bQ,aU,aW,aV,bT,aP];rfl)
 case load x0 x1=>show Cf h base e x0 x1=_;first|rfl|(unfold Cf;simp only[bF,bh,aY,bB,aZ,aQ,aM,bk,bL,bQ,aU,aW,aV,bT,aP];rfl)
 case store x0 x1 x2=>show zm h base e x0 x1 x2=_;first|rfl|(unfold zm;simp only[bF,bh,aY,bB,aZ,aQ,aM,bk,bL,bQ,aU,aW,aV,bT,aP];rfl)
 case bV x0=>show vw h base e x0=_;first|rfl|(unfold vw;simp only[bF,bh,aY,bB,aZ,aQ,aM,bk,bL,bQ,aU,aW,aV,bT,aP];rfl)
 case un x0 x1=>show N8 h base e x0 x1=_;first|rfl|(unfold N8;simp only[bF,bh,aY,bB,aZ,aQ,aM,bk,bL,bQ,aU,aW,aV,bT,aP];rfl)
 case conv x0 x1=>show B9 h base e x0 x1=_;first|rfl|(unfold B9;simp only[bF,bh,aY,bB,aZ,aQ,aM,bk,bL,bQ,aU,aW,aV,bT,aP];rfl)
 case gZ x0 x1=>show sJ h base e x0 x1=_;first|rfl|(unfold sJ;simp only[bF,bh,aY,bB,aZ,aQ,aM,bk,bL,bQ,aU,aW,aV,bT,aP];rfl)
 case dV x0 x1 x2=>show vu h base e x0 x1 x2=_;first|rfl|(unfold vu;simp only[bF,bh,aY,bB,aZ,aQ,aM,bk,bL,bQ,aU,aW,aV,bT,aP];rfl)
 case mkMap=>show zj h base e=_;first|rfl|(unfold zj;simp only[bF,bh,aY,bB,aZ,aQ,aM,bk,bL,bQ,aU,aW,aV,bT,aP];rfl)
 case mkSlice x0 x1 x2 x3=>show sK h base e x0 x1 x2 x3=_;first|rfl|(unfold sK;simp only[bF,bh,aY,bB,aZ,aQ,aM,bk,bL,bQ,aU,aW,aV,bT,aP];rfl)
 case cS x0 x1=>show zg h base e x0 x1=_;first|rfl|(unfold zg;simp only[bF,bh,aY,bB,aZ,aQ,aM,bk,bL,bQ,aU,aW,aV,bT,aP];rfl)
 case field x0 x1 x2=>show zh h base e x0 x1 x2=_;first|rfl|(unfold zh;simp only[bF,bh,aY,bB,aZ,aQ,aM,bk,bL,bQ,aU,aW,aV,bT,aP];rfl)
 case cm x0 x1 x2 x3=>show vn h base e x0 x1 x2 x3=_;first|rfl|(unfold vn;simp only[bF,bh,aY,bB,aZ,aQ,aM,bk,bL,bQ,aU,aW,aV,bT,aP];rfl)
 case aJ x0 x1 x2=>show vo h base e x0 x1 x2=_;first|rfl|(unfold vo;simp only[bF,bh,aY,bB,aZ,aQ,aM,bk,bL,bQ,aU,aW,aV,bT,aP];rfl)
 case sk x0 x1 x2 x3 x4=>show Cc h base e x0 x1 x2 x3 x4=_;first|rfl|(unfold Cc;simp only[bF,bh,aY,bB,aZ,aQ,aM,bk,bL,bQ,aU,aW,aV,bT,aP];rfl)
 case iN x0 x1=>show Cd h base e x0 x1=_;first|rfl|(unfold Cd;simp only[bF,bh,aY,bB,aZ,aQ,aM,bk,bL,bQ,aU,aW,aV,bT,aP];rfl)
 case lookup x0 x1 x2 x3 x4 x5=>show vr h base e x0 x1 x2 x3 x4 x5=_;first|rfl|(unfold vr;simp only[bF,bh,aY,bB,aZ,aQ,aM,bk,bL,bQ,aU,aW,aV,bT,aP];rfl)
 case nV x0 x1 x2 x3 x4=>show zi h base e x0 x1 x2 x3 x4=_;first|rfl|(unfold zi;simp only[bF,bh,aY,bB,aZ,aQ,aM,bk,bL,bQ,aU,aW,aV,bT,aP];rfl)
 case jA x0 x1 x2 x3=>show sM h base e x0 x1 x2 x3=_;first|rfl|(unfold sM;simp only[bF,bh,aY,bB,aZ,aQ,aM,bk,bL,bQ,aU,aW,aV,bT,aP];rfl)
 case extract x0 x1=>show sI h base e x0 x1=_;first|rfl|(unfold sI;simp only[bF,bh,aY,bB,aZ,aQ,aM,bk,bL,bQ,aU,aW,aV,bT,aP];rfl)
 case call x0 x1=>show B8 h base e x0 x1=_;first|rfl|(unfold B8;simp only[bF,bh,aY,bB,aZ,aQ,aM,bk,bL,bQ,aU,aW,aV,bT,aP];rfl)
 case jk x0=>show vq h base e x0=_;first|rfl|(unfold vq;simp only[bF,bh,aY,bB,aZ,aQ,aM,bk,bL,bQ,aU,aW,aV,bT,aP];rfl)
 case cap x0=>show IE h base e x0=_;first|rfl|(unfold IE;simp only[bF,bh,aY,bB,aZ,aQ,aM,bk,bL,bQ,aU,aW,aV,bT,aP];rfl)
 case append x0 x1 x2 x3=>show vk h base e x0 x1 x2 x3=_;first|rfl|(unfold vk;simp only[bF,bh,aY,bB,aZ,aQ,aM,bk,bL,bQ,aU,aW,aV,bT,aP];rfl)
 case jt x0 x1 x2 x3=>show sH h base e x0 x1 x2 x3=_;first|rfl|(unfold sH;simp only[bF,bh,aY,bB,aZ,aQ,aM,bk,bL,bQ,aU,aW,aV,bT,aP];rfl)
 case copy x0 x1 x2=>show Ca h base e x0 x1 x2=_;first|rfl|(unfold Ca;simp only[bF,bh,aY,bB,aZ,aQ,aM,bk,bL,bQ,aU,aW,aV,bT,aP];rfl)
 case clear x0 x1=>show ze h base e x0 x1=_;first|rfl|(unfold ze;simp only[bF,bh,aY,bB,aZ,aQ,aM,bk,bL,bQ,aU,aW,aV,bT,aP];rfl)
 case dG x0 x1=>show vt h base e x0 x1=_;first|rfl|(unfold vt;simp only[bF,bh,aY,bB,aZ,aQ,aM,bk,bL,bQ,aU,aW,aV,bT,aP];rfl)
 case delete x0 x1 x2 x3=>show vm h base e x0 x1 x2 x3=_;first|rfl|(unfold vm;simp only[bF,bh,aY,bB,aZ,aQ,aM,bk,bL,bQ,aU,aW,aV,bT,aP];rfl)
 case ja x0 x1=>show Cb h base e x0 x1=_;first|rfl|(unfold Cb;simp only[bF,bh,aY,bB,aZ,aQ,aM,bk,bL,bQ,aU,aW,aV,bT,aP];rfl)
 case recover=>show sL h base e=_;first|rfl|(unfold sL;simp only[bF,bh,aY,bB,aZ,aQ,aM,bk,bL,bQ,aU,aW,aV,bT,aP];rfl)
 case sG x0=>show Ci h base e x0=_;first|rfl|(unfold Ci;simp only[bF,bh,aY,bB,aZ,aQ,aM,bk,bL,bQ,aU,aW,aV,bT,aP];rfl)
 case range x0=>show zk h base e x0=_;first|rfl|(unfold zk;simp only[bF,bh,aY,bB,aZ,aQ,aM,bk,bL,bQ,aU,aW,aV,bT,aP];rfl)
 case lN x0=>show vz h base e x0=_;first|rfl|(unfold vz;simp only[bF,bh,aY,bB,aZ,aQ,aM,bk,bL,bQ,aU,aW,aV,bT,aP];rfl)
 case entry x0=>show zf h base e x0=_;first|rfl|(unfold zf;simp only[bF,bh,aY,bB,aZ,aQ,aM,bk,bL,bQ,aU,aW,aV,bT,aP];rfl)
 case bin op x y=>show IC h base e op x y=_;cases op<;>(simp only[IC,aop,bF,bh,aY,bB,aZ,aQ,aM,bk,bL,bQ,aU,aW,aV,bT,aP];first|done|rfl)
 case slice k x lo hi mx=>show zl h base e k x lo hi mx=_;cases k<;>cases mx<;>(simp only[zl,aop,bF,bh,aY,bB,aZ,aQ,aM,bk,bL,bQ,aU,aW,aV,bT,aP];first|done|rfl)
 case len k x=>
  match k with
  |0=>show vp h base e 0 x=_;simp only[vp,aop,bF,bh,aY,bB,aZ,aQ,aM,bk,bL,bQ,aU,aW,aV,bT,aP];first|done|rfl
  |1=>show vp h base e 1 x=_;simp only[vp,aop,bF,bh,aY,bB,aZ,aQ,aM,bk,bL,bQ,aU,aW,aV,bT,aP];first|done|rfl
  |k+2=>show vp h base e (k+2) x=_;simp only[vp,aop,bF,bh,aY,bB,aZ,aQ,aM,bk,bL,bQ,aU,aW,aV,bT,aP];first|done|rfl
 case next x s=>show Cg h base e x s=_;cases s<;>(simp only[Cg,aop,bF,bh,aY,bB,aZ,aQ,aM,bk,bL,bQ,aU,aW,aV,bT,aP];first|done|rfl)
def QD(x0:Operand):List Operand:=cK (.mov x0)
def NU(x0:Operand)(x1:Operand)(x2:Operand):List Operand:=cK (.pick x0 x1 x2)
def QE(x0:List Value):List Operand:=cK (.new x0)
def QA(x0:Operand):List Operand:=cK (.box x0)
def KQ(x0:List Value)(x1:List (Nat×Nat×Operand)):List Operand:=cK (.build x0 x1)
def HR(x0:List Value)(x1:Nat)(x2:List (Nat×Nat×Operand)):List Operand:=cK (.cU x0 x1 x2)
def NS(x0:Option Nat)(x1:Operand):List Operand:=cK (.load x0 x1)
def K3(x0:Nat)(x1:Operand)(x2:Operand):List Operand:=cK (.store x0 x1 x2)
def HZ(x0:Operand):List Operand:=cK (.bV x0)
def Qz(x0:Bu)(x1:Operand)(x2:Operand):List Operand:=cK (.bin x0 x1 x2)
def SR(x0:UnOp)(x1:Operand):List Operand:=cK (.un x0 x1)
def NN(x0:Cv)(x1:Operand):List Operand:=cK (.conv x0 x1)
def Ey(x0:TypeId)(x1:Operand):List Operand:=cK (.gZ x0 x1)
def HY(x0:Fn)(x1:List Operand)(x2:List Operand):List Operand:=cK (.dV x0 x1 x2)
def KY:List Operand:=cK (.mkMap)
def Ez(x0:List Value)(x1:Nat)(x2:Operand)(x3:Operand):List Operand:=cK (.mkSlice x0 x1 x2 x3)
def K0(x0:ASl)(x1:Operand)(x2:Option Operand)(x3:Option Operand)(x4:Option Operand):List Operand:=cK (.slice x0 x1 x2 x3 x4)
def KV(x0:Nat)(x1:Operand):List Operand:=cK (.cS x0 x1)
def KW(x0:Nat)(x1:Option Nat)(x2:Operand):List Operand:=cK (.field x0 x1 x2)
def HT(x0:Nat)(x1:Nat)(x2:Operand)(x3:Operand):List Operand:=cK (.cm x0 x1 x2 x3)
def HU(x0:Nat)(x1:Operand)(x2:Operand):List Operand:=cK (.aJ x0 x1 x2)
def NQ(x0:Nat)(x1:Nat)(x2:Option Nat)(x3:Operand)(x4:Operand):List Operand:=cK (.sk x0 x1 x2 x3 x4)
def NR(x0:Operand)(x1:Operand):List Operand:=cK (.iN x0 x1)
def HW(x0:Bool)(x1:List dI)(x2:Value)(x3:Bool)(x4:Operand)(x5:Operand):List Operand:=cK (.lookup x0 x1 x2 x3 x4 x5)
def KX(x0:Bool)(x1:List dI)(x2:Operand)(x3:Operand)(x4:Operand):List Operand:=cK (.nV x0 x1 x2 x3 x4)
def EB(x0:TypeId)(x1:Bool)(x2:Value)(x3:Operand):List Operand:=cK (.jA x0 x1 x2 x3)
def Ex(x0:Operand)(x1:Nat):List Operand:=cK (.extract x0 x1)
def NM(x0:Operand)(x1:List Operand):List Operand:=cK (.call x0 x1)
def QC(x0:Nat)(x1:Operand):List Operand:=cK (.len x0 x1)
def HV(x0:Nat):List Operand:=cK (.jk x0)
def QB(x0:Operand):List Operand:=cK (.cap x0)
def HQ(x0:Nat)(x1:Nat)(x2:Operand)(x3:Operand):List Operand:=cK (.append x0 x1 x2 x3)
def Ew(x0:List Value)(x1:Nat)(x2:Operand)(x3:Operand):List Operand:=cK (.jt x0 x1 x2 x3)
def NO(x0:Nat)(x1:Operand)(x2:Operand):List Operand:=cK (.copy x0 x1 x2)
def KT(x0:List Value)(x1:Operand):List Operand:=cK (.clear x0 x1)
def HX(x0:Bool)(x1:List Operand):List Operand:=cK (.dG x0 x1)
def HS(x0:Bool)(x1:List dI)(x2:Operand)(x3:Operand):List Operand:=cK (.delete x0 x1 x2 x3)
def NP(x0:Operand)(x1:List Operand):List Operand:=cK (.ja x0 x1)
def EA:List Operand:=cK (.recover)
def NV(x0:Operand):List Operand:=cK (.sG x0)
def KZ(x0:Operand):List Operand:=cK (.range x0)
def NT(x0:Operand)(x1:Bool):List Operand:=cK (.next x0 x1)
def H9(x0:Operand):List Operand:=cK (.lN x0)
def KU(x0:Operand):List Operand:=cK (.entry x0)
def yR(o:AOp):List Operand:=AOp.rec (motive:=λ_=>List Operand) QD NU QE QA KQ HR NS K3 HZ Qz SR NN Ey HY KY Ez K0 KV KW HT HU NQ NR HW KX EB Ex NM QC HV QB HQ Ew NO KT HX HS NP EA NV KZ NT H9 KU o
theorem B2:yR=cK:=by funext o;cases o<;>rfl
def Q9(x0:Operand):Bool:=cB (.mov x0)
def OB(x0:Operand)(x1:Operand)(x2:Operand):Bool:=cB (.pick x0 x1 x2)
def Ra(x0:List Value):Bool:=cB (.new x0)
def Q6(x0:Operand):Bool:=cB (.box x0)
def LL(x0:List Value)(x1:List (Nat×Nat×Operand)):Bool:=cB (.build x0 x1)
def Jn(x0:List Value)(x1:Nat)(x2:List (Nat×Nat×Operand)):Bool:=cB (.cU x0 x1 x2)
def Oz(x0:Option Nat)(x1:Operand):Bool:=cB (.load x0 x1)
def LW(x0:Nat)(x1:Operand)(x2:Operand):Bool:=cB (.store x0 x1 x2)
def Jv(x0:Operand):Bool:=cB (.bV x0)
def Q5(x0:Bu)(x1:Operand)(x2:Operand):Bool:=cB (.bin x0 x1 x2)
def S7(x0:UnOp)(x1:Operand):Bool:=cB (.un x0 x1)
def Ou(x0:Cv)(x1:Operand):Bool:=cB (.conv x0 x1)
def Fc(x0:TypeId)(x1:Operand):Bool:=cB (.gZ x0 x1)
def Ju(x0:Fn)(x1:List Operand)(x2:List Operand):Bool:=cB (.dV x0 x1 x2)
def LS:Bool:=cB (.mkMap)
def Fe(x0:List Value)(x1:Nat)(x2:Operand)(x3:Operand):Bool:=cB (.mkSlice x0 x1 x2 x3)
def LV(x0:ASl)(x1:Operand)(x2:Option Operand)(x3:Option Operand)(x4:Option Operand):Bool:=cB (.slice x0 x1 x2 x3 x4)
def LO(x0:Nat)(x1:Operand):Bool:=cB (.cS x0 x1)
def LP(x0:Nat)(x1:Option Nat)(x2:Operand):Bool:=cB (.field x0 x1 x2)
def Jp(x0:Nat)(x1:Nat)(x2:Operand)(x3:Operand):Bool:=cB (.cm x0 x1 x2 x3)
def Jq(x0:Nat)(x1:Operand)(x2:Operand):Bool:=cB (.aJ x0 x1 x2)
def Ox(x0:Nat)(x1:Nat)(x2:Option Nat)(x3:Operand)(x4:Operand):Bool:=cB (.sk x0 x1 x2 x3 x4)
def Oy(x0:Operand)(x1:Operand):Bool:=cB (.iN x0 x1)
def Js(x0:Bool)(x1:List dI)(x2:Value)(x3:Bool)(x4:Operand)(x5:Operand):Bool:=cB (.lookup x0 x1 x2 x3 x4 x5)
def LQ(x0:Bool)(x1:List dI)(x2:Operand)(x3:Operand)(x4:Operand):Bool:=cB (.nV x0 x1 x2 x3 x4)
def Fg(x0:TypeId)(x1:Bool)(x2:Value)(x3:Operand):Bool:=cB (.jA x0 x1 x2 x3)
def Fb(x0:Operand)(x1:Nat):Bool:=cB (.extract x0 x1)
def Ot(x0:Operand)(x1:List Operand):Bool:=cB (.call x0 x1)
def Q8(x0:Nat)(x1:Operand):Bool:=cB (.len x0 x1)
def Jr(x0:Nat):Bool:=cB (.jk x0)
def Q7(x0:Operand):Bool:=cB (.cap x0)
def Jm(x0:Nat)(x1:Nat)(x2:Operand)(x3:Operand):Bool:=cB (.append x0 x1 x2 x3)
def Fa(x0:List Value)(x1:Nat)(x2:Operand)(x3:Operand):Bool:=cB (.jt x0 x1 x2 x3)
def Ov(x0:Nat)(x1:Operand)(x2:Operand):Bool:=cB (.copy x0 x1 x2)
def LM(x0:List Value)(x1:Operand):Bool:=cB (.clear x0 x1)
def Jt(x0:Bool)(x1:List Operand):Bool:=cB (.dG x0 x1)
def Jo(x0:Bool)(x1:List dI)(x2:Operand)(x3:Operand):Bool:=cB (.delete x0 x1 x2 x3)
def Ow(x0:Operand)(x1:List Operand):Bool:=cB (.ja x0 x1)
def Ff:Bool:=cB (.recover)
def OC(x0:Operand):Bool:=cB (.sG x0)
def LU(x0:Operand):Bool:=cB (.range x0)
def OA(x0:Operand)(x1:Bool):Bool:=cB (.next x0 x1)
def Jw(x0:Operand):Bool:=cB (.lN x0)
def LN(x0:Operand):Bool:=cB (.entry x0)
def DD(o:AOp):Bool:=AOp.rec (motive:=λ_=>Bool) Q9 OB Ra Q6 LL Jn Oz LW Jv Q5 S7 Ou Fc Ju LS Fe LV LO LP Jp Jq Ox Oy Js LQ Fg Fb Ot Q8 Jr Q7 Jm Fa Ov LM Jt Jo Ow Ff OC LU OA Jw LN o
theorem Cm:DD=cB:=by funext o;cases o<;>rfl
def Ri(x0:Operand):Bool:=cW (.mov x0)
def OP(x0:Operand)(x1:Operand)(x2:Operand):Bool:=cW (.pick x0 x1 x2)
def Rj(x0:List Value):Bool:=cW (.new x0)
def Rf(x0:Operand):Bool:=cW (.box x0)
def Ma(x0:List Value)(x1:List (Nat×Nat×Operand)):Bool:=cW (.build x0 x1)
def JJ(x0:List Value)(x1:Nat)(x2:List (Nat×Nat×Operand)):Bool:=cW (.cU x0 x1 x2)
def ON(x0:Option Nat)(x1:Operand):Bool:=cW (.load x0 x1)
def Mj(x0:Nat)(x1:Operand)(x2:Operand):Bool:=cW (.store x0 x1 x2)
def JS(x0:Operand):Bool:=cW (.bV x0)
def Re(x0:Bu)(x1:Operand)(x2:Operand):Bool:=cW (.bin x0 x1 x2)
def Tb(x0:UnOp)(x1:Operand):Bool:=cW (.un x0 x1)
def OI(x0:Cv)(x1:Operand):Bool:=cW (.conv x0 x1)
def Fq(x0:TypeId)(x1:Operand):Bool:=cW (.gZ x0 x1)
def JQ(x0:Fn)(x1:List Operand)(x2:List Operand):Bool:=cW (.dV x0 x1 x2)
def Mg:Bool:=cW (.mkMap)
def Fs(x0:List Value)(x1:Nat)(x2:Operand)(x3:Operand):Bool:=cW (.mkSlice x0 x1 x2 x3)
def Mi(x0:ASl)(x1:Operand)(x2:Option Operand)(x3:Option Operand)(x4:Option Operand):Bool:=cW (.slice x0 x1 x2 x3 x4)
def Md(x0:Nat)(x1:Operand):Bool:=cW (.cS x0 x1)
def Me(x0:Nat)(x1:Option Nat)(x2:Operand):Bool:=cW (.field x0 x1 x2)
def JL(x0:Nat)(x1:Nat)(x2:Operand)(x3:Operand):Bool:=cW (.cm x0 x1 x2 x3)
def JM(x0:Nat)(x1:Operand)(x2:Operand):Bool:=cW (.aJ x0 x1 x2)
def OL(x0:Nat)(x1:Nat)(x2:Option Nat)(x3:Operand)(x4:Operand):Bool:=cW (.sk x0 x1 x2 x3 x4)
def OM(x0:Operand)(x1:Operand):Bool:=cW (.iN x0 x1)
def JO(x0:Bool)(x1:List dI)(x2:Value)(x3:Bool)(x4:Operand)(x5:Operand):Bool:=cW (.lookup x0 x1 x2 x3 x4 x5)
def Mf(x0:Bool)(x1:List dI)(x2:Operand)(x3:Operand)(x4:Operand):Bool:=cW (.nV x0 x1 x2 x3 x4)
def Fu(x0:TypeId)(x1:Bool)(x2:Value)(x3:Operand):Bool:=cW (.jA x0 x1 x2 x3)
def Fp(x0:Operand)(x1:Nat):Bool:=cW (.extract x0 x1)
def OH(x0:Operand)(x1:List Operand):Bool:=cW (.call x0 x1)
def Rh(x0:Nat)(x1:Operand):Bool:=cW (.len x0 x1)
def JN(x0:Nat):Bool:=cW (.jk x0)
def Rg(x0:Operand):Bool:=cW (.cap x0)
def JI(x0:Nat)(x1:Nat)(x2:Operand)(x3:Operand):Bool:=cW (.append x0 x1 x2 x3)
def Fo(x0:List Value)(x1:Nat)(x2:Operand)(x3:Operand):Bool:=cW (.jt x0 x1 x2 x3)
def OJ(x0:Nat)(x1:Operand)(x2:Operand):Bool:=cW (.copy x0 x1 x2)
def Mb(x0:List Value)(x1:Operand):Bool:=cW (.clear x0 x1)
def JP(x0:Bool)(x1:List Operand):Bool:=cW (.dG x0 x1)
def JK(x0:Bool)(x1:List dI)(x2:Operand)(x3:Operand):Bool:=cW (.delete x0 x1 x2 x3)
def OK(x0:Operand)(x1:List Operand):Bool:=cW (.ja x0 x1)
def Ft:Bool:=cW (.recover)
def OQ(x0:Operand):Bool:=cW (.sG x0)
def Mh(x0:Operand):Bool:=cW (.range x0)
def OO(x0:Operand)(x1:Bool):Bool:=cW (.next x0 x1)
def JT(x0:Operand):Bool:=cW (.lN x0)
def Mc(x0:Operand):Bool:=cW (.entry x0)
def BK(o:AOp):Bool:=AOp.rec (motive:=λ_=>Bool) Ri OP Rj Rf Ma JJ ON Mj JS Re Tb OI Fq JQ Mg Fs Mi Md Me JL JM OL OM JO Mf Fu Fp OH Rh JN Rg JI Fo OJ Mb JP JK OK Ft OQ Mh OO JT Mc o
theorem gM:BK=cW:=by funext o;cases o<;>rfl
def xU(o:AOp):Bool:=DD o||BK o
theorem gh:xU=iQ:=by funext o;simp only[xU,iQ,Cm,gM]
def jZ(o:aX):List Nat:=
 match o.guard with
 |some (t,_)=>t::xD (yR o.op)
 |none=>xD (yR o.op)
theorem gz:jZ=ct:=by funext o;unfold jZ ct;simp only[B2];rfl
def qn:List Value->List Value->Bool
 |[],[]=>true
 |x::xs,y::ys=>bif zu x y then qn xs ys else false
 |_,_=>false
def Cr:Value->Value->Bool
 | .agg a, .agg b=>qn a.toList b.toList
 | .tuple a, .tuple b=>qn a.toList b.toList
 | .func (.func f) a' a, .func (.func g) b' b=>f==g&&(qn a'.toList b'.toList&&qn a.toList b.toList)
 |x,y=>zu x y
def DE(h:Heap)(base:Nat)(r:Rec):Bool:=
 match r.k with
 | .quiet=>match BA h base r.e r.o.op with
   |some (.val v' h2)=>Cr r.v v'&&Nat.beq h2.next h.next
   |_=>false
 |_=>true
def zn(h:Heap)(base:Nat):List Rec->Bool
 |[]=>true
 |r::rs=>bif DE h base r then zn h base rs else false
def iI(h:Heap)(base:Nat)(log:List Nat)(mask:Nat):List Rec->Option (List Rec)
 |[]=>some []
 |r::rs=>bif Nat.testBit mask r.i then iI h base log mask rs else
  bif DE h base r&&EU log r then match iI h base log mask rs with
   |some rs'=>some (r::rs')
   |none=>none
  else none
theorem EZ:qn=kQ:=by
 funext a;induction a with
 |nil=>funext b;cases b<;>rfl
 |cons x a ih=>funext b;cases b<;>first|rfl|(simp only[qn,kQ,xk,ih])
theorem E2:Cr=iM:=by
 funext a b;unfold Cr iM;simp only[EZ,xk];first|done|rfl
theorem Bf:DE=qk:=by
 funext h base r;unfold DE qk;simp only[jr,E2];first|done|rfl
theorem hM:zn=mB:=by
 funext h base rs;induction rs with
 |nil=>rfl
 |cons r rs ih=>simp only[zn,mB,Bf,ih]
theorem ez:iI=bA:=by
 funext h base log mask rs;induction rs with
 |nil=>rfl
 |cons r rs ih=>simp only[iI,bA,Bf,ih];first|done|rfl
def IK(T:Nat->Option af)(F:Fam)(base:Nat)(rnd:Option Nat)(ops:List aX)(it:Nat)(x:Operand)(keep:List Nat)(out nxt pr:Nat)(ops2:List aX)(k2:List Nat)(body:aT)(e:Env)(ds:Dfs)(h:Heap):Option (bq×Env×Dfs×Heap):=match F.ops base rnd ops e ds h with
 |some (.normal,e0,ds0,h0)=>match ds0 with
  |_::_=>none
  |[]=>match evQ h0 e0 x with
   |some (.map none)=>some (.normal,jD e0 keep,[],h0)
   |some (.map (some m))=>match lH h0 m with
    |some (.map es)=>D0 out (jD e0 keep) h0 (nF (λe h=>F.ops (h0.next+1) rnd ops2 e [] h) (λe h=>F.exec (h0.next+1) rnd body e [] h) nxt pr k2 (itE it h0 (jD e0 keep)) (jD e0 keep) ((roM h0 m es).push .dead) es)
    |_=>none
   |_=>none
 |r=>r
def Bb(T:Nat->Option af)(F:Fam)(base:Nat)(rnd:Option Nat)(f:Operand)(ps:List Nat)(asg body:aT)(e:Env)(ds:Dfs)(h:Heap):Option (bq×Env×Dfs×Heap):=bif mY h rnd then match evQ h e f with
 |some (.func (.func g) first cap)=>bif fN (T g)then none else
  match F.call g (dD first.toList (dD [.func (.yield h.next) #[] #[]] cap.toList)) {h.push (.loop e ps asg body 0 .normal)with log:=[]}with
  |some (.ret _,h2)=>match lH h2 h.next with
   |some (.loop _ _ _ _ st gT)=>bif Nat.beq st 1 then none else
    some (gT,e,ds,Heap.wr {h2 with log:=aC base h.log h2.log} base h.next .dead)
   |_=>none
  |some (.panic v,h2)=>some (.panic v,e,ds,{h2 with log:=aC base h.log h2.log})
  |none=>none
 |_=>none
 else none
def Bc(F:Fam)(l:Nat)(args:List Value)(h:Heap):Option (Res×Heap):=match lH h l with
 |some (.loop e ps asg body 0 .normal)=>match ia e ps args with
  |some e1=>match F.exec h.next (some l) asg e1 [] h with
   |some (.normal,e2,ds2,h2)=>bif notReady (lH h2 l)then none else match F.exec h.next (some l) body e2 ds2 {h2 with bP:=soQ h2.bP l (.loop e ps asg body 1 .normal)}with
    |some (.normal,_,_,h3)=>match lH h3 l with
     |some (.loop _ _ _ _ 1 _)=>some (.ret (.bool true),gcA h {h3 with bP:=soQ h3.bP l (.loop e ps asg body 0 .normal)} (.bool true))
     |_=>none
    |some (.exit i,_,_,h3)=>match lH h3 l with
     |some (.loop _ _ _ _ 1 _)=>some (.ret (.bool false),h3.wr h.next l (.loop e ps asg body 2 (.exit i)))
     |_=>none
    |some (.ret,_,_,h3)=>match lH h3 l with
     |some (.loop _ _ _ _ 1 _)=>some (.ret (.bool false),h3.wr h.next l (.loop e ps asg body 2 .ret))
     |_=>none
    |_=>none
   |_=>none
  |none=>none
 |_=>none
def FJ(T:Nat->Option af)(F:Fam):Nat->Option Nat->aT->Env->Dfs->Heap->Option (bq×Env×Dfs×Heap):=λbase rnd c e ds h=>
 match c with
 | .skip=>some (.normal,e,ds,h)
 | .region ops keep=>match F.ops base rnd ops e ds h with
   |some (.normal,e',ds',h')=>some (.normal,jD e' keep,ds',h')
   |r=>r
 | .draw ops order before keep=>match F.draw base ops order before [] e h with
   |some (.normal,e',h')=>some (.normal,jD e' keep,ds,h')
   |some (x,e',h')=>some (x,e',ds,h')
   |none=>none
 | .seq a b=>match F.exec base rnd a e ds h with
   |some (.normal,e',ds',h')=>F.exec base rnd b e' ds' h'
   |r=>r
 | .cond c a b=>match evQ h e c with
   |some (.bool true)=>F.exec base rnd a e ds h
   |some (.bool false)=>F.exec base rnd b e ds h
   |_=>none
 | .block id b=>match F.exec base rnd b e ds h with
   |some (.exit i,e',ds',h')=>bif Nat.beq i id then some (.normal,e',ds',h')else some (.exit i,e',ds',h')
   |r=>r
 | .loop b=>match F.exec base rnd b e ds h with
   |some (.normal,e',ds',h')=>F.exec base rnd (.loop b) e' ds' h'
   |r=>r
 | .scope b=>F.exec base rnd b e ds h
 | .rangeFunc f ps asg body=>Bb T F base rnd f ps asg body e ds h
 | .rangeMap ops it x keep out nxt pr ops2 k2 body=>IK T F base rnd ops it x keep out nxt pr ops2 k2 body e ds h
 | .exit id=>some (.exit id,e,ds,h)
 | .ret=>some (.ret,e,ds,h)
def Mx(T:Nat->Option af)(F:Fam):Nat->Option Nat->List aX->Env->Dfs->Heap->Option (bq×Env×Dfs×Heap):=λbase rnd ops e ds h=>
 match ops with
 |[]=>some (.normal,e,ds,h)
 |o::os=>match rP e o.guard with
  |some false=>F.ops base rnd os (bR e o.dst (.tuple #[])) ds h
  |some true=>match BA h base e o.op with
   |some (.val v h')=>F.ops base rnd os (bR e o.dst v) ds h'
   |some (.call fn args h')=>match F.ir fn args {h' with log:=[]}with
    |some (.ret v,h2)=>F.ops base rnd os (bR e o.dst v) ds {h2 with log:=aC base h'.log h2.log}
    |some (.panic v,h2)=>some (.panic v,e,ds,{h2 with log:=aC base h'.log h2.log})
    |none=>none
   |some (.ja f args)=>match rnd with|some _=>none|none=>F.ops base rnd os (bR e o.dst (.tuple #[])) ((f,args)::ds) h
   |some (.panic v h')=>some (.panic v,e,ds,h')
   |_=>none
  |none=>none
def FI(T:Nat->Option af)(F:Fam):Nat->List aX->List Nat->List Nat->List Rec->Env->Heap->Option (bq×Env×Heap):=λbase ops order before rs e h=>
 match order with
 |[]=>some (.normal,e,h)
 |i::is=>match bN ops i,bN before i with
  |some o,some mask=>
   match rP (jD e (jZ o)) o.guard with
   |some false=>F.draw base ops is before (⟨i,o,jD e (jZ o), .tuple #[], .skip⟩::rs) (bR e o.dst (.tuple #[])) h
   |some true=>
    bif xU o.op then
     match BA h base (jD e (jZ o)) o.op with
     |some (.val v h')=>
      bif BK o.op then
       bif zn h' base rs then F.draw base ops is before (⟨i,o,jD e (jZ o),v, .made h.next⟩::rs) (bR e o.dst v) h' else none
      else bif Nat.beq h'.next h.next then F.draw base ops is before (⟨i,o,jD e (jZ o),v, .quiet⟩::rs) (bR e o.dst v) h
      else bif vZ before i is then
       match BA {h with log:=[]} h.next (jD e (jZ o)) o.op with
       |some (.val v h2)=>match iI {h2 with log:=aC base h.log h2.log} base h2.log mask rs with
        |some rs'=>F.draw base ops is before rs' (bR e o.dst v) {h2 with log:=aC base h.log h2.log}
        |none=>none
       |_=>none
      else none
     |_=>none
    else
     match BA {h with log:=[]} h.next (jD e (jZ o)) o.op with
     |some (.val v h2)=>match iI {h2 with log:=aC base h.log h2.log} base h2.log mask rs with
      |some rs'=>F.draw base ops is before rs' (bR e o.dst v) {h2 with log:=aC base h.log h2.log}
      |none=>none
     |some (.call fn args _)=>match F.ir fn args {h with log:=[]}with
      |some (.ret v,h2)=>match iI {h2 with log:=aC base h.log h2.log} base h2.log mask rs with
       |some rs'=>F.draw base ops is before rs' (bR e o.dst v) {h2 with log:=aC base h.log h2.log}
       |none=>none
      |some (.panic v,h2)=>some (.panic v,[],{h2 with log:=aC base h.log h2.log})
      |none=>none
     |_=>none
   |none=>none
  |_,_=>none
def CQ(T:Nat->Option af)(F:Fam):Fn->List Value->Heap->Option (Res×Heap):=λfn args h=>
 match fn with
 | .func f=>F.call f args h
 | .yield l=>Bc F l args h
 |_=>none
def FH(T:Nat->Option af)(F:Fam):Nat->List Value->Heap->Option (Res×Heap):=λf args h=>
 match T f with
 |none=>none
 |some (.jN p)=>match p args h with
  |some (v,h')=>some (.ret v,h')
  |none=>none
 |some (.code code results)=>match F.exec h.next none code (dQ 0 args) [] h with
  |some (.panic v,e,ds,h1)=>F.unw results ds (some v) e h h1
  |some (.exit _,_,_,_)=>none
  |some (_,e,ds,h1)=>F.unw results ds none e h h1
  |none=>none
def Mz(T:Nat->Option af)(F:Fam):List (Nat×Option (Option Nat))->Dfs->Option Value->Env->Heap->Heap->Option (Res×Heap):=λresults ds pan e h h1=>
 match ds with
 |[]=>match pan with
  |some v=>some (.panic v,h1)
  |none=>match IZ h1 e results with
   |some vs=>some (.ret (eR vs),gcA h h1 (eR vs))
   |none=>none
 |(.func (.func g) first cap,args)::ds=>match F.defer g (dD first.toList (dD args cap.toList)) pan {h1 with log:=[]}with
  |some (pan',h2)=>F.unw results ds pan' e h {h2 with log:=aC h.next h1.log h2.log}
  |none=>none
 |_=>none
def CR(T:Nat->Option af)(F:Fam):Nat->List Value->Option Value->Heap->Option (Option Value×Heap):=λg args pan h=>
 match T g with
 |some (.code code [])=>match F.fE h.next code (dQ 0 args) pan h with
  |some (.normal,_,pan',h')=>some (pan',h')
  |some (.ret,_,pan',h')=>some (pan',h')
  |_=>none
 |_=>none
def CT(T:Nat->Option af)(F:Fam):Nat->aT->Env->Option Value->Heap->Option (bq×Env×Option Value×Heap):=λbase c e pan h=>
 match c with
 | .skip=>some (.normal,e,pan,h)
 | .region ops keep=>match F.jm base ops e pan h with
   |some (.normal,e',pan',h')=>some (.normal,jD e' keep,pan',h')
   |r=>r
 | .seq a b=>match F.fE base a e pan h with
   |some (.normal,e',pan',h')=>F.fE base b e' pan' h'
   |r=>r
 | .cond c a b=>match evQ h e c with
   |some (.bool true)=>F.fE base a e pan h
   |some (.bool false)=>F.fE base b e pan h
   |_=>none
 | .ret=>some (.ret,e,pan,h)
 |_=>none
def FM(T:Nat->Option af)(F:Fam):Nat->List aX->Env->Option Value->Heap->Option (bq×Env×Option Value×Heap):=λbase ops e pan h=>
 match ops with
 |[]=>some (.normal,e,pan,h)
 |o::os=>match rP e o.guard with
  |some false=>F.jm base os (bR e o.dst (.tuple #[])) pan h
  |some true=>match BA h base e o.op with
   |some (.val v h')=>F.jm base os (bR e o.dst v) pan h'
   |some .recover=>match pan with
    |some v=>F.jm base os (bR e o.dst v) none h
    |none=>F.jm base os (bR e o.dst .nilIface) none h
   |_=>none
  |none=>none
def Fam.DN(T:Nat->Option af)(F:Fam):Fam where
 exec:=FJ T F
 ops:=Mx T F
 draw:=FI T F
 ir:=CQ T F
 call:=FH T F
 unw:=Mz T F
 defer:=CR T F
 fE:=CT T F
 jm:=FM T F
def nN(T:Nat->Option af)(n:Nat):Fam:=Nat.rec Fam.none (λ_ F=>Fam.DN T F) n
theorem Jl:Fam.DN=Fam.succ:=by
 funext T F;unfold Fam.DN Fam.succ;simp only[Fam.mk.injEq];refine⟨?_,?_,?_,?_,?_,?_,?_,?_,?_⟩
 ·funext x0 x1 x2 x3 x4 x5;unfold FJ Bb IK;first|rfl|(simp only[bF,bh,bk,bL,lP,iU,gF,jY,jj,jr,hM,ez,aU,gz,gh,gM];rfl)
 ·funext x0 x1 x2 x3 x4 x5;unfold Mx;first|rfl|(simp only[bF,bh,bk,bL,lP,iU,gF,jY,jj,jr,hM,ez,aU,gz,gh,gM];rfl)
 ·funext x0 x1 x2 x3 x4 x5 x6;unfold FI;first|rfl|(simp only[bF,bh,bk,bL,lP,iU,gF,jY,jj,jr,hM,ez,aU,gz,gh,gM];rfl)
 ·funext x0 x1 x2;unfold CQ Bc;first|rfl|(simp only[bF,bh,bk,bL,lP,iU,gF,jY,jj,jr,hM,ez,aU,gz,gh,gM];rfl)
 ·funext x0 x1 x2;unfold FH;first|rfl|(simp only[bF,bh,bk,bL,lP,iU,gF,jY,jj,jr,hM,ez,aU,gz,gh,gM];rfl)
 ·funext x0 x1 x2 x3 x4 x5;unfold Mz;first|rfl|(simp only[bF,bh,bk,bL,lP,iU,gF,jY,jj,jr,hM,ez,aU,gz,gh,gM];rfl)
 ·funext x0 x1 x2 x3;unfold CR;first|rfl|(simp only[bF,bh,bk,bL,lP,iU,gF,jY,jj,jr,hM,ez,aU,gz,gh,gM];rfl)
 ·funext x0 x1 x2 x3 x4;unfold CT;first|rfl|(simp only[bF,bh,bk,bL,lP,iU,gF,jY,jj,jr,hM,ez,aU,gz,gh,gM];rfl)
 ·funext x0 x1 x2 x3 x4;unfold FM;first|rfl|(simp only[bF,bh,bk,bL,lP,iU,gF,jY,jj,jr,hM,ez,aU,gz,gh,gM];rfl)
theorem Da(T:Nat->Option af):∀n,nN T n=fam T n
 |0=>rfl
 |n+1=>by
  show Fam.DN T (nN T n)=Fam.succ T (fam T n);rw[Da T n,Jl]
end Go.A
