/- The runs once more, for the kernel. -/
import Derived.Test.YtgffeapobcfigaaGreatDoorFA
set_option linter.all false
noncomputable section
namespace Go.A
structure Fam where
 exec:Nat->Option Nat->bh->Env->Dfs->Heap->Option (bG×Env×Dfs×Heap)
 ops:Nat->Option Nat->List aW->Env->Dfs->Heap->Option (bG×Env×Dfs×Heap)
 draw:Nat->List aW->List Nat->List Nat->List Rec->Env->Heap->Option (bG×Env×Heap)
 iK:Fn->List Value->Heap->Option (Res×Heap)
 call:Nat->List Value->Heap->Option (Res×Heap)
 unw:List (Nat×Option (Option Nat))->Dfs->Option Value->Env->Heap->Heap->Option (Res×Heap)
 defer:Nat->List Value->Option Value->Heap->Option (Option Value×Heap)
 fK:Nat->bh->Env->Option Value->Heap->Option (bG×Env×Option Value×Heap)
 jC:Nat->List aW->Env->Option Value->Heap->Option (bG×Env×Option Value×Heap)
def Fam.none:Fam where
 exec:=λ_ _ _ _ _ _=> .none
 ops:=λ_ _ _ _ _ _=> .none
 draw:=λ_ _ _ _ _ _ _=> .none
 iK:=λ_ _ _=> .none
 call:=λ_ _ _=> .none
 unw:=λ_ _ _ _ _ _=> .none
 defer:=λ_ _ _ _=> .none
 fK:=λ_ _ _ _ _=> .none
 jC:=λ_ _ _ _ _=> .none
def Ol(T:Nat→Option af)(F:Fam):Nat→Option Nat→bh→Env→Dfs→Heap→Option (bG×Env×Dfs×Heap):=fun base rnd c e ds h=>
    match c with
    | .skip=>some (.normal,e,ds,h)
    | .region ops keep=>match F.ops base rnd ops e ds h with
      |some (.normal,e',ds',h')=>some (.normal,bJ e' keep,ds',h')
      |r=>r
    | .draw ops order before keep=>match F.draw base ops order before [] e h with
      |some (.normal,e',h')=>some (.normal,bJ e' keep,ds,h')
      |some (x,e',h')=>some (x,e',ds,h')
      |none=>none
    | .seq a b=>match F.exec base rnd a e ds h with
      |some (.normal,e',ds',h')=>F.exec base rnd b e' ds' h'
      |r=>r
    | .cond c a b=>match ev h e c with
      |some (.bool true)=>F.exec base rnd a e ds h
      |some (.bool false)=>F.exec base rnd b e ds h
      |_=>none
    | .block id b=>match F.exec base rnd b e ds h with
      |some (.exit i,e',ds',h')=>bif Nat.beq i id then some (.normal,e',ds',h')else some (.exit i,e',ds',h')
      |r=>r
    | .loop b=>match F.exec base rnd b e ds h with
      |some (.normal,e',ds',h')=>F.exec base rnd (.loop b) e' ds' h'
      |r=>r
    | .scope b=>F.exec base rnd b e ds h
    | .rangeFunc f ps asg body=>bif oe h rnd then match ev h e f with
      |some (.func (.func g) first cap)=>bif gF (T g)then none else
       match F.call g (dL first.toList (dL [.func (.yield h.next) #[] #[]] cap.toList)) {h.push (.loop e ps asg body 0 .normal)with log:=[]}with
       |some (.ret _,h2)=>match h2.get h.next with
        |some (.loop _ _ _ _ st ir)=>bif Nat.beq st 1 then none else
         some (ir,e,ds,Heap.wr {h2 with log:=aF base h.log h2.log} base h.next .dead)
        |_=>none
       |some (.panic v,h2)=>some (.panic v,e,ds,{h2 with log:=aF base h.log h2.log})
       |none=>none
      |_=>none
      else none
    | .rangeMap ops it x keep out nxt pr ops2 k2 body=>match F.ops base rnd ops e ds h with
      |some (.normal,e0,ds0,h0)=>match ds0 with
       |_::_=>none
       |[]=>match ev h0 e0 x with
        |some (.map none)=>some (.normal,bJ e0 keep,[],h0)
        |some (.map (some m))=>match h0.get m with
         |some (.map es)=>F9 out (bJ e0 keep) h0 (pJ (λe h=>F.ops (h0.next+1) rnd ops2 e [] h) (λe h=>F.exec (h0.next+1) rnd body e [] h) nxt pr k2 (itE it h0 (bJ e0 keep)) (bJ e0 keep) ((roM h0 m es).push .dead) es)
         |_=>none
        |_=>none
      |r=>r
    | .exit id=>some (.exit id,e,ds,h)
    | .ret=>some (.ret,e,ds,h)
def Qy(T:Nat→Option af)(F:Fam):Nat→Option Nat→List aW→Env→Dfs→Heap→Option (bG×Env×Dfs×Heap):=fun base rnd ops e ds h=>
    match ops with
    |[]=>some (.normal,e,ds,h)
    |o::os=>match bI e o.guard with
     |some false=>F.ops base rnd os (bU e o.dst (.tuple #[])) ds h
     |some true=>match aop h base e o.op with
      |some (.val v h')=>F.ops base rnd os (bU e o.dst v) ds h'
      |some (.call fn args h')=>match F.iK fn args {h' with log:=[]}with
       |some (.ret v,h2)=>F.ops base rnd os (bU e o.dst v) ds {h2 with log:=aF base h'.log h2.log}
       |some (.panic v,h2)=>some (.panic v,e,ds,{h2 with log:=aF base h'.log h2.log})
       |none=>none
      |some (.jr f args)=>match rnd with|some _=>none|none=>F.ops base rnd os (bU e o.dst (.tuple #[])) ((f,args)::ds) h
      |some (.panic v h')=>some (.panic v,e,ds,h')
      |_=>none
     |none=>none
def O8(T:Nat→Option af)(F:Fam):Nat→List aW→List Nat→List Nat→List Rec→Env→Heap→Option (bG×Env×Heap):=fun base ops order before rs e h=>
    match order with
    |[]=>some (.normal,e,h)
    |i::is=>match bP ops i,bP before i with
     |some o,some mask=>
      match bI (bJ e (cB o)) o.guard with
      |some false=>F.draw base ops is before (⟨i,o,bJ e (cB o), .tuple #[], .skip⟩::rs) (bU e o.dst (.tuple #[])) h
      |some true=>
       bif jj o.op then
        match aop h base (bJ e (cB o)) o.op with
        |some (.val v h')=>
         bif dh o.op then
          bif mI h' base rs then F.draw base ops is before (⟨i,o,bJ e (cB o),v, .made h.next⟩::rs) (bU e o.dst v) h' else none
         else bif Nat.beq h'.next h.next then F.draw base ops is before (⟨i,o,bJ e (cB o),v, .quiet⟩::rs) (bU e o.dst v) h
         else bif ye before i is then
          match aop {h with log:=[]} h.next (bJ e (cB o)) o.op with
          |some (.val v h2)=>match bF {h2 with log:=aF base h.log h2.log} base h2.log mask rs with
           |some rs'=>F.draw base ops is before rs' (bU e o.dst v) {h2 with log:=aF base h.log h2.log}
           |none=>none
          |_=>none
         else none
        |_=>none
       else
        match aop {h with log:=[]} h.next (bJ e (cB o)) o.op with
        |some (.val v h2)=>match bF {h2 with log:=aF base h.log h2.log} base h2.log mask rs with
         |some rs'=>F.draw base ops is before rs' (bU e o.dst v) {h2 with log:=aF base h.log h2.log}
         |none=>none
        |some (.call fn args _)=>match F.iK fn args {h with log:=[]}with
         |some (.ret v,h2)=>match bF {h2 with log:=aF base h.log h2.log} base h2.log mask rs with
          |some rs'=>F.draw base ops is before rs' (bU e o.dst v) {h2 with log:=aF base h.log h2.log}
          |none=>none
         |some (.panic v,h2)=>some (.panic v,[],{h2 with log:=aF base h.log h2.log})
         |none=>none
        |_=>none
      |none=>none
     |_,_=>none
def Mz(T:Nat→Option af)(F:Fam):Fn→List Value→Heap→Option (Res×Heap):=fun fn args h=>
    match fn with
    | .func f=>F.call f args h
    | .yield l=>match h.get l with
      |some (.loop e ps asg body 0 .normal)=>match ja e ps args with
       |some e1=>match F.exec h.next (some l) asg e1 [] h with
        |some (.normal,e2,ds2,h2)=>bif notReady (h2.get l)then none else match F.exec h.next (some l) body e2 ds2 {h2 with bW:=iz h2.bW l (.loop e ps asg body 1 .normal)}with
         |some (.normal,_,_,h3)=>match h3.get l with
          |some (.loop _ _ _ _ 1 _)=>some (.ret (.bool true),gcA h {h3 with bW:=iz h3.bW l (.loop e ps asg body 0 .normal)} (.bool true))
          |_=>none
         |some (.exit i,_,_,h3)=>match h3.get l with
          |some (.loop _ _ _ _ 1 _)=>some (.ret (.bool false),h3.wr h.next l (.loop e ps asg body 2 (.exit i)))
          |_=>none
         |some (.ret,_,_,h3)=>match h3.get l with
          |some (.loop _ _ _ _ 1 _)=>some (.ret (.bool false),h3.wr h.next l (.loop e ps asg body 2 .ret))
          |_=>none
         |_=>none
        |_=>none
       |none=>none
      |_=>none
    |_=>none
def PT(T:Nat→Option af)(F:Fam):Nat→List Value→Heap→Option (Res×Heap):=fun f args h=>
    match T f with
    |none=>none
    |some (.j9 p)=>match p args h with
     |some (v,h')=>some (.ret v,h')
     |none=>none
    |some (.code code results)=>match F.exec h.next none code (ej 0 args) [] h with
     |some (.panic v,e,ds,h1)=>F.unw results ds (some v) e h h1
     |some (.exit _,_,_,_)=>none
     |some (_,e,ds,h1)=>F.unw results ds none e h h1
     |none=>none
def Sw(T:Nat→Option af)(F:Fam):List (Nat×Option (Option Nat))→Dfs→Option Value→Env→Heap→Heap→Option (Res×Heap):=fun results ds pan e h h1=>
    match ds with
    |[]=>match pan with
     |some v=>some (.panic v,h1)
     |none=>match cD h1 e results with
      |some vs=>some (.ret (fD vs),gcA h h1 (fD vs))
      |none=>none
    |(.func (.func g) first cap,args)::ds=>match F.defer g (dL first.toList (dL args cap.toList)) pan {h1 with log:=[]}with
     |some (pan',h2)=>F.unw results ds pan' e h {h2 with log:=aF h.next h1.log h2.log}
     |none=>none
    |_=>none
def Nk(T:Nat→Option af)(F:Fam):Nat→List Value→Option Value→Heap→Option (Option Value×Heap):=fun g args pan h=>
    match T g with
    |some (.code code [])=>match F.fK h.next code (ej 0 args) pan h with
     |some (.normal,_,pan',h')=>some (pan',h')
     |some (.ret,_,pan',h')=>some (pan',h')
     |_=>none
    |_=>none
def LW(T:Nat→Option af)(F:Fam):Nat→bh→Env→Option Value→Heap→Option (bG×Env×Option Value×Heap):=fun base c e pan h=>
    match c with
    | .skip=>some (.normal,e,pan,h)
    | .region ops keep=>match F.jC base ops e pan h with
      |some (.normal,e',pan',h')=>some (.normal,bJ e' keep,pan',h')
      |r=>r
    | .seq a b=>match F.fK base a e pan h with
      |some (.normal,e',pan',h')=>F.fK base b e' pan' h'
      |r=>r
    | .cond c a b=>match ev h e c with
      |some (.bool true)=>F.fK base a e pan h
      |some (.bool false)=>F.fK base b e pan h
      |_=>none
    | .ret=>some (.ret,e,pan,h)
    |_=>none
def Ph(T:Nat→Option af)(F:Fam):Nat→List aW→Env→Option Value→Heap→Option (bG×Env×Option Value×Heap):=fun base ops e pan h=>
    match ops with
    |[]=>some (.normal,e,pan,h)
    |o::os=>match bI e o.guard with
     |some false=>F.jC base os (bU e o.dst (.tuple #[])) pan h
     |some true=>match aop h base e o.op with
      |some (.val v h')=>F.jC base os (bU e o.dst v) pan h'
      |some .recover=>match pan with
       |some v=>F.jC base os (bU e o.dst v) none h
       |none=>F.jC base os (bU e o.dst .nilIface) none h
      |_=>none
     |none=>none
def Fam.succ(T:Nat->Option af)(F:Fam):Fam where
 exec:=Ol T F
 ops:=Qy T F
 draw:=O8 T F
 iK:=Mz T F
 call:=PT T F
 unw:=Sw T F
 defer:=Nk T F
 fK:=LW T F
 jC:=Ph T F
def fam(T:Nat->Option af)(n:Nat):Fam:=Nat.rec Fam.none (λ_ F=>Fam.succ T F) n
theorem J6(T:Nat->Option af):∀n,fam T n={exec:=cu T n,ops:=gj T n,draw:=eC T n,iK:=iq T n,call:=iN T n,unw:=oA T n,defer:=j8 T n,fK:=iL T n,jC:=jt T n}
 |0=>by
  show Fam.none=_;unfold Fam.none;simp only[Fam.mk.injEq];refine⟨?_,?_,?_,?_,?_,?_,?_,?_,?_⟩
  ·funext x0 x1 x2 x3 x4 x5;simp only[cu]
  ·funext x0 x1 x2 x3 x4 x5;simp only[gj]
  ·funext x0 x1 x2 x3 x4 x5 x6;simp only[eC]
  ·funext x0 x1 x2;simp only[iq]
  ·funext x0 x1 x2;simp only[iN]
  ·funext x0 x1 x2 x3 x4 x5;simp only[oA]
  ·funext x0 x1 x2 x3;simp only[j8]
  ·funext x0 x1 x2 x3 x4;simp only[iL]
  ·funext x0 x1 x2 x3 x4;simp only[jt]
 |n+1=>by
  show Fam.succ T (fam T n)=_;rw[J6 T n];unfold Fam.succ;simp only[Fam.mk.injEq];refine⟨?_,?_,?_,?_,?_,?_,?_,?_,?_⟩
  ·funext x0 x1 x2 x3 x4 x5;refine Eq.trans ?_ (cu.eq_def T (n+1) x0 x1 x2 x3 x4 x5).symm;rfl
  ·funext x0 x1 x2 x3 x4 x5;refine Eq.trans ?_ (gj.eq_def T (n+1) x0 x1 x2 x3 x4 x5).symm;rfl
  ·funext x0 x1 x2 x3 x4 x5 x6;refine Eq.trans ?_ (eC.eq_def T (n+1) x0 x1 x2 x3 x4 x5 x6).symm;rfl
  ·funext x0 x1 x2;refine Eq.trans ?_ (iq.eq_def T (n+1) x0 x1 x2).symm;rfl
  ·funext x0 x1 x2;refine Eq.trans ?_ (iN.eq_def T (n+1) x0 x1 x2).symm;rfl
  ·funext x0 x1 x2 x3 x4 x5;refine Eq.trans ?_ (oA.eq_def T (n+1) x0 x1 x2 x3 x4 x5).symm;rfl
  ·funext x0 x1 x2 x3;refine Eq.trans ?_ (j8.eq_def T (n+1) x0 x1 x2 x3).symm;rfl
  ·funext x0 x1 x2 x3 x4;refine Eq.trans ?_ (iL.eq_def T (n+1) x0 x1 x2 x3 x4).symm;rfl
  ·funext x0 x1 x2 x3 x4;refine Eq.trans ?_ (jt.eq_def T (n+1) x0 x1 x2 x3 x4).symm;rfl
def Qu(k:IntKind):Nat:=IntKind.rec (motive:=λ_=>Nat) 0 1 2 3 4 5 6 7 k
def kEq(a b:IntKind):Bool:=Nat.beq (Qu a) (Qu b)
theorem Ax(a b:IntKind):kEq a b=decide (a=b):=by cases a<;>cases b<;>rfl
def G9(m:Nat)(b:Int):Bool:=Int.rec (motive:=λ_=>Bool) (λn=>Nat.beq m n) (λ_=>false) b
def Jj(m:Nat)(b:Int):Bool:=Int.rec (motive:=λ_=>Bool) (λ_=>false) (λn=>Nat.beq m n) b
def iEq(a b:Int):Bool:=Int.rec (motive:=λ_=>Int->Bool) G9 Jj a b
theorem CQ(a b:Int):iEq a b=(a==b):=by
 rw[Bool.eq_iff_iff];simp only[beq_iff_eq];cases a<;>cases b<;>simp[iEq,G9,Jj,Nat.beq_eq]<;>omega
def KQ(m:Nat)(b:Int):Bool:=Int.rec (motive:=λ_=>Bool) (λn=>Nat.blt m n) (λ_=>false) b
def Lf(m:Nat)(b:Int):Bool:=Int.rec (motive:=λ_=>Bool) (λ_=>true) (λn=>Nat.blt n m) b
def iLt(a b:Int):Bool:=Int.rec (motive:=λ_=>Int->Bool) KQ Lf a b
theorem Pg(a b:Int):iLt a b=decide (a<b):=by
 rw[Bool.eq_iff_iff];simp only[decide_eq_true_eq];cases a<;>cases b<;>simp[iLt,KQ,Lf,Nat.blt_eq]<;>omega
def topP(k:IntKind):Nat:=IntKind.rec (motive:=λ_=>Nat) 128 32768 2147483648 9223372036854775808 256 65536 4294967296 18446744073709551616 k
def topN(k:IntKind):Nat:=IntKind.rec (motive:=λ_=>Nat) 128 32768 2147483648 9223372036854775808 0 0 0 0 k
def NH(k:IntKind)(n:Int):Int:=Int.rec (motive:=λ_=>Int) (λm=>bif Nat.blt m (topP k)then .ofNat m else k.wrap (.ofNat m)) (λm=>bif Nat.blt m (topN k)then .negSucc m else k.wrap (.negSucc m)) n
theorem IQ(k:IntKind)(n:Int):NH k n=fk k n:=by cases n<;>cases k<;>rfl
def Oe{α:Type}(m:Nat)(f:Nat->α):α:=Nat.rec (motive:=λ_=>α) (f 0) (λn _=>f (Nat.succ n)) m
theorem Nj{α:Type}(m:Nat)(f:Nat->α):Oe m f=f m:=by cases m<;>rfl
def Oz{α:Type}(m:Int)(f:Int->α):α:=Int.rec (motive:=λ_=>α) (λn=>Oe n λn=>f (.ofNat n)) (λn=>Oe n λn=>f (.negSucc n)) m
theorem Ly{α:Type}(m:Int)(f:Int->α):Oz m f=f m:=by cases m<;>simp[Oz,Nj]
def mkI(k:IntKind)(n:Int):Option Value:=Oz (NH k n) λn=>some (.int k n)
def IZ(k:IntKind)(x y:Int):Option Value:=mkI k (x+y)
def J8(k:IntKind)(x y:Int):Option Value:=mkI k (x-y)
def Kw(k:IntKind)(x y:Int):Option Value:=mkI k (x*y)
def Jp(_:IntKind)(x y:Int):Option Value:=some (.bool (iEq x y))
def Hw(_:IntKind)(x y:Int):Option Value:=some (.bool (Bool.rec true false (iEq x y)))
def Hr(_:IntKind)(x y:Int):Option Value:=some (.bool (iLt x y))
def JB(_:IntKind)(x y:Int):Option Value:=some (.bool (Bool.rec true false (iLt y x)))
def G8(_:IntKind)(x y:Int):Option Value:=some (.bool (iLt y x))
def KL(_:IntKind)(x y:Int):Option Value:=some (.bool (Bool.rec true false (iLt x y)))
def HJ(k:IntKind)(x y:Int):Option Value:=arith .quo k x y
def HV(k:IntKind)(x y:Int):Option Value:=arith .rem k x y
def KN(k:IntKind)(x y:Int):Option Value:=arith .and k x y
def Nt(k:IntKind)(x y:Int):Option Value:=arith .or k x y
def GV(k:IntKind)(x y:Int):Option Value:=arith .xor k x y
def xm(k:IntKind)(x y:Int):Option Value:=arith .andNot k x y
def GS(k:IntKind)(x:Int)(k':IntKind)(y:Int):Option Value:=Bool.rec none (IZ k x y) (kEq k k')
def II(k:IntKind)(x:Int)(k':IntKind)(y:Int):Option Value:=Bool.rec none (J8 k x y) (kEq k k')
def IL(k:IntKind)(x:Int)(k':IntKind)(y:Int):Option Value:=Bool.rec none (Kw k x y) (kEq k k')
def Hv(k:IntKind)(x:Int)(k':IntKind)(y:Int):Option Value:=Bool.rec none (HJ k x y) (kEq k k')
def GQ(k:IntKind)(x:Int)(k':IntKind)(y:Int):Option Value:=Bool.rec none (HV k x y) (kEq k k')
def J3(k:IntKind)(x:Int)(k':IntKind)(y:Int):Option Value:=Bool.rec none (KN k x y) (kEq k k')
def Pm(k:IntKind)(x:Int)(k':IntKind)(y:Int):Option Value:=Bool.rec none (Nt k x y) (kEq k k')
def JF(k:IntKind)(x:Int)(k':IntKind)(y:Int):Option Value:=Bool.rec none (GV k x y) (kEq k k')
def KG(k:IntKind)(x:Int)(_:IntKind)(y:Int):Option Value:=nO .shl k x y
def KW(k:IntKind)(x:Int)(_:IntKind)(y:Int):Option Value:=nO .shr k x y
def wT(k:IntKind)(x:Int)(k':IntKind)(y:Int):Option Value:=Bool.rec none (xm k x y) (kEq k k')
def HL(k:IntKind)(x:Int)(k':IntKind)(y:Int):Option Value:=Bool.rec none (Jp k x y) (kEq k k')
def Jc(k:IntKind)(x:Int)(k':IntKind)(y:Int):Option Value:=Bool.rec none (Hw k x y) (kEq k k')
def Ja(k:IntKind)(x:Int)(k':IntKind)(y:Int):Option Value:=Bool.rec none (Hr k x y) (kEq k k')
def KY(k:IntKind)(x:Int)(k':IntKind)(y:Int):Option Value:=Bool.rec none (JB k x y) (kEq k k')
def HN(k:IntKind)(x:Int)(k':IntKind)(y:Int):Option Value:=Bool.rec none (G8 k x y) (kEq k k')
def JQ(k:IntKind)(x:Int)(k':IntKind)(y:Int):Option Value:=Bool.rec none (KL k x y) (kEq k k')
def Iu(op:BinOp):IntKind->Int->IntKind->Int->Option Value:=BinOp.rec (motive:=λ_=>IntKind->Int->IntKind->Int->Option Value) GS II IL Hv GQ J3 Pm JF KG KW wT HL Jc Ja KY HN JQ op
def Oa(op:BinOp)(x y:Value):Option Value:=
 match x with
 | .int k a=>match y with
   | .int k' b=>Iu op k a k' b
   |_=>none
 | .string a=>match y with
   | .string b=>Bn op a b
   |_=>none
 |_=>none
theorem Ih{α:Type}(x y:α)(b:Bool):(Bool.rec x y b:α)=bif b then y else x:=by cases b<;>rfl
theorem Oo(k:IntKind)(n:Int):mkI k n=some (.int k (fk k n)):=by simp[mkI,Ly,IQ]
theorem bH:Oa=ah:=by
 funext op x y;unfold Oa;split
 ·rename_i k a;split
  ·rename_i k' b;by_cases hk:k=k'
   ·subst hk;cases op<;>simp[Iu,ah,GS,II,IL,Hv,GQ,J3,Pm,JF,KG,KW,wT,HL,Jc,Ja,KY,HN,JQ,IZ,J8,Kw,HJ,HV,KN,Nt,GV,xm,Jp,Hw,Hr,JB,G8,KL,Ax,Ih,Oo,arith,lZ,CQ,Pg]
    all_goals first
     |(simp[bne];done)
     |(rw[Bool.eq_iff_iff];simp;done)
     |(rw[Bool.eq_iff_iff];simp;omega)
   ·cases op<;>simp[Iu,ah,GS,II,IL,Hv,GQ,J3,Pm,JF,KG,KW,wT,HL,Jc,Ja,KY,HN,JQ,Ax,Ih,hk]
  ·rename_i hy;cases op<;>cases y<;>first|rfl|exact(hy _ _ rfl).elim
 ·split
  ·cases op<;>rfl
  ·rename_i hy;cases op<;>cases y<;>first|rfl|exact(hy _ rfl).elim
 ·rename_i h1 h2;cases op<;>cases x<;>first|rfl|exact(h1 _ _ rfl).elim|exact(h2 _ rfl).elim
def TO(_:Nat):Option Value:=none
def Us(p:Nat×Value)(_:Env)(ih:Nat->Option Value)(t:Nat):Option Value:=Bool.rec (ih t) (some p.2) (Nat.beq p.1 t)
def geQ(e:Env)(t:Nat):Option Value:=List.rec (motive:=λ_=>Nat->Option Value) TO Us e t
theorem jE:geQ=geT:=by
 funext e t;induction e with
 |nil=>rfl
 |cons p e ih=>
  obtain⟨k,v⟩:=p;show(Bool.rec (geQ e t) (some v) (Nat.beq k t):Option Value)=_;rw[Ih,ih];rfl
def Sc(t:Nat)(l:Env)(v:Value):Env:=(t,v)::l
def Ts(_:Env):Env:=[]
def Ug(t:Nat)(_:List Nat)(ih:Env->Env)(e:Env):Env:=Option.rec (motive:=λ_=>Env) (ih e) (Sc t (ih e)) (geQ e t)
def jR(e:Env)(l:List Nat):Env:=List.rec (motive:=λ_=>Env->Env) Ts Ug l e
theorem jc:jR=bJ:=by
 funext e l;induction l with
 |nil=>rfl
 |cons t l ih=>
  show(Option.rec (jR e l) (Sc t (jR e l)) (geQ e t):Env)=_;rw[jE,ih];simp only[bJ];cases geT e t<;>rfl
def Tz(_:Nat):Option bN:=none
def TU(p:Nat×bN)(_:List (Nat×bN))(ih:Nat->Option bN)(t:Nat):Option bN:=Bool.rec (ih t) (some p.2) (Nat.beq p.1 t)
def goQ(e:List (Nat×bN))(t:Nat):Option bN:=List.rec (motive:=λ_=>Nat->Option bN) Tz TU e t
theorem OI:goQ=eR:=by
 funext e t;induction e with
 |nil=>rfl
 |cons p e ih=>
  obtain⟨k,v⟩:=p;show(Bool.rec (goQ e t) (some v) (Nat.beq k t):Option bN)=_;rw[Ih,ih];rfl
def mA(h:Heap)(b:Nat):Option bN:=goQ h.bW b
theorem bt:mA=Heap.get:=by funext h b;simp[mA,Heap.get,OI]
def TZ(_:Nat)(_:bN):List (Nat×bN):=[]
def Ut(p:Nat×bN)(l:List (Nat×bN))(ih:Nat->bN->List (Nat×bN))(t:Nat)(o:bN):List (Nat×bN):=Bool.rec (p::ih t o) ((p.1,o)::l) (Nat.beq p.1 t)
def soQ(e:List (Nat×bN))(t:Nat)(o:bN):List (Nat×bN):=List.rec (motive:=λ_=>Nat->bN->List (Nat×bN)) TZ Ut e t o
theorem l9:soQ=iz:=by
 funext e t o;induction e with
 |nil=>rfl
 |cons p e ih=>
  obtain⟨k,v⟩:=p;show(Bool.rec ((k,v)::soQ e t o) ((k,o)::e) (Nat.beq k t):List (Nat×bN))=_;rw[Ih,ih];rfl
def wrQ(h:Heap)(base b:Nat)(o:bN):Heap:={h with bW:=soQ h.bW b o,log:=bif Nat.blt b base then(bif eZ h.log b then h.log else b::h.log)else h.log}
theorem bT:wrQ=Heap.wr:=by funext h base b o;simp[wrQ,Heap.wr,l9]
def evQ(h:Heap)(e:Env)(x:Operand):Option Value:=Operand.rec (motive:=λ_=>Env->Heap->Option Value) (λt e _=>geQ e t) (λv _ _=>some v) (λg _ h=>ev h [] (.global g)) (λf _ _=>some (.func (.func f) #[] #[])) x e h
theorem bM:evQ=ev:=by
 funext h e x;cases x<;>first|rfl|(show geQ e _=_;rw[jE];rfl)
def Bk(h:Heap)(e:Env):List Operand->Option (List Value)
 |[]=>some []
 |x::xs=>match evQ h e x with
  |some v=>match Bk h e xs with
   |some vs=>some (v::vs)
   |none=>none
  |none=>none
theorem bw:Bk=evs:=by
 funext h e l;induction l with
 |nil=>rfl
 |cons x l ih=>(simp only[Bk,evs,bM,ih];rfl)
def BI(h:Heap)(e:Env)(z:List Value):List (Nat×Nat×Operand)->Option (List Value)
 |[]=>some z
 |(off,size,x)::ps=>match evQ h e x with
  |some v=>bif Nat.beq (bO (cellsOf v)) size&&Nat.ble (off+size) (bO z)then BI h e (cQ z off (cellsOf v)) ps else none
  |none=>none
theorem bk:BI=jf:=by
 funext h e z l;induction l generalizing z with
 |nil=>rfl
 |cons p l ih=>obtain⟨a,b,x⟩:=p;(simp only[BI,jf,bM,ih];rfl)
def ru(e:Env)(g:Option (Nat×Bool)):Option Bool:=
 match g with
 |none=>some true
 |some (t,b)=>match geQ e t with
  |some (.bool x)=>some (x==b)
  |some _=>some false
  |none=>none
theorem gI:ru=bI:=by
 funext e g;cases g with
 |none=>rfl
 |some p=>obtain⟨t,b⟩:=p;(simp only[ru,bI,jE];rfl)
def JJ(h:Heap)(e:Env):List (Nat×Option (Option Nat))->Option (List Value)
 |[]=>some []
 |(t,none)::rs=>match geQ e t with
  |some v=>match JJ h e rs with
   |some vs=>some (v::vs)
   |none=>none
  |none=>none
 |(t,some n)::rs=>match geQ e t with
  |some a=>match pE h n a with
   |some v=>match JJ h e rs with
    |some vs=>some (v::vs)
    |none=>none
   |none=>none
  |none=>none
theorem kF:JJ=cD:=by
 funext h e l;induction l with
 |nil=>rfl
 |cons p l ih=>
  obtain⟨t,n⟩:=p;cases n<;>(simp only[JJ,cD,jE,ih];rfl)
def Hu(l:dM)(x y:Value):Option Bool:=
 match l with
 | .i q=>match x with
   | .int k a=>match y with
     | .int k' b=>bif kEq k q&&kEq k' q then some (iEq a b)else none
     |_=>none
   |_=>none
 |l=>jh l x y
theorem Kj:Hu=jh:=by
 funext l x y;unfold Hu;split
 ·rename_i q;split
  ·rename_i k a;split
   ·rename_i k' b;simp only[jh,Ax,CQ,cond_eq_ite,Bool.and_eq_true,decide_eq_true_eq];by_cases h1:k=q<;>by_cases h2:k'=q<;>simp[h1,h2]
   ·rename_i hy;cases y<;>first|rfl|exact(hy _ _ rfl).elim
  ·rename_i hx;cases x<;>first|rfl|exact(hx _ _ rfl).elim
 ·rfl
def nH:List dM->List Value->List Value->Option Bool
 |[],[],[]=>some true
 |l::ls,x::xs,y::ys=>match Hu l x y with
  |some true=>nH ls xs ys
  |some false=>match nH ls xs ys with
   |some _=>some false
   |none=>none
  |none=>none
 |_,_,_=>none
theorem aL:nH=bQ:=by
 funext ls;induction ls with
 |nil=>funext xs ys;cases xs<;>cases ys<;>rfl
 |cons l ls ih=>
  funext xs ys;cases xs<;>cases ys<;>first|rfl|(simp only[nH,bQ,Kj,ih];rfl)
def qw(ag:Bool)(ls:List dM)(k:Value):Bool:=
 match qn k==ag,nH ls (cellsOf k) (cellsOf k)with
 |true,some _=>true
 |_,_=>false
theorem aT:qw=kr:=by funext ag ls k;(simp only[qw,kr,aL];rfl)
def DG(ag:Bool)(ls:List dM)(k k':Value):Option Bool:=
 match qn k'==ag with
 |true=>nH ls (cellsOf k) (cellsOf k')
 |false=>none
theorem F3:DG=rz:=by funext ag ls k k';(simp only[DG,rz,aL];rfl)
def xI(ag:Bool)(ls:List dM)(k:Value):Nat->List (Value×Value)->Option (Option (Nat×Value))
 |_,[]=>some none
 |i,(k',v)::es=>match DG ag ls k k' with
  |some true=>some (some (i,v))
  |some false=>xI ag ls k (i+1) es
  |none=>none
theorem bq:xI=rT:=by
 funext ag ls k i es;induction es generalizing i with
 |nil=>rfl
 |cons p es ih=>obtain⟨a,b⟩:=p;(simp only[xI,rT,F3,ih];rfl)
def zy(x y:Value):Bool:=
 match x with
 | .int k a=>match y with
   | .int k' b=>kEq k k'&&iEq a b
   |_=>false
 |x=>kV x y
theorem yy:zy=kV:=by
 funext x y;unfold zy;split
 ·rename_i k a;split
  ·rename_i k' b;simp only[kV,Ax,CQ];by_cases h:k=k'<;>simp[h]
  ·rename_i hy;cases y<;>first|rfl|exact(hy _ _ rfl).elim
 ·rfl
def Ir(h:Heap)(n:Option Nat):Value->Option Value
 | .pointer (some ⟨b,o,none⟩)=>match mA h b with
   |some (.cells vs _ _)=>match n with
    |none=>bP vs o
    |some n=>let l:=bK n (bE o vs);bif Nat.beq (bO l) n then some (.agg l.toArray)else none
   |_=>none
 |_=>none
def CV(h:Heap)(base n:Nat)(v:Value):Value->Option Heap
 | .pointer (some ⟨b,o,none⟩)=>match mA h b with
   |some (.cells vs true sz)=>bif Nat.beq (bO (cellsOf v)) n&&Nat.ble (o+n) (bO vs)&&dP (cellsOf v)then some (wrQ h base b (.cells (cQ vs o (cellsOf v)) true sz))else none
   |_=>none
 |_=>none
def Dk(h:Heap)(e:Env)(dflt:Nat):Option Operand->Option Nat
 |none=>some dflt
 |some x=>match evQ h e x with
  |some v=>oQ v
  |none=>none
def Ak(h:Heap)(e:Env)(size:Nat)(a:Option Addr)(len cap:Nat)(lo hi mx:Option Operand):Option (Value×Heap):=
 match Dk h e 0 lo,Dk h e len hi with
 |some l,some u=>
  match mx with
  |some _=>match Dk h e 0 mx with
   |some m=>bif Nat.ble l u&&Nat.ble u m&&Nat.ble m (bif Nat.beq cap UNK then len else cap)&&Nat.blt m UNK then
    some (.slice (bif Nat.beq m l then a else match a with|some ⟨b,o,none⟩=>some ⟨b,o+l*size,none⟩|a=>a) (u-l) (m-l),h)
    else none
   |none=>none
  |none=>
   bif Nat.beq cap UNK then
    match a with
    |some ⟨b,o,none⟩=>match mA h b with
     |some (.cells vs _ sz)=>
      bif Nat.beq sz size&&Nat.ble l u&&(Nat.ble u len||Nat.ble (o+u*size) (bO vs))then
       bif Nat.blt l len||Nat.blt l u then some (.slice (some ⟨b,o+l*size,none⟩) (u-l) UNK,h)
       else bif Nat.beq l 0 then some (.slice (some ⟨b,o,none⟩) 0 UNK,h)
       else some (.slice (some ⟨h.next,0,none⟩) 0 UNK,h.push (.cells [] false size))
      else none
     |_=>none
    |_=>none
   else bif Nat.ble l u&&Nat.ble u cap then
    some (.slice (bif Nat.beq cap l then a else match a with|some ⟨b,o,none⟩=>some ⟨b,o+l*size,none⟩|a=>a) (u-l) (cap-l),h)
    else none
 |_,_=>none
def MJ(h:Heap)(size:Nat):Value->Option (List Value×Nat)
 | .slice none n _=>bif Nat.beq n 0 then some ([],0)else none
 | .slice (some ⟨b,o,none⟩) n _=>match mA h b with
   |some (.cells vs _ _)=>let l:=bK (n*size) (bE o vs);bif Nat.beq (bO l) (n*size)then some (l,n)else none
   |_=>none
 | .string s=>bif Nat.beq size 1 then some (s.data.toList.map λb=> .int .u8 b.toNat,s.size)else none
 |_=>none
def uD(h:Heap)(base size bytes:Nat)(s:Value)(new:List Value)(n:Nat):Option (Value×Heap):=
 match s with
 | .slice a len cap=>
   bif Nat.beq n 0 then(bif Nat.ble len cap then some (s,h)else none)else
   bif Nat.ble ((2*(len+n)+768)*bytes) 281474976710656 then
    match a with
    |none=>bif Nat.beq len 0&&Nat.beq cap 0 then some (.slice (some ⟨h.next,0,none⟩) n UNK,h.push (.cells new true size))else none
    |some ⟨b,o,none⟩=>match mA h b with
     |some (.cells vs own sz)=>
      bif Nat.beq cap UNK then
       bif own&&Nat.beq sz size then
        bif Nat.ble (o+(len+n)*size) (bO vs)&&dP new then
         some (.slice (some ⟨b,o,none⟩) (len+n) UNK,wrQ h base b (.cells (cQ vs (o+len*size) new) true sz))
        else bif Nat.beq o 0&&Nat.beq (len*size) (bO vs)&&dP new then
         some (.slice (some ⟨h.next,0,none⟩) (len+n) UNK,(wrQ h base b .dead).push (.cells (dL vs new) true size))
        else none
       else none
      else bif Nat.ble (len+n) cap then
       bif own&&Nat.ble (o+(len+n)*size) (bO vs)&&dP new then
        some (.slice (some ⟨b,o,none⟩) (len+n) cap,wrQ h base b (.cells (cQ vs (o+len*size) new) true sz))
       else none
      else bif Nat.ble (o+len*size) (bO vs)then
       some (.slice (some ⟨h.next,0,none⟩) (len+n) UNK,h.push (.cells (dL (bK (len*size) (bE o vs)) new) true size))
      else none
     |_=>none
    |_=>none
   else none
 |_=>none
theorem aV:Ir=pE:=by
 funext h n v;unfold Ir pE;simp only[bM,bw,bk,bH,bq,aT,aL,bt,bT];rfl
theorem aZ:CV=qA:=by
 funext h base n v x;unfold CV qA;simp only[bM,bw,bk,bH,bq,aT,aL,bt,bT];rfl
theorem bX:Dk=bnd:=by
 funext h e d x;unfold Dk bnd;simp only[bM,bw,bk,bH,bq,aT,aL,bt,bT];rfl
theorem aY:Ak=fU:=by
 funext h e size a len cap lo hi mx;unfold Ak fU;simp only[bM,bw,bk,bH,bq,aT,aL,bt,bT,bX];rfl
theorem cg:MJ=cM:=by
 funext h size v;unfold MJ cM;simp only[bM,bw,bk,bH,bq,aT,aL,bt,bT];rfl
theorem aQ:uD=iT:=by
 funext h base size bytes s new n;unfold uD iT;simp only[bM,bw,bk,bH,bq,aT,aL,bt,bT];rfl
def Kq(h:Heap)(base:Nat)(e:Env)(x:Operand):Option cH:=cG (evQ h e x) λv=>some (.val v h)
def CG(h:Heap)(base:Nat)(e:Env)(c:Operand)(a:Operand)(b:Operand):Option cH:=match evQ h e c with
 |some (.bool true)=>cG (evQ h e a) λv=>some (.val v h)
 |some (.bool false)=>cG (evQ h e b) λv=>some (.val v h)
 |_=>none
def Hy(h:Heap)(base:Nat)(e:Env)(z:List Value):Option cH:=some (.val (.pointer (some ⟨h.next,0,none⟩)) (h.push (.cells z true 1)))
def Il(h:Heap)(base:Nat)(e:Env)(x:Operand):Option cH:=cG (evQ h e x) λv=>some (.val (.pointer (some ⟨h.next,0,none⟩)) (h.push (.cells (cellsOf v) true 1)))
def zg(h:Heap)(base:Nat)(e:Env)(z:List Value)(ps:List (Nat×Nat×Operand)):Option cH:=match BI h e z ps with
 |some cs=>some (.val (.agg cs.toArray) h)
 |none=>none
def wB(h:Heap)(base:Nat)(e:Env)(z:List Value)(n:Nat)(ps:List (Nat×Nat×Operand)):Option cH:=match BI h e (eF n z) ps with
 |some cs=>some (.val (.slice (some ⟨h.next,0,none⟩) n n) (h.push (.cells cs true (bO z))))
 |none=>none
def CA(h:Heap)(base:Nat)(e:Env)(n:Option Nat)(a:Operand):Option cH:=cG (evQ h e a) λa=>cG (Ir h n a) λv=>some (.val v h)
def Ai(h:Heap)(base:Nat)(e:Env)(n:Nat)(a:Operand)(v:Operand):Option cH:=cG (evQ h e a) λa=>cG (evQ h e v) λv=>match CV h base n v a with
 |some h'=>some (.val (.tuple #[]) h')
 |none=>none
def wO(h:Heap)(base:Nat)(e:Env)(x:Operand):Option cH:=cG (evQ h e x) λv=>match v with
 | .pointer none| .nilIface| .nilFunc=>none
 | .func (.method _) _ _=>none
 |v=>some (.val v h)
def HB(h:Heap)(base:Nat)(e:Env):DC->Operand->Operand->Option cH
 |(.num op),x,y=>cG (evQ h e x) λx=>cG (evQ h e y) λy=>cG (Oa op x y) λv=>some (.val v h)
 |(.beq neq),x,y=>match evQ h e x,evQ h e y with
  |some (.bool a),some (.bool b)=>some (.val (.bool (bif neq then !(a==b)else a==b)) h)
  |_,_=>none
 |(.nil k neq),x,y=>cG (evQ h e x) λx=>cG (evQ h e y) λy=>match oC k x y with
  |some b=>some (.val (.bool (bif neq then !b else b)) h)
  |none=>none
 |(.agg neq ls),x,y=>cG (evQ h e x) λx=>cG (evQ h e y) λy=>match x,y with
  | .agg xs, .agg ys=>match nH ls xs.toList ys.toList with
    |some b=>some (.val (.bool (bif neq then !b else b)) h)
    |none=>none
  |_,_=>none
def N7(h:Heap)(base:Nat)(e:Env)(op:UnOp)(x:Operand):Option cH:=cG (evQ h e x) λx=>cG (rW op x) λv=>some (.val v h)
def DE(h:Heap)(base:Nat)(e:Env)(c:Cv)(x:Operand):Option cH:=cG (evQ h e x) λx=>ff (qj h c x)
def tf(h:Heap)(base:Nat)(e:Env)(t:TypeId)(x:Operand):Option cH:=cG (evQ h e x) λv=>some (.val (.iface t v) h)
def vC(h:Heap)(base:Nat)(e:Env)(fn:Fn)(fs:List Operand)(cs:List Operand):Option cH:=match Bk h e fs,Bk h e cs with
 |some fs,some cs=>some (.val (.func fn fs.toArray cs.toArray) h)
 |_,_=>none
def zP(h:Heap)(base:Nat)(e:Env):Option cH:=some (.val (.map (some h.next)) (h.push (.map [])))
def ta(h:Heap)(base:Nat)(e:Env)(z:List Value)(bytes:Nat)(l:Operand)(c:Operand):Option cH:=match evQ h e l,evQ h e c with
 |some l,some c=>match oQ l,oQ c with
  |some l,some c=>bif Nat.ble l c&&Nat.ble (bytes*c) 281474976710656&&Nat.blt c UNK then
   some (.val (.slice (some ⟨h.next,0,none⟩) l c) (h.push (.cells (eF c z) true (bO z))))
   else none
  |_,_=>none
 |_,_=>none
def Ar(h:Heap)(base:Nat)(e:Env):ASl->Operand->Option Operand->Option Operand->Option Operand->Option cH
 | .str,x,lo,hi,none=>match evQ h e x with
   |some (.string s)=>match Dk h e 0 lo,Dk h e s.size hi with
    |some l,some u=>bif Nat.ble l u&&Nat.ble u s.size then some (.val (.string (s.extract l u)) h)else none
    |_,_=>none
   |_=>none
 |(.sl size),x,lo,hi,mx=>match evQ h e x with
  |some (.slice a len cap)=>ff (Ak h e size a len cap lo hi mx)
  |_=>none
 |(.arr n size),x,lo,hi,mx=>match evQ h e x with
  |some (.pointer (some a))=>ff (Ak h e size (some a) n n lo hi mx)
  |_=>none
 | .str,_,_,_,(some _)=>none
def zT(h:Heap)(base:Nat)(e:Env)(off:Nat)(x:Operand):Option cH:=match evQ h e x with
 |some (.pointer (some ⟨b,o,none⟩))=>some (.val (.pointer (some ⟨b,o+off,none⟩)) h)
 |_=>none
def Au(h:Heap)(base:Nat)(e:Env)(off:Nat)(n:Option Nat)(x:Operand):Option cH:=match evQ h e x with
 |some (.agg cs)=>match n with
  |none=>cG (bP cs.toList off) λv=>some (.val v h)
  |some n=>let l:=bK n (bE off cs.toList);bif Nat.beq (bO l) n then some (.val (.agg l.toArray) h)else none
 |_=>none
def vP(h:Heap)(base:Nat)(e:Env)(len:Nat)(size:Nat)(x:Operand)(i:Operand):Option cH:=match evQ h e x,evQ h e i with
 |some (.pointer (some ⟨b,o,none⟩)),some (.int _ (.ofNat i))=>bif Nat.blt i len then some (.val (.pointer (some ⟨b,o+i*size,none⟩)) h)else none
 |_,_=>none
def wu(h:Heap)(base:Nat)(e:Env)(size:Nat)(x:Operand)(i:Operand):Option cH:=match evQ h e x,evQ h e i with
 |some (.slice (some ⟨b,o,none⟩) len _),some (.int _ (.ofNat i))=>bif Nat.blt i len then some (.val (.pointer (some ⟨b,o+i*size,none⟩)) h)else none
 |_,_=>none
def CC(h:Heap)(base:Nat)(e:Env)(len:Nat)(size:Nat)(n:Option Nat)(x:Operand)(i:Operand):Option cH:=match evQ h e x,evQ h e i with
 |some (.agg cs),some (.int _ (.ofNat i))=>bif Nat.blt i len then
  match n with
  |none=>cG (bP cs.toList (i*size)) λv=>some (.val v h)
  |some n=>let l:=bK n (bE (i*size) cs.toList);bif Nat.beq (bO l) n then some (.val (.agg l.toArray) h)else none
  else none
 |_,_=>none
def Cz(h:Heap)(base:Nat)(e:Env)(x:Operand)(i:Operand):Option cH:=match evQ h e x,evQ h e i with
 |some (.string s),some (.int _ (.ofNat i))=>match bP s.data.toList i with
  |some b=>some (.val (.int .u8 b.toNat) h)
  |none=>none
 |_,_=>none
def wJ(h:Heap)(base:Nat)(e:Env)(ag:Bool)(ls:List dM)(z:Value)(ok:Bool)(m:Operand)(k:Operand):Option cH:=match evQ h e m,evQ h e k with
 |some (.map none),some k=>bif qw ag ls k then some (.val (bif ok then .tuple #[z, .bool false]else z) h)else none
 |some (.map (some r)),some k=>match zq (mA h r)with
  |some es=>bif qw ag ls k then match xI ag ls k 0 es with
   |some (some (_,v))=>some (.val (bif ok then .tuple #[v, .bool true]else v) h)
   |some none=>some (.val (bif ok then .tuple #[z, .bool false]else z) h)
   |none=>none else none
  |none=>none
 |_,_=>none
def za(h:Heap)(base:Nat)(e:Env)(ag:Bool)(ls:List dM)(m:Operand)(k:Operand)(v:Operand):Option cH:=match evQ h e m,evQ h e k,evQ h e v with
 |some (.map (some r)),some k,some v=>match mA h r with
  |some (.map es)=>bif qw ag ls k then match xI ag ls k 0 es with
   |some (some (i,_))=>some (.val (.tuple #[]) (wrQ h base r (.map (sk es i (k,v)))))
   |some none=>some (.val (.tuple #[]) (wrQ h base r (.map (dL es [(k,v)]))))
   |none=>none else none
  |_=>none
 |_,_,_=>none
def tD(h:Heap)(base:Nat)(e:Env)(t:TypeId)(ok:Bool)(z:Value)(x:Operand):Option cH:=match evQ h e x with
 |some .nilIface=>bif ok then some (.val (.tuple #[z, .bool false]) h)else none
 |some (.iface t' v)=>if t'=t then some (.val (bif ok then .tuple #[v, .bool true]else v) h)
  else bif ok then some (.val (.tuple #[z, .bool false]) h)else none
 |_=>none
def sF(h:Heap)(base:Nat)(e:Env)(t:Operand)(i:Nat):Option cH:=match evQ h e t with
 |some (.tuple vs)=>cG (bP vs.toList i) λv=>some (.val v h)
 |_=>none
def Dq(h:Heap)(base:Nat)(e:Env)(f:Operand)(args:List Operand):Option cH:=match evQ h e f,Bk h e args with
 |some f,some args=>pq f args h
 |_,_=>none
def vq(h:Heap)(base:Nat)(e:Env):Nat->Operand->Option cH
 |0,x=>match evQ h e x with
  |some (.string s)=>some (.val (.int .i64 s.size) h)
  |_=>none
 |1,x=>match evQ h e x with
  |some (.slice _ n _)=>some (.val (.int .i64 n) h)
  |_=>none
 |_,x=>match evQ h e x with
  |some (.map none)=>some (.val (.int .i64 0) h)
  |some (.map (some r))=>match zq (mA h r)with
   |some es=>some (.val (.int .i64 (bO es)) h)
   |none=>none
  |_=>none
def vm(h:Heap)(base:Nat)(e:Env)(n:Nat):Option cH:=some (.val (.int .i64 n) h)
def Ic(h:Heap)(base:Nat)(e:Env)(x:Operand):Option cH:=match evQ h e x with
 |some (.slice _ _ c)=>bif Nat.beq c UNK then none else some (.val (.int .i64 c) h)
 |_=>none
def wW(h:Heap)(base:Nat)(e:Env)(size:Nat)(bytes:Nat)(s:Operand)(x:Operand):Option cH:=match evQ h e s,evQ h e x with
 |some s,some x=>match MJ h size x with
  |some (l,n)=>ff (uD h base size bytes s l n)
  |none=>none
 |_,_=>none
def sJ(h:Heap)(base:Nat)(e:Env)(z:List Value)(bytes:Nat)(s:Operand)(n:Operand):Option cH:=match evQ h e s,evQ h e n with
 |some s,some n=>match oQ n with
  |some n=>bif Nat.blt n 9223372036854775808&&Nat.ble (n*bytes) 281474976710656 then ff (uD h base (bO z) bytes s (eF n z) n)else none
  |none=>none
 |_,_=>none
def CR(h:Heap)(base:Nat)(e:Env)(size:Nat)(d:Operand)(s:Operand):Option cH:=match evQ h e d,evQ h e s with
 |some (.slice a dl _),some s=>match MJ h size s with
  |some (l,n)=>
   let m:=Nat.min n dl
   match a with
   |none=>some (.val (.int .i64 m) h)
   |some ⟨b,o,none⟩=>match mA h b with
    |some (.cells vs true sz)=>bif Nat.ble (o+m*size) (bO vs)&&dP (bK (m*size) l)then
     some (.val (.int .i64 m) (wrQ h base b (.cells (cQ vs o (bK (m*size) l)) true sz)))
     else none
    |_=>none
   |_=>none
  |none=>none
 |_,_=>none
def zX(h:Heap)(base:Nat)(e:Env)(z:List Value)(x:Operand):Option cH:=match evQ h e x with
 |some (.slice a n _)=>
  bif Nat.beq n 0 then some (.val (.tuple #[]) h)else
  match a with
  |none=>some (.val (.tuple #[]) h)
  |some ⟨b,o,none⟩=>match mA h b with
   |some (.cells vs true sz)=>bif Nat.ble (o+bO (eF n z)) (bO vs)&&dP (eF n z)then some (.val (.tuple #[]) (wrQ h base b (.cells (cQ vs o (eF n z)) true sz)))else none
   |_=>none
  |_=>none
 |_=>none
def vF(h:Heap)(base:Nat)(e:Env)(mx:Bool)(args:List Operand):Option cH:=match Bk h e args with
 |some (x::l)=>cG (mmA mx x l) λv=>some (.val v h)
 |_=>none
def wN(h:Heap)(base:Nat)(e:Env)(ag:Bool)(ls:List dM)(m:Operand)(k:Operand):Option cH:=match evQ h e m,evQ h e k with
 |some (.map (some r)),some k=>match mA h r with
  |some (.map es)=>bif qw ag ls k then match xI ag ls k 0 es with
   |some (some (i,_))=>some (.val (.tuple #[]) (wrQ h base r (.map (AY es i))))
   |some none=>some (.val (.tuple #[]) (wrQ h base r (.map es)))
   |none=>none else none
  |_=>none
 |some (.map none),some k=>bif qw ag ls k then some (.val (.tuple #[]) h)else none
 |_,_=>none
def CY(h:Heap)(base:Nat)(e:Env)(f:Operand)(args:List Operand):Option cH:=match evQ h e f,Bk h e args with
 |some (.func (.func g) first cap),some args=>some (.jr (.func (.func g) first cap) args)
 |_,_=>none
def th(h:Heap)(base:Nat)(e:Env):Option cH:=some .recover
def CB(h:Heap)(base:Nat)(e:Env)(x:Operand):Option cH:=cG (evQ h e x) λv=>match v with
 | .iface _ _=>some (.panic v h)
 |_=>none
def Aw(h:Heap)(base:Nat)(e:Env)(x:Operand):Option cH:=match evQ h e x with
 |some (.string s)=>some (.val (.pointer (some ⟨h.next,0,none⟩)) (h.push (.kg s 0)))
 |_=>none
def Dg(h:Heap)(base:Nat)(e:Env):Operand->Bool->Option cH
 |x,true=>match evQ h e x with
  |some (.pointer (some ⟨r,0,none⟩))=>match mA h r with
   |some (.kg s pos)=>bif Nat.blt pos s.size then
    let d:=Utf8.decode s pos
    some (.val (.tuple #[.bool true, .int .i64 pos, .int .i32 d.1]) (wrQ h base r (.kg s (pos+d.2))))
    else some (.val (.tuple #[.bool false]) h)
   |_=>none
  |_=>none
 |_,false=>none
def vX(h:Heap)(base:Nat)(e:Env)(_:Operand):Option cH:=none
def zw(h:Heap)(base:Nat)(e:Env)(_:Operand):Option cH:=none
def Sa(x0:Operand)(h:Heap)(base:Nat)(e:Env):Option cH:=Kq h base e x0
def Pz(x0:Operand)(x1:Operand)(x2:Operand)(h:Heap)(base:Nat)(e:Env):Option cH:=CG h base e x0 x1 x2
def Rg(x0:List Value)(h:Heap)(base:Nat)(e:Env):Option cH:=Hy h base e x0
def Se(x0:Operand)(h:Heap)(base:Nat)(e:Env):Option cH:=Il h base e x0
def Nn(x0:List Value)(x1:List (Nat×Nat×Operand))(h:Heap)(base:Nat)(e:Env):Option cH:=zg h base e x0 x1
def Jk(x0:List Value)(x1:Nat)(x2:List (Nat×Nat×Operand))(h:Heap)(base:Nat)(e:Env):Option cH:=wB h base e x0 x1 x2
def Oc(x0:Option Nat)(x1:Operand)(h:Heap)(base:Nat)(e:Env):Option cH:=CA h base e x0 x1
def My(x0:Nat)(x1:Operand)(x2:Operand)(h:Heap)(base:Nat)(e:Env):Option cH:=Ai h base e x0 x1 x2
def JW(x0:Operand)(h:Heap)(base:Nat)(e:Env):Option cH:=wO h base e x0
def QZ(x0:DC)(x1:Operand)(x2:Operand)(h:Heap)(base:Nat)(e:Env):Option cH:=HB h base e x0 x1 x2
def TV(x0:UnOp)(x1:Operand)(h:Heap)(base:Nat)(e:Env):Option cH:=N7 h base e x0 x1
def OP(x0:Cv)(x1:Operand)(h:Heap)(base:Nat)(e:Env):Option cH:=DE h base e x0 x1
def Gd(x0:TypeId)(x1:Operand)(h:Heap)(base:Nat)(e:Env):Option cH:=tf h base e x0 x1
def KT(x0:Fn)(x1:List Operand)(x2:List Operand)(h:Heap)(base:Nat)(e:Env):Option cH:=vC h base e x0 x1 x2
def Mg(h:Heap)(base:Nat)(e:Env):Option cH:=zP h base e
def EZ(x0:List Value)(x1:Nat)(x2:Operand)(x3:Operand)(h:Heap)(base:Nat)(e:Env):Option cH:=ta h base e x0 x1 x2 x3
def MK(x0:ASl)(x1:Operand)(x2:Option Operand)(x3:Option Operand)(x4:Option Operand)(h:Heap)(base:Nat)(e:Env):Option cH:=Ar h base e x0 x1 x2 x3 x4
def Lh(x0:Nat)(x1:Operand)(h:Heap)(base:Nat)(e:Env):Option cH:=zT h base e x0 x1
def MT(x0:Nat)(x1:Option Nat)(x2:Operand)(h:Heap)(base:Nat)(e:Env):Option cH:=Au h base e x0 x1 x2
def KM(x0:Nat)(x1:Nat)(x2:Operand)(x3:Operand)(h:Heap)(base:Nat)(e:Env):Option cH:=vP h base e x0 x1 x2 x3
def IV(x0:Nat)(x1:Operand)(x2:Operand)(h:Heap)(base:Nat)(e:Env):Option cH:=wu h base e x0 x1 x2
def Oy(x0:Nat)(x1:Nat)(x2:Option Nat)(x3:Operand)(x4:Operand)(h:Heap)(base:Nat)(e:Env):Option cH:=CC h base e x0 x1 x2 x3 x4
def OT(x0:Operand)(x1:Operand)(h:Heap)(base:Nat)(e:Env):Option cH:=Cz h base e x0 x1
def KI(x0:Bool)(x1:List dM)(x2:Value)(x3:Bool)(x4:Operand)(x5:Operand)(h:Heap)(base:Nat)(e:Env):Option cH:=wJ h base e x0 x1 x2 x3 x4 x5
def Ni(x0:Bool)(x1:List dM)(x2:Operand)(x3:Operand)(x4:Operand)(h:Heap)(base:Nat)(e:Env):Option cH:=za h base e x0 x1 x2 x3 x4
def Gz(x0:TypeId)(x1:Bool)(x2:Value)(x3:Operand)(h:Heap)(base:Nat)(e:Env):Option cH:=tD h base e x0 x1 x2 x3
def FV(x0:Operand)(x1:Nat)(h:Heap)(base:Nat)(e:Env):Option cH:=sF h base e x0 x1
def P8(x0:Operand)(x1:List Operand)(h:Heap)(base:Nat)(e:Env):Option cH:=Dq h base e x0 x1
def Rh(x0:Nat)(x1:Operand)(h:Heap)(base:Nat)(e:Env):Option cH:=vq h base e x0 x1
def Ke(x0:Nat)(h:Heap)(base:Nat)(e:Env):Option cH:=vm h base e x0
def QC(x0:Operand)(h:Heap)(base:Nat)(e:Env):Option cH:=Ic h base e x0
def J5(x0:Nat)(x1:Nat)(x2:Operand)(x3:Operand)(h:Heap)(base:Nat)(e:Env):Option cH:=wW h base e x0 x1 x2 x3
def Fu(x0:List Value)(x1:Nat)(x2:Operand)(x3:Operand)(h:Heap)(base:Nat)(e:Env):Option cH:=sJ h base e x0 x1 x2 x3
def Qa(x0:Nat)(x1:Operand)(x2:Operand)(h:Heap)(base:Nat)(e:Env):Option cH:=CR h base e x0 x1 x2
def Ml(x0:List Value)(x1:Operand)(h:Heap)(base:Nat)(e:Env):Option cH:=zX h base e x0 x1
def HT(x0:Bool)(x1:List Operand)(h:Heap)(base:Nat)(e:Env):Option cH:=vF h base e x0 x1
def JG(x0:Bool)(x1:List dM)(x2:Operand)(x3:Operand)(h:Heap)(base:Nat)(e:Env):Option cH:=wN h base e x0 x1 x2 x3
def N6(x0:Operand)(x1:List Operand)(h:Heap)(base:Nat)(e:Env):Option cH:=CY h base e x0 x1
def F0(h:Heap)(base:Nat)(e:Env):Option cH:=th h base e
def O4(x0:Operand)(h:Heap)(base:Nat)(e:Env):Option cH:=CB h base e x0
def Mm(x0:Operand)(h:Heap)(base:Nat)(e:Env):Option cH:=Aw h base e x0
def N5(x0:Operand)(x1:Bool)(h:Heap)(base:Nat)(e:Env):Option cH:=Dg h base e x0 x1
def KP(x0:Operand)(h:Heap)(base:Nat)(e:Env):Option cH:=vX h base e x0
def LI(x0:Operand)(h:Heap)(base:Nat)(e:Env):Option cH:=zw h base e x0
def TH(o:AOp):Heap->Nat->Env->Option cH:=AOp.rec (motive:=λ_=>Heap->Nat->Env->Option cH) Sa Pz Rg Se Nn Jk Oc My JW QZ TV OP Gd KT Mg EZ MK Lh MT KM IV Oy OT KI Ni Gz FV P8 Rh Ke QC J5 Fu Qa Ml HT JG N6 F0 O4 Mm N5 KP LI o
def Dw(h:Heap)(base:Nat)(e:Env)(o:AOp):Option cH:=TH o h base e
theorem jM:Dw=aop:=by
 funext h base e o;cases o;case mov x0=>show Kq h base e x0=_;first|rfl|(unfold Kq;simp only[bM,bw,bk,bH,bq,aT,aL,bt,bT,bX,aV,aZ,aY,cg,aQ];rfl)
 case pick x0 x1 x2=>show CG h base e x0 x1 x2=_;first|rfl|(unfold CG;simp only[bM,bw,bk,bH,bq,aT,aL,bt,bT,bX,aV,aZ,aY,cg,aQ];rfl)
 case new x0=>show Hy h base e x0=_;first|rfl|(unfold Hy;simp only[bM,bw,bk,bH,bq,aT,aL,bt,bT,bX,aV,aZ,aY,cg,aQ];rfl)
 case box x0=>show Il h base e x0=_;first|rfl|(unfold Il;simp only[bM,bw,bk,bH,bq,aT,aL,bt,bT,bX,aV,aZ,aY,cg,aQ];rfl)
 case build x0 x1=>show zg h base e x0 x1=_;first|rfl|(unfold zg;simp only[bM,bw,bk,bH,bq,aT,aL,bt,bT,bX,aV,aZ,aY,cg,aQ];rfl)
 case cS x0 x1 x2=>show wB h base e x0 x1 x2=_;first|rfl|(unfold wB;simp only[bM,bw,bk,bH,bq,aT,aL,bt,bT,bX,aV,aZ,aY,cg,aQ];rfl)
 case load x0 x1=>show CA h base e x0 x1=_;first|rfl|(unfold CA;simp only[bM,bw,bk,bH,bq,aT,aL,bt,bT,bX,aV,aZ,aY,cg,aQ];rfl)
 case store x0 x1 x2=>show Ai h base e x0 x1 x2=_;first|rfl|(unfold Ai;simp only[bM,bw,bk,bH,bq,aT,aL,bt,bT,bX,aV,aZ,aY,cg,aQ];rfl)
 case cm x0=>show wO h base e x0=_;first|rfl|(unfold wO;simp only[bM,bw,bk,bH,bq,aT,aL,bt,bT,bX,aV,aZ,aY,cg,aQ];rfl)
 case un x0 x1=>show N7 h base e x0 x1=_;first|rfl|(unfold N7;simp only[bM,bw,bk,bH,bq,aT,aL,bt,bT,bX,aV,aZ,aY,cg,aQ];rfl)
 case conv x0 x1=>show DE h base e x0 x1=_;first|rfl|(unfold DE;simp only[bM,bw,bk,bH,bq,aT,aL,bt,bT,bX,aV,aZ,aY,cg,aQ];rfl)
 case iE x0 x1=>show tf h base e x0 x1=_;first|rfl|(unfold tf;simp only[bM,bw,bk,bH,bq,aT,aL,bt,bT,bX,aV,aZ,aY,cg,aQ];rfl)
 case ek x0 x1 x2=>show vC h base e x0 x1 x2=_;first|rfl|(unfold vC;simp only[bM,bw,bk,bH,bq,aT,aL,bt,bT,bX,aV,aZ,aY,cg,aQ];rfl)
 case mkMap=>show zP h base e=_;first|rfl|(unfold zP;simp only[bM,bw,bk,bH,bq,aT,aL,bt,bT,bX,aV,aZ,aY,cg,aQ];rfl)
 case mkSlice x0 x1 x2 x3=>show ta h base e x0 x1 x2 x3=_;first|rfl|(unfold ta;simp only[bM,bw,bk,bH,bq,aT,aL,bt,bT,bX,aV,aZ,aY,cg,aQ];rfl)
 case cV x0 x1=>show zT h base e x0 x1=_;first|rfl|(unfold zT;simp only[bM,bw,bk,bH,bq,aT,aL,bt,bT,bX,aV,aZ,aY,cg,aQ];rfl)
 case field x0 x1 x2=>show Au h base e x0 x1 x2=_;first|rfl|(unfold Au;simp only[bM,bw,bk,bH,bq,aT,aL,bt,bT,bX,aV,aZ,aY,cg,aQ];rfl)
 case cw x0 x1 x2 x3=>show vP h base e x0 x1 x2 x3=_;first|rfl|(unfold vP;simp only[bM,bw,bk,bH,bq,aT,aL,bt,bT,bX,aV,aZ,aY,cg,aQ];rfl)
 case aK x0 x1 x2=>show wu h base e x0 x1 x2=_;first|rfl|(unfold wu;simp only[bM,bw,bk,bH,bq,aT,aL,bt,bT,bX,aV,aZ,aY,cg,aQ];rfl)
 case tA x0 x1 x2 x3 x4=>show CC h base e x0 x1 x2 x3 x4=_;first|rfl|(unfold CC;simp only[bM,bw,bk,bH,bq,aT,aL,bt,bT,bX,aV,aZ,aY,cg,aQ];rfl)
 case jb x0 x1=>show Cz h base e x0 x1=_;first|rfl|(unfold Cz;simp only[bM,bw,bk,bH,bq,aT,aL,bt,bT,bX,aV,aZ,aY,cg,aQ];rfl)
 case lookup x0 x1 x2 x3 x4 x5=>show wJ h base e x0 x1 x2 x3 x4 x5=_;first|rfl|(unfold wJ;simp only[bM,bw,bk,bH,bq,aT,aL,bt,bT,bX,aV,aZ,aY,cg,aQ];rfl)
 case oq x0 x1 x2 x3 x4=>show za h base e x0 x1 x2 x3 x4=_;first|rfl|(unfold za;simp only[bM,bw,bk,bH,bq,aT,aL,bt,bT,bX,aV,aZ,aY,cg,aQ];rfl)
 case jN x0 x1 x2 x3=>show tD h base e x0 x1 x2 x3=_;first|rfl|(unfold tD;simp only[bM,bw,bk,bH,bq,aT,aL,bt,bT,bX,aV,aZ,aY,cg,aQ];rfl)
 case extract x0 x1=>show sF h base e x0 x1=_;first|rfl|(unfold sF;simp only[bM,bw,bk,bH,bq,aT,aL,bt,bT,bX,aV,aZ,aY,cg,aQ];rfl)
 case call x0 x1=>show Dq h base e x0 x1=_;first|rfl|(unfold Dq;simp only[bM,bw,bk,bH,bq,aT,aL,bt,bT,bX,aV,aZ,aY,cg,aQ];rfl)
 case jF x0=>show vm h base e x0=_;first|rfl|(unfold vm;simp only[bM,bw,bk,bH,bq,aT,aL,bt,bT,bX,aV,aZ,aY,cg,aQ];rfl)
 case cap x0=>show Ic h base e x0=_;first|rfl|(unfold Ic;simp only[bM,bw,bk,bH,bq,aT,aL,bt,bT,bX,aV,aZ,aY,cg,aQ];rfl)
 case append x0 x1 x2 x3=>show wW h base e x0 x1 x2 x3=_;first|rfl|(unfold wW;simp only[bM,bw,bk,bH,bq,aT,aL,bt,bT,bX,aV,aZ,aY,cg,aQ];rfl)
 case jJ x0 x1 x2 x3=>show sJ h base e x0 x1 x2 x3=_;first|rfl|(unfold sJ;simp only[bM,bw,bk,bH,bq,aT,aL,bt,bT,bX,aV,aZ,aY,cg,aQ];rfl)
 case copy x0 x1 x2=>show CR h base e x0 x1 x2=_;first|rfl|(unfold CR;simp only[bM,bw,bk,bH,bq,aT,aL,bt,bT,bX,aV,aZ,aY,cg,aQ];rfl)
 case clear x0 x1=>show zX h base e x0 x1=_;first|rfl|(unfold zX;simp only[bM,bw,bk,bH,bq,aT,aL,bt,bT,bX,aV,aZ,aY,cg,aQ];rfl)
 case dK x0 x1=>show vF h base e x0 x1=_;first|rfl|(unfold vF;simp only[bM,bw,bk,bH,bq,aT,aL,bt,bT,bX,aV,aZ,aY,cg,aQ];rfl)
 case delete x0 x1 x2 x3=>show wN h base e x0 x1 x2 x3=_;first|rfl|(unfold wN;simp only[bM,bw,bk,bH,bq,aT,aL,bt,bT,bX,aV,aZ,aY,cg,aQ];rfl)
 case jr x0 x1=>show CY h base e x0 x1=_;first|rfl|(unfold CY;simp only[bM,bw,bk,bH,bq,aT,aL,bt,bT,bX,aV,aZ,aY,cg,aQ];rfl)
 case recover=>show th h base e=_;first|rfl|(unfold th;simp only[bM,bw,bk,bH,bq,aT,aL,bt,bT,bX,aV,aZ,aY,cg,aQ];rfl)
 case sW x0=>show CB h base e x0=_;first|rfl|(unfold CB;simp only[bM,bw,bk,bH,bq,aT,aL,bt,bT,bX,aV,aZ,aY,cg,aQ];rfl)
 case range x0=>show Aw h base e x0=_;first|rfl|(unfold Aw;simp only[bM,bw,bk,bH,bq,aT,aL,bt,bT,bX,aV,aZ,aY,cg,aQ];rfl)
 case lX x0=>show vX h base e x0=_;first|rfl|(unfold vX;simp only[bM,bw,bk,bH,bq,aT,aL,bt,bT,bX,aV,aZ,aY,cg,aQ];rfl)
 case entry x0=>show zw h base e x0=_;first|rfl|(unfold zw;simp only[bM,bw,bk,bH,bq,aT,aL,bt,bT,bX,aV,aZ,aY,cg,aQ];rfl)
 case bin op x y=>show HB h base e op x y=_;cases op<;>(simp only[HB,aop,bM,bw,bk,bH,bq,aT,aL,bt,bT,bX,aV,aZ,aY,cg,aQ];first|done|rfl)
 case slice k x lo hi mx=>show Ar h base e k x lo hi mx=_;cases k<;>cases mx<;>(simp only[Ar,aop,bM,bw,bk,bH,bq,aT,aL,bt,bT,bX,aV,aZ,aY,cg,aQ];first|done|rfl)
 case len k x=>
  match k with
  |0=>show vq h base e 0 x=_;simp only[vq,aop,bM,bw,bk,bH,bq,aT,aL,bt,bT,bX,aV,aZ,aY,cg,aQ];first|done|rfl
  |1=>show vq h base e 1 x=_;simp only[vq,aop,bM,bw,bk,bH,bq,aT,aL,bt,bT,bX,aV,aZ,aY,cg,aQ];first|done|rfl
  |k+2=>show vq h base e (k+2) x=_;simp only[vq,aop,bM,bw,bk,bH,bq,aT,aL,bt,bT,bX,aV,aZ,aY,cg,aQ];first|done|rfl
 case next x s=>show Dg h base e x s=_;cases s<;>(simp only[Dg,aop,bM,bw,bk,bH,bq,aT,aL,bt,bT,bX,aV,aZ,aY,cg,aQ];first|done|rfl)
def Rt(x0:Operand):List Operand:=cO (.mov x0)
def Ql(x0:Operand)(x1:Operand)(x2:Operand):List Operand:=cO (.pick x0 x1 x2)
def Qn(x0:List Value):List Operand:=cO (.new x0)
def Rj(x0:Operand):List Operand:=cO (.box x0)
def LK(x0:List Value)(x1:List (Nat×Nat×Operand)):List Operand:=cO (.build x0 x1)
def Ia(x0:List Value)(x1:Nat)(x2:List (Nat×Nat×Operand)):List Operand:=cO (.cS x0 x1 x2)
def PC(x0:Option Nat)(x1:Operand):List Operand:=cO (.load x0 x1)
def L6(x0:Nat)(x1:Operand)(x2:Operand):List Operand:=cO (.store x0 x1 x2)
def Ks(x0:Operand):List Operand:=cO (.cm x0)
def QV(x0:DC)(x1:Operand)(x2:Operand):List Operand:=cO (.bin x0 x1 x2)
def Tk(x0:UnOp)(x1:Operand):List Operand:=cO (.un x0 x1)
def Ox(x0:Cv)(x1:Operand):List Operand:=cO (.conv x0 x1)
def E3(x0:TypeId)(x1:Operand):List Operand:=cO (.iE x0 x1)
def J9(x0:Fn)(x1:List Operand)(x2:List Operand):List Operand:=cO (.ek x0 x1 x2)
def MF:List Operand:=cO (.mkMap)
def Fe(x0:List Value)(x1:Nat)(x2:Operand)(x3:Operand):List Operand:=cO (.mkSlice x0 x1 x2 x3)
def M7(x0:ASl)(x1:Operand)(x2:Option Operand)(x3:Option Operand)(x4:Option Operand):List Operand:=cO (.slice x0 x1 x2 x3 x4)
def MS(x0:Nat)(x1:Operand):List Operand:=cO (.cV x0 x1)
def Mk(x0:Nat)(x1:Option Nat)(x2:Operand):List Operand:=cO (.field x0 x1 x2)
def J7(x0:Nat)(x1:Nat)(x2:Operand)(x3:Operand):List Operand:=cO (.cw x0 x1 x2 x3)
def GO(x0:Nat)(x1:Operand)(x2:Operand):List Operand:=cO (.aK x0 x1 x2)
def OW(x0:Nat)(x1:Nat)(x2:Option Nat)(x3:Operand)(x4:Operand):List Operand:=cO (.tA x0 x1 x2 x3 x4)
def PS(x0:Operand)(x1:Operand):List Operand:=cO (.jb x0 x1)
def HH(x0:Bool)(x1:List dM)(x2:Value)(x3:Bool)(x4:Operand)(x5:Operand):List Operand:=cO (.lookup x0 x1 x2 x3 x4 x5)
def Lw(x0:Bool)(x1:List dM)(x2:Operand)(x3:Operand)(x4:Operand):List Operand:=cO (.oq x0 x1 x2 x3 x4)
def Fo(x0:TypeId)(x1:Bool)(x2:Value)(x3:Operand):List Operand:=cO (.jN x0 x1 x2 x3)
def FE(x0:Operand)(x1:Nat):List Operand:=cO (.extract x0 x1)
def OJ(x0:Operand)(x1:List Operand):List Operand:=cO (.call x0 x1)
def Sf(x0:Nat)(x1:Operand):List Operand:=cO (.len x0 x1)
def Kp(x0:Nat):List Operand:=cO (.jF x0)
def R6(x0:Operand):List Operand:=cO (.cap x0)
def GH(x0:Nat)(x1:Nat)(x2:Operand)(x3:Operand):List Operand:=cO (.append x0 x1 x2 x3)
def GD(x0:List Value)(x1:Nat)(x2:Operand)(x3:Operand):List Operand:=cO (.jJ x0 x1 x2 x3)
def Oi(x0:Nat)(x1:Operand)(x2:Operand):List Operand:=cO (.copy x0 x1 x2)
def M0(x0:List Value)(x1:Operand):List Operand:=cO (.clear x0 x1)
def Ie(x0:Bool)(x1:List Operand):List Operand:=cO (.dK x0 x1)
def KV(x0:Bool)(x1:List dM)(x2:Operand)(x3:Operand):List Operand:=cO (.delete x0 x1 x2 x3)
def Pd(x0:Operand)(x1:List Operand):List Operand:=cO (.jr x0 x1)
def Fq:List Operand:=cO (.recover)
def Oq(x0:Operand):List Operand:=cO (.sW x0)
def ME(x0:Operand):List Operand:=cO (.range x0)
def PA(x0:Operand)(x1:Bool):List Operand:=cO (.next x0 x1)
def Im(x0:Operand):List Operand:=cO (.lX x0)
def LJ(x0:Operand):List Operand:=cO (.entry x0)
def zo(o:AOp):List Operand:=AOp.rec (motive:=λ_=>List Operand) Rt Ql Qn Rj LK Ia PC L6 Ks QV Tk Ox E3 J9 MF Fe M7 MS Mk J7 GO OW PS HH Lw Fo FE OJ Sf Kp R6 GH GD Oi M0 Ie KV Pd Fq Oq ME PA Im LJ o
theorem Dc:zo=cO:=by funext o;cases o<;>rfl
def Sj(x0:Operand):Bool:=cE (.mov x0)
def PX(x0:Operand)(x1:Operand)(x2:Operand):Bool:=cE (.pick x0 x1 x2)
def Sk(x0:List Value):Bool:=cE (.new x0)
def Q7(x0:Operand):Bool:=cE (.box x0)
def M5(x0:List Value)(x1:List (Nat×Nat×Operand)):Bool:=cE (.build x0 x1)
def Ib(x0:List Value)(x1:Nat)(x2:List (Nat×Nat×Operand)):Bool:=cE (.cS x0 x1 x2)
def N9(x0:Option Nat)(x1:Operand):Bool:=cE (.load x0 x1)
def Mt(x0:Nat)(x1:Operand)(x2:Operand):Bool:=cE (.store x0 x1 x2)
def Hz(x0:Operand):Bool:=cE (.cm x0)
def Sv(x0:DC)(x1:Operand)(x2:Operand):Bool:=cE (.bin x0 x1 x2)
def Ud(x0:UnOp)(x1:Operand):Bool:=cE (.un x0 x1)
def Pn(x0:Cv)(x1:Operand):Bool:=cE (.conv x0 x1)
def Fx(x0:TypeId)(x1:Operand):Bool:=cE (.iE x0 x1)
def JE(x0:Fn)(x1:List Operand)(x2:List Operand):Bool:=cE (.ek x0 x1 x2)
def Ms:Bool:=cE (.mkMap)
def FO(x0:List Value)(x1:Nat)(x2:Operand)(x3:Operand):Bool:=cE (.mkSlice x0 x1 x2 x3)
def Mp(x0:ASl)(x1:Operand)(x2:Option Operand)(x3:Option Operand)(x4:Option Operand):Bool:=cE (.slice x0 x1 x2 x3 x4)
def LD(x0:Nat)(x1:Operand):Bool:=cE (.cV x0 x1)
def M4(x0:Nat)(x1:Option Nat)(x2:Operand):Bool:=cE (.field x0 x1 x2)
def KJ(x0:Nat)(x1:Nat)(x2:Operand)(x3:Operand):Bool:=cE (.cw x0 x1 x2 x3)
def GG(x0:Nat)(x1:Operand)(x2:Operand):Bool:=cE (.aK x0 x1 x2)
def Qi(x0:Nat)(x1:Nat)(x2:Option Nat)(x3:Operand)(x4:Operand):Bool:=cE (.tA x0 x1 x2 x3 x4)
def Po(x0:Operand)(x1:Operand):Bool:=cE (.jb x0 x1)
def Jv(x0:Bool)(x1:List dM)(x2:Value)(x3:Bool)(x4:Operand)(x5:Operand):Bool:=cE (.lookup x0 x1 x2 x3 x4 x5)
def MX(x0:Bool)(x1:List dM)(x2:Operand)(x3:Operand)(x4:Operand):Bool:=cE (.oq x0 x1 x2 x3 x4)
def F6(x0:TypeId)(x1:Bool)(x2:Value)(x3:Operand):Bool:=cE (.jN x0 x1 x2 x3)
def FB(x0:Operand)(x1:Nat):Bool:=cE (.extract x0 x1)
def PZ(x0:Operand)(x1:List Operand):Bool:=cE (.call x0 x1)
def QK(x0:Nat)(x1:Operand):Bool:=cE (.len x0 x1)
def JP(x0:Nat):Bool:=cE (.jF x0)
def Sg(x0:Operand):Bool:=cE (.cap x0)
def KZ(x0:Nat)(x1:Nat)(x2:Operand)(x3:Operand):Bool:=cE (.append x0 x1 x2 x3)
def FK(x0:List Value)(x1:Nat)(x2:Operand)(x3:Operand):Bool:=cE (.jJ x0 x1 x2 x3)
def Pt(x0:Nat)(x1:Operand)(x2:Operand):Bool:=cE (.copy x0 x1 x2)
def Mi(x0:List Value)(x1:Operand):Bool:=cE (.clear x0 x1)
def HQ(x0:Bool)(x1:List Operand):Bool:=cE (.dK x0 x1)
def KH(x0:Bool)(x1:List dM)(x2:Operand)(x3:Operand):Bool:=cE (.delete x0 x1 x2 x3)
def OU(x0:Operand)(x1:List Operand):Bool:=cE (.jr x0 x1)
def FH:Bool:=cE (.recover)
def PD(x0:Operand):Bool:=cE (.sW x0)
def Lm(x0:Operand):Bool:=cE (.range x0)
def O3(x0:Operand)(x1:Bool):Bool:=cE (.next x0 x1)
def JD(x0:Operand):Bool:=cE (.lX x0)
def Nd(x0:Operand):Bool:=cE (.entry x0)
def EL(o:AOp):Bool:=AOp.rec (motive:=λ_=>Bool) Sj PX Sk Q7 M5 Ib N9 Mt Hz Sv Ud Pn Fx JE Ms FO Mp LD M4 KJ GG Qi Po Jv MX F6 FB PZ QK JP Sg KZ FK Pt Mi HQ KH OU FH PD Lm O3 JD Nd o
theorem Cm:EL=cE:=by funext o;cases o<;>rfl
def RB(x0:Operand):Bool:=dh (.mov x0)
def Og(x0:Operand)(x1:Operand)(x2:Operand):Bool:=dh (.pick x0 x1 x2)
def RE(x0:List Value):Bool:=dh (.new x0)
def R5(x0:Operand):Bool:=dh (.box x0)
def L9(x0:List Value)(x1:List (Nat×Nat×Operand)):Bool:=dh (.build x0 x1)
def I4(x0:List Value)(x1:Nat)(x2:List (Nat×Nat×Operand)):Bool:=dh (.cS x0 x1 x2)
def Om(x0:Option Nat)(x1:Operand):Bool:=dh (.load x0 x1)
def M8(x0:Nat)(x1:Operand)(x2:Operand):Bool:=dh (.store x0 x1 x2)
def GL(x0:Operand):Bool:=dh (.cm x0)
def QI(x0:DC)(x1:Operand)(x2:Operand):Bool:=dh (.bin x0 x1 x2)
def SI(x0:UnOp)(x1:Operand):Bool:=dh (.un x0 x1)
def PK(x0:Cv)(x1:Operand):Bool:=dh (.conv x0 x1)
def Fv(x0:TypeId)(x1:Operand):Bool:=dh (.iE x0 x1)
def Ii(x0:Fn)(x1:List Operand)(x2:List Operand):Bool:=dh (.ek x0 x1 x2)
def MM:Bool:=dh (.mkMap)
def FJ(x0:List Value)(x1:Nat)(x2:Operand)(x3:Operand):Bool:=dh (.mkSlice x0 x1 x2 x3)
def MZ(x0:ASl)(x1:Operand)(x2:Option Operand)(x3:Option Operand)(x4:Option Operand):Bool:=dh (.slice x0 x1 x2 x3 x4)
def MC(x0:Nat)(x1:Operand):Bool:=dh (.cV x0 x1)
def Lp(x0:Nat)(x1:Option Nat)(x2:Operand):Bool:=dh (.field x0 x1 x2)
def KA(x0:Nat)(x1:Nat)(x2:Operand)(x3:Operand):Bool:=dh (.cw x0 x1 x2 x3)
def GP(x0:Nat)(x1:Operand)(x2:Operand):Bool:=dh (.aK x0 x1 x2)
def OV(x0:Nat)(x1:Nat)(x2:Option Nat)(x3:Operand)(x4:Operand):Bool:=dh (.tA x0 x1 x2 x3 x4)
def Oj(x0:Operand)(x1:Operand):Bool:=dh (.jb x0 x1)
def HW(x0:Bool)(x1:List dM)(x2:Value)(x3:Bool)(x4:Operand)(x5:Operand):Bool:=dh (.lookup x0 x1 x2 x3 x4 x5)
def Lz(x0:Bool)(x1:List dM)(x2:Operand)(x3:Operand)(x4:Operand):Bool:=dh (.oq x0 x1 x2 x3 x4)
def FP(x0:TypeId)(x1:Bool)(x2:Value)(x3:Operand):Bool:=dh (.jN x0 x1 x2 x3)
def Fm(x0:Operand)(x1:Nat):Bool:=dh (.extract x0 x1)
def On(x0:Operand)(x1:List Operand):Bool:=dh (.call x0 x1)
def Sm(x0:Nat)(x1:Operand):Bool:=dh (.len x0 x1)
def JY(x0:Nat):Bool:=dh (.jF x0)
def QH(x0:Operand):Bool:=dh (.cap x0)
def Jg(x0:Nat)(x1:Nat)(x2:Operand)(x3:Operand):Bool:=dh (.append x0 x1 x2 x3)
def EY(x0:List Value)(x1:Nat)(x2:Operand)(x3:Operand):Bool:=dh (.jJ x0 x1 x2 x3)
def Pp(x0:Nat)(x1:Operand)(x2:Operand):Bool:=dh (.copy x0 x1 x2)
def Nr(x0:List Value)(x1:Operand):Bool:=dh (.clear x0 x1)
def K8(x0:Bool)(x1:List Operand):Bool:=dh (.dK x0 x1)
def Ld(x0:Bool)(x1:List dM)(x2:Operand)(x3:Operand):Bool:=dh (.delete x0 x1 x2 x3)
def ON(x0:Operand)(x1:List Operand):Bool:=dh (.jr x0 x1)
def Gh:Bool:=dh (.recover)
def Py(x0:Operand):Bool:=dh (.sW x0)
def Nf(x0:Operand):Bool:=dh (.range x0)
def Qc(x0:Operand)(x1:Bool):Bool:=dh (.next x0 x1)
def KC(x0:Operand):Bool:=dh (.lX x0)
def LP(x0:Operand):Bool:=dh (.entry x0)
def CI(o:AOp):Bool:=AOp.rec (motive:=λ_=>Bool) RB Og RE R5 L9 I4 Om M8 GL QI SI PK Fv Ii MM FJ MZ MC Lp KA GP OV Oj HW Lz FP Fm On Sm JY QH Jg EY Pp Nr K8 Ld ON Gh Py Nf Qc KC LP o
theorem gW:CI=dh:=by funext o;cases o<;>rfl
def zh(o:AOp):Bool:=EL o||CI o
theorem gz:zh=jj:=by funext o;simp only[zh,jj,Cm,gW]
def kC(o:aW):List Nat:=
 match o.guard with
 |some (t,_)=>t::xQ (zo o.op)
 |none=>xQ (zo o.op)
theorem gH:kC=cB:=by funext o;unfold kC cB;simp only[Dc];rfl
def qQ:List Value->List Value->Bool
 |[],[]=>true
 |x::xs,y::ys=>bif zy x y then qQ xs ys else false
 |_,_=>false
def Cr:Value->Value->Bool
 | .agg a, .agg b=>qQ a.toList b.toList
 | .tuple a, .tuple b=>qQ a.toList b.toList
 | .func (.func f) a' a, .func (.func g) b' b=>f==g&&(qQ a'.toList b'.toList&&qQ a.toList b.toList)
 |x,y=>zy x y
def DL(h:Heap)(base:Nat)(r:Rec):Bool:=
 match r.k with
 | .quiet=>match Dw h base r.e r.o.op with
   |some (.val v' h2)=>Cr r.v v'&&Nat.beq h2.next h.next
   |_=>false
 |_=>true
def zV(h:Heap)(base:Nat):List Rec->Bool
 |[]=>true
 |r::rs=>bif DL h base r then zV h base rs else false
def iY(h:Heap)(base:Nat)(log:List Nat)(mask:Nat):List Rec->Option (List Rec)
 |[]=>some []
 |r::rs=>bif Nat.testBit mask r.i then iY h base log mask rs else
  bif DL h base r&&Fa log r then match iY h base log mask rs with
   |some rs'=>some (r::rs')
   |none=>none
  else none
theorem Gb:qQ=jw:=by
 funext a;induction a with
 |nil=>funext b;cases b<;>rfl
 |cons x a ih=>funext b;cases b<;>first|rfl|(simp only[qQ,jw,yy,ih])
theorem F8:Cr=iP:=by
 funext a b;unfold Cr iP;simp only[Gb,yy];first|done|rfl
theorem BY:DL=qy:=by
 funext h base r;unfold DL qy;simp only[jM,F8];first|done|rfl
theorem iC:zV=mI:=by
 funext h base rs;induction rs with
 |nil=>rfl
 |cons r rs ih=>simp only[zV,mI,BY,ih]
theorem eE:iY=bF:=by
 funext h base log mask rs;induction rs with
 |nil=>rfl
 |cons r rs ih=>simp only[iY,bF,BY,ih];first|done|rfl
def JA(T:Nat->Option af)(F:Fam)(base:Nat)(rnd:Option Nat)(ops:List aW)(it:Nat)(x:Operand)(keep:List Nat)(out nxt pr:Nat)(ops2:List aW)(k2:List Nat)(body:bh)(e:Env)(ds:Dfs)(h:Heap):Option (bG×Env×Dfs×Heap):=match F.ops base rnd ops e ds h with
 |some (.normal,e0,ds0,h0)=>match ds0 with
  |_::_=>none
  |[]=>match evQ h0 e0 x with
   |some (.map none)=>some (.normal,jR e0 keep,[],h0)
   |some (.map (some m))=>match mA h0 m with
    |some (.map es)=>F9 out (jR e0 keep) h0 (pJ (λe h=>F.ops (h0.next+1) rnd ops2 e [] h) (λe h=>F.exec (h0.next+1) rnd body e [] h) nxt pr k2 (itE it h0 (jR e0 keep)) (jR e0 keep) ((roM h0 m es).push .dead) es)
    |_=>none
   |_=>none
 |r=>r
def Br(T:Nat->Option af)(F:Fam)(base:Nat)(rnd:Option Nat)(f:Operand)(ps:List Nat)(asg body:bh)(e:Env)(ds:Dfs)(h:Heap):Option (bG×Env×Dfs×Heap):=bif oe h rnd then match evQ h e f with
 |some (.func (.func g) first cap)=>bif gF (T g)then none else
  match F.call g (dL first.toList (dL [.func (.yield h.next) #[] #[]] cap.toList)) {h.push (.loop e ps asg body 0 .normal)with log:=[]}with
  |some (.ret _,h2)=>match mA h2 h.next with
   |some (.loop _ _ _ _ st ir)=>bif Nat.beq st 1 then none else
    some (ir,e,ds,Heap.wr {h2 with log:=aF base h.log h2.log} base h.next .dead)
   |_=>none
  |some (.panic v,h2)=>some (.panic v,e,ds,{h2 with log:=aF base h.log h2.log})
  |none=>none
 |_=>none
 else none
def AH(F:Fam)(l:Nat)(args:List Value)(h:Heap):Option (Res×Heap):=match mA h l with
 |some (.loop e ps asg body 0 .normal)=>match ja e ps args with
  |some e1=>match F.exec h.next (some l) asg e1 [] h with
   |some (.normal,e2,ds2,h2)=>bif notReady (mA h2 l)then none else match F.exec h.next (some l) body e2 ds2 {h2 with bW:=soQ h2.bW l (.loop e ps asg body 1 .normal)}with
    |some (.normal,_,_,h3)=>match mA h3 l with
     |some (.loop _ _ _ _ 1 _)=>some (.ret (.bool true),gcA h {h3 with bW:=soQ h3.bW l (.loop e ps asg body 0 .normal)} (.bool true))
     |_=>none
    |some (.exit i,_,_,h3)=>match mA h3 l with
     |some (.loop _ _ _ _ 1 _)=>some (.ret (.bool false),h3.wr h.next l (.loop e ps asg body 2 (.exit i)))
     |_=>none
    |some (.ret,_,_,h3)=>match mA h3 l with
     |some (.loop _ _ _ _ 1 _)=>some (.ret (.bool false),h3.wr h.next l (.loop e ps asg body 2 .ret))
     |_=>none
    |_=>none
   |_=>none
  |none=>none
 |_=>none
def HA(T:Nat->Option af)(F:Fam):Nat->Option Nat->bh->Env->Dfs->Heap->Option (bG×Env×Dfs×Heap):=λbase rnd c e ds h=>
 match c with
 | .skip=>some (.normal,e,ds,h)
 | .region ops keep=>match F.ops base rnd ops e ds h with
   |some (.normal,e',ds',h')=>some (.normal,jR e' keep,ds',h')
   |r=>r
 | .draw ops order before keep=>match F.draw base ops order before [] e h with
   |some (.normal,e',h')=>some (.normal,jR e' keep,ds,h')
   |some (x,e',h')=>some (x,e',ds,h')
   |none=>none
 | .seq a b=>match F.exec base rnd a e ds h with
   |some (.normal,e',ds',h')=>F.exec base rnd b e' ds' h'
   |r=>r
 | .cond c a b=>match evQ h e c with
   |some (.bool true)=>F.exec base rnd a e ds h
   |some (.bool false)=>F.exec base rnd b e ds h
   |_=>none
 | .block id b=>match F.exec base rnd b e ds h with
   |some (.exit i,e',ds',h')=>bif Nat.beq i id then some (.normal,e',ds',h')else some (.exit i,e',ds',h')
   |r=>r
 | .loop b=>match F.exec base rnd b e ds h with
   |some (.normal,e',ds',h')=>F.exec base rnd (.loop b) e' ds' h'
   |r=>r
 | .scope b=>F.exec base rnd b e ds h
 | .rangeFunc f ps asg body=>Br T F base rnd f ps asg body e ds h
 | .rangeMap ops it x keep out nxt pr ops2 k2 body=>JA T F base rnd ops it x keep out nxt pr ops2 k2 body e ds h
 | .exit id=>some (.exit id,e,ds,h)
 | .ret=>some (.ret,e,ds,h)
def NG(T:Nat->Option af)(F:Fam):Nat->Option Nat->List aW->Env->Dfs->Heap->Option (bG×Env×Dfs×Heap):=λbase rnd ops e ds h=>
 match ops with
 |[]=>some (.normal,e,ds,h)
 |o::os=>match ru e o.guard with
  |some false=>F.ops base rnd os (bU e o.dst (.tuple #[])) ds h
  |some true=>match Dw h base e o.op with
   |some (.val v h')=>F.ops base rnd os (bU e o.dst v) ds h'
   |some (.call fn args h')=>match F.iK fn args {h' with log:=[]}with
    |some (.ret v,h2)=>F.ops base rnd os (bU e o.dst v) ds {h2 with log:=aF base h'.log h2.log}
    |some (.panic v,h2)=>some (.panic v,e,ds,{h2 with log:=aF base h'.log h2.log})
    |none=>none
   |some (.jr f args)=>match rnd with|some _=>none|none=>F.ops base rnd os (bU e o.dst (.tuple #[])) ((f,args)::ds) h
   |some (.panic v h')=>some (.panic v,e,ds,h')
   |_=>none
  |none=>none
def Hj(T:Nat->Option af)(F:Fam):Nat->List aW->List Nat->List Nat->List Rec->Env->Heap->Option (bG×Env×Heap):=λbase ops order before rs e h=>
 match order with
 |[]=>some (.normal,e,h)
 |i::is=>match bP ops i,bP before i with
  |some o,some mask=>
   match ru (jR e (kC o)) o.guard with
   |some false=>F.draw base ops is before (⟨i,o,jR e (kC o), .tuple #[], .skip⟩::rs) (bU e o.dst (.tuple #[])) h
   |some true=>
    bif zh o.op then
     match Dw h base (jR e (kC o)) o.op with
     |some (.val v h')=>
      bif CI o.op then
       bif zV h' base rs then F.draw base ops is before (⟨i,o,jR e (kC o),v, .made h.next⟩::rs) (bU e o.dst v) h' else none
      else bif Nat.beq h'.next h.next then F.draw base ops is before (⟨i,o,jR e (kC o),v, .quiet⟩::rs) (bU e o.dst v) h
      else bif ye before i is then
       match Dw {h with log:=[]} h.next (jR e (kC o)) o.op with
       |some (.val v h2)=>match iY {h2 with log:=aF base h.log h2.log} base h2.log mask rs with
        |some rs'=>F.draw base ops is before rs' (bU e o.dst v) {h2 with log:=aF base h.log h2.log}
        |none=>none
       |_=>none
      else none
     |_=>none
    else
     match Dw {h with log:=[]} h.next (jR e (kC o)) o.op with
     |some (.val v h2)=>match iY {h2 with log:=aF base h.log h2.log} base h2.log mask rs with
      |some rs'=>F.draw base ops is before rs' (bU e o.dst v) {h2 with log:=aF base h.log h2.log}
      |none=>none
     |some (.call fn args _)=>match F.iK fn args {h with log:=[]}with
      |some (.ret v,h2)=>match iY {h2 with log:=aF base h.log h2.log} base h2.log mask rs with
       |some rs'=>F.draw base ops is before rs' (bU e o.dst v) {h2 with log:=aF base h.log h2.log}
       |none=>none
      |some (.panic v,h2)=>some (.panic v,[],{h2 with log:=aF base h.log h2.log})
      |none=>none
     |_=>none
   |none=>none
  |_,_=>none
def DX(T:Nat->Option af)(F:Fam):Fn->List Value->Heap->Option (Res×Heap):=λfn args h=>
 match fn with
 | .func f=>F.call f args h
 | .yield l=>AH F l args h
 |_=>none
def HS(T:Nat->Option af)(F:Fam):Nat->List Value->Heap->Option (Res×Heap):=λf args h=>
 match T f with
 |none=>none
 |some (.j9 p)=>match p args h with
  |some (v,h')=>some (.ret v,h')
  |none=>none
 |some (.code code results)=>match F.exec h.next none code (ej 0 args) [] h with
  |some (.panic v,e,ds,h1)=>F.unw results ds (some v) e h h1
  |some (.exit _,_,_,_)=>none
  |some (_,e,ds,h1)=>F.unw results ds none e h h1
  |none=>none
def NB(T:Nat->Option af)(F:Fam):List (Nat×Option (Option Nat))->Dfs->Option Value->Env->Heap->Heap->Option (Res×Heap):=λresults ds pan e h h1=>
 match ds with
 |[]=>match pan with
  |some v=>some (.panic v,h1)
  |none=>match JJ h1 e results with
   |some vs=>some (.ret (fD vs),gcA h h1 (fD vs))
   |none=>none
 |(.func (.func g) first cap,args)::ds=>match F.defer g (dL first.toList (dL args cap.toList)) pan {h1 with log:=[]}with
  |some (pan',h2)=>F.unw results ds pan' e h {h2 with log:=aF h.next h1.log h2.log}
  |none=>none
 |_=>none
def Ed(T:Nat->Option af)(F:Fam):Nat->List Value->Option Value->Heap->Option (Option Value×Heap):=λg args pan h=>
 match T g with
 |some (.code code [])=>match F.fK h.next code (ej 0 args) pan h with
  |some (.normal,_,pan',h')=>some (pan',h')
  |some (.ret,_,pan',h')=>some (pan',h')
  |_=>none
 |_=>none
def DJ(T:Nat->Option af)(F:Fam):Nat->bh->Env->Option Value->Heap->Option (bG×Env×Option Value×Heap):=λbase c e pan h=>
 match c with
 | .skip=>some (.normal,e,pan,h)
 | .region ops keep=>match F.jC base ops e pan h with
   |some (.normal,e',pan',h')=>some (.normal,jR e' keep,pan',h')
   |r=>r
 | .seq a b=>match F.fK base a e pan h with
   |some (.normal,e',pan',h')=>F.fK base b e' pan' h'
   |r=>r
 | .cond c a b=>match evQ h e c with
   |some (.bool true)=>F.fK base a e pan h
   |some (.bool false)=>F.fK base b e pan h
   |_=>none
 | .ret=>some (.ret,e,pan,h)
 |_=>none
def GK(T:Nat->Option af)(F:Fam):Nat->List aW->Env->Option Value->Heap->Option (bG×Env×Option Value×Heap):=λbase ops e pan h=>
 match ops with
 |[]=>some (.normal,e,pan,h)
 |o::os=>match ru e o.guard with
  |some false=>F.jC base os (bU e o.dst (.tuple #[])) pan h
  |some true=>match Dw h base e o.op with
   |some (.val v h')=>F.jC base os (bU e o.dst v) pan h'
   |some .recover=>match pan with
    |some v=>F.jC base os (bU e o.dst v) none h
    |none=>F.jC base os (bU e o.dst .nilIface) none h
   |_=>none
  |none=>none
def Fam.EP(T:Nat->Option af)(F:Fam):Fam where
 exec:=HA T F
 ops:=NG T F
 draw:=Hj T F
 iK:=DX T F
 call:=HS T F
 unw:=NB T F
 defer:=Ed T F
 fK:=DJ T F
 jC:=GK T F
def nY(T:Nat->Option af)(n:Nat):Fam:=Nat.rec Fam.none (λ_ F=>Fam.EP T F) n
theorem GY:Fam.EP=Fam.succ:=by
 funext T F;unfold Fam.EP Fam.succ;simp only[Fam.mk.injEq];refine⟨?_,?_,?_,?_,?_,?_,?_,?_,?_⟩
 ·funext x0 x1 x2 x3 x4 x5;unfold HA Br JA;first|rfl|(simp only[bM,bw,bt,bT,l9,jc,gI,kF,jE,jM,iC,eE,aV,gH,gz,gW];rfl)
 ·funext x0 x1 x2 x3 x4 x5;unfold NG;first|rfl|(simp only[bM,bw,bt,bT,l9,jc,gI,kF,jE,jM,iC,eE,aV,gH,gz,gW];rfl)
 ·funext x0 x1 x2 x3 x4 x5 x6;unfold Hj;first|rfl|(simp only[bM,bw,bt,bT,l9,jc,gI,kF,jE,jM,iC,eE,aV,gH,gz,gW];rfl)
 ·funext x0 x1 x2;unfold DX AH;first|rfl|(simp only[bM,bw,bt,bT,l9,jc,gI,kF,jE,jM,iC,eE,aV,gH,gz,gW];rfl)
 ·funext x0 x1 x2;unfold HS;first|rfl|(simp only[bM,bw,bt,bT,l9,jc,gI,kF,jE,jM,iC,eE,aV,gH,gz,gW];rfl)
 ·funext x0 x1 x2 x3 x4 x5;unfold NB;first|rfl|(simp only[bM,bw,bt,bT,l9,jc,gI,kF,jE,jM,iC,eE,aV,gH,gz,gW];rfl)
 ·funext x0 x1 x2 x3;unfold Ed;first|rfl|(simp only[bM,bw,bt,bT,l9,jc,gI,kF,jE,jM,iC,eE,aV,gH,gz,gW];rfl)
 ·funext x0 x1 x2 x3 x4;unfold DJ;first|rfl|(simp only[bM,bw,bt,bT,l9,jc,gI,kF,jE,jM,iC,eE,aV,gH,gz,gW];rfl)
 ·funext x0 x1 x2 x3 x4;unfold GK;first|rfl|(simp only[bM,bw,bt,bT,l9,jc,gI,kF,jE,jM,iC,eE,aV,gH,gz,gW];rfl)
theorem DO(T:Nat->Option af):∀n,nY T n=fam T n
 |0=>rfl
 |n+1=>by
  show Fam.EP T (nY T n)=Fam.succ T (fam T n);rw[DO T n,GY]
end Go.A
