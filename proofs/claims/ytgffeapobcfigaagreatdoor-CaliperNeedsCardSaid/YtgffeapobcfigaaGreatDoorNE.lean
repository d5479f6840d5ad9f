/- The runs once more, for the kernel. -/
import Derived.Test.YtgffeapobcfigaaGreatDoorNA
set_option linter.all false
namespace Go.A
structure Fam where
 exec:Nat→Option Nat→bn→Env→Dfs→Heap→Option (bA×Env×Dfs×Heap)
 ops:Nat→Option Nat→List aZ→Env→Dfs→Heap→Option (bA×Env×Dfs×Heap)
 draw:Nat→List aZ→List Nat→List Nat→List Rec→Env→Heap→Option (bA×Env×Heap)
 iy:Fn→List Value→Heap→Option (Res×Heap)
 call:Nat→List Value→Heap→Option (Res×Heap)
 unw:List (Nat×Option (Option Nat))→Dfs→Option Value→Env→Heap→Heap→Option (Res×Heap)
 defer:Nat→List Value→Option Value→Heap→Option (Option Value×Heap)
 fL:Nat→bn→Env→Option Value→Heap→Option (bA×Env×Option Value×Heap)
 jr:Nat→List aZ→Env→Option Value→Heap→Option (bA×Env×Option Value×Heap)
def Fam.none:Fam where
 exec:=fun _ _ _ _ _ _=> .none
 ops:=fun _ _ _ _ _ _=> .none
 draw:=fun _ _ _ _ _ _ _=> .none
 iy:=fun _ _ _=> .none
 call:=fun _ _ _=> .none
 unw:=fun _ _ _ _ _ _=> .none
 defer:=fun _ _ _ _=> .none
 fL:=fun _ _ _ _ _=> .none
 jr:=fun _ _ _ _ _=> .none
def Lc(T:Nat→Option ah)(F:Fam):Nat→Option Nat→bn→Env→Dfs→Heap→Option (bA×Env×Dfs×Heap):=fun base rnd c e ds h=>
    match c with
    | .skip=>some (.normal,e,ds,h)
    | .region ops keep=>match F.ops base rnd ops e ds h with
      |some (.normal,e',ds',h')=>some (.normal,bG e' keep,ds',h')
      |r=>r
    | .draw ops order before keep=>match F.draw base ops order before [] e h with
      |some (.normal,e',h')=>some (.normal,bG e' keep,ds,h')
      |some (x,e',h')=>some (x,e',ds,h')
      |none=>none
    | .seq a b=>match F.exec base rnd a e ds h with
      |some (.normal,e',ds',h')=>F.exec base rnd b e' ds' h'
      |r=>r
    | .cond c a b=>match ev h e c with
      |some (.bool true)=>F.exec base rnd a e ds h
      |some (.bool false)=>F.exec base rnd b e ds h
      |_=>none
    | .block id b=>match F.exec base rnd b e ds h with
      |some (.exit i,e',ds',h')=>bif Nat.beq i id then some (.normal,e',ds',h')else some (.exit i,e',ds',h')
      |r=>r
    | .loop b=>match F.exec base rnd b e ds h with
      |some (.normal,e',ds',h')=>F.exec base rnd (.loop b) e' ds' h'
      |r=>r
    | .scope b=>F.exec base rnd b e ds h
    | .rangeFunc f ps asg body=>bif nZ h rnd then match ev h e f with
      |some (.func (.func g) first cap)=>bif gp (T g)then none else
       match F.call g (dQ first.toList (dQ [.func (.yield h.next) #[] #[]] cap.toList)) {h.push (.loop e ps asg body 0 .normal)with log:=[]}with
       |some (.ret _,h2)=>match h2.get h.next with
        |some (.loop _ _ _ _ st gV)=>bif Nat.beq st 1 then none else
         some (gV,e,ds,Heap.wr {h2 with log:=aD base h.log h2.log} base h.next .dead)
        |_=>none
       |some (.panic v,h2)=>some (.panic v,e,ds,{h2 with log:=aD base h.log h2.log})
       |none=>none
      |_=>none
      else none
    | .rangeMap ops it x keep out nxt pr ops2 k2 body=>match F.ops base rnd ops e ds h with
      |some (.normal,e0,ds0,h0)=>match ds0 with
       |_::_=>none
       |[]=>match ev h0 e0 x with
        |some (.map none)=>some (.normal,bG e0 keep,[],h0)
        |some (.map (some m))=>match h0.get m with
         |some (.map es)=>CD out (bG e0 keep) h0 (nC (fun e h=>F.ops (h0.next+1) rnd ops2 e [] h) (fun e h=>F.exec (h0.next+1) rnd body e [] h) nxt pr k2 (itE it h0 (bG e0 keep)) (bG e0 keep) ((roM h0 m es).push .dead) es)
         |_=>none
        |_=>none
      |r=>r
    | .exit id=>some (.exit id,e,ds,h)
    | .ret=>some (.ret,e,ds,h)
def Ny(T:Nat→Option ah)(F:Fam):Nat→Option Nat→List aZ→Env→Dfs→Heap→Option (bA×Env×Dfs×Heap):=fun base rnd ops e ds h=>
    match ops with
    |[]=>some (.normal,e,ds,h)
    |o::os=>match bJ e o.guard with
     |some false=>F.ops base rnd os (bO e o.dst (.tuple #[])) ds h
     |some true=>match aop h base e o.op with
      |some (.val v h')=>F.ops base rnd os (bO e o.dst v) ds h'
      |some (.call fn args h')=>match F.iy fn args {h' with log:=[]}with
       |some (.ret v,h2)=>F.ops base rnd os (bO e o.dst v) ds {h2 with log:=aD base h'.log h2.log}
       |some (.panic v,h2)=>some (.panic v,e,ds,{h2 with log:=aD base h'.log h2.log})
       |none=>none
      |some (.jg f args)=>match rnd with|some _=>none|none=>F.ops base rnd os (bO e o.dst (.tuple #[])) ((f,args)::ds) h
      |some (.panic v h')=>some (.panic v,e,ds,h')
      |_=>none
     |none=>none
def Mx(T:Nat→Option ah)(F:Fam):Nat→List aZ→List Nat→List Nat→List Rec→Env→Heap→Option (bA×Env×Heap):=fun base ops order before rs e h=>
    match order with
    |[]=>some (.normal,e,h)
    |i::is=>match cm ops i,cm before i with
     |some o,some mask=>
      match bJ (bG e (cC o)) o.guard with
      |some false=>F.draw base ops is before (⟨i,o,bG e (cC o), .tuple #[], .skip⟩::rs) (bO e o.dst (.tuple #[])) h
      |some true=>
       bif ja o.op then
        match aop h base (bG e (cC o)) o.op with
        |some (.val v h')=>
         bif dw o.op then
          bif mj h' base rs then F.draw base ops is before (⟨i,o,bG e (cC o),v, .made h.next⟩::rs) (bO e o.dst v) h' else none
         else bif Nat.beq h'.next h.next then F.draw base ops is before (⟨i,o,bG e (cC o),v, .quiet⟩::rs) (bO e o.dst v) h
         else bif vM before i is then
          match aop {h with log:=[]} h.next (bG e (cC o)) o.op with
          |some (.val v h2)=>match bB {h2 with log:=aD base h.log h2.log} base h2.log mask rs with
           |some rs'=>F.draw base ops is before rs' (bO e o.dst v) {h2 with log:=aD base h.log h2.log}
           |none=>none
          |_=>none
         else none
        |_=>none
       else
        match aop {h with log:=[]} h.next (bG e (cC o)) o.op with
        |some (.val v h2)=>match bB {h2 with log:=aD base h.log h2.log} base h2.log mask rs with
         |some rs'=>F.draw base ops is before rs' (bO e o.dst v) {h2 with log:=aD base h.log h2.log}
         |none=>none
        |some (.call fn args _)=>match F.iy fn args {h with log:=[]}with
         |some (.ret v,h2)=>match bB {h2 with log:=aD base h.log h2.log} base h2.log mask rs with
          |some rs'=>F.draw base ops is before rs' (bO e o.dst v) {h2 with log:=aD base h.log h2.log}
          |none=>none
         |some (.panic v,h2)=>some (.panic v,[],{h2 with log:=aD base h.log h2.log})
         |none=>none
        |_=>none
      |none=>none
     |_,_=>none
def Ji(T:Nat→Option ah)(F:Fam):Fn→List Value→Heap→Option (Res×Heap):=fun fn args h=>
    match fn with
    | .func f=>F.call f args h
    | .yield l=>match h.get l with
      |some (.loop e ps asg body 0 .normal)=>match iP e ps args with
       |some e1=>match F.exec h.next (some l) asg e1 [] h with
        |some (.normal,e2,ds2,h2)=>bif notReady (h2.get l)then none else match F.exec h.next (some l) body e2 ds2 {h2 with bM:=gW h2.bM l (.loop e ps asg body 1 .normal)}with
         |some (.normal,_,_,h3)=>match h3.get l with
          |some (.loop _ _ _ _ 1 _)=>some (.ret (.bool true),gcA h {h3 with bM:=gW h3.bM l (.loop e ps asg body 0 .normal)} (.bool true))
          |_=>none
         |some (.exit i,_,_,h3)=>match h3.get l with
          |some (.loop _ _ _ _ 1 _)=>some (.ret (.bool false),h3.wr h.next l (.loop e ps asg body 2 (.exit i)))
          |_=>none
         |some (.ret,_,_,h3)=>match h3.get l with
          |some (.loop _ _ _ _ 1 _)=>some (.ret (.bool false),h3.wr h.next l (.loop e ps asg body 2 .ret))
          |_=>none
         |_=>none
        |_=>none
       |none=>none
      |_=>none
    |_=>none
def MM(T:Nat→Option ah)(F:Fam):Nat→List Value→Heap→Option (Res×Heap):=fun f args h=>
    match T f with
    |none=>none
    |some (.jV p)=>match p args h with
     |some (v,h')=>some (.ret v,h')
     |none=>none
    |some (.code code results)=>match F.exec h.next none code (ez 0 args) [] h with
     |some (.panic v,e,ds,h1)=>F.unw results ds (some v) e h h1
     |some (.exit _,_,_,_)=>none
     |some (_,e,ds,h1)=>F.unw results ds none e h h1
     |none=>none
def OA(T:Nat→Option ah)(F:Fam):List (Nat×Option (Option Nat))→Dfs→Option Value→Env→Heap→Heap→Option (Res×Heap):=fun results ds pan e h h1=>
    match ds with
    |[]=>match pan with
     |some v=>some (.panic v,h1)
     |none=>match cH h1 e results with
      |some vs=>some (.ret (fP vs),gcA h h1 (fP vs))
      |none=>none
    |(.func (.func g) first cap,args)::ds=>match F.defer g (dQ first.toList (dQ args cap.toList)) pan {h1 with log:=[]}with
     |some (pan',h2)=>F.unw results ds pan' e h {h2 with log:=aD h.next h1.log h2.log}
     |none=>none
    |_=>none
def Ke(T:Nat→Option ah)(F:Fam):Nat→List Value→Option Value→Heap→Option (Option Value×Heap):=fun g args pan h=>
    match T g with
    |some (.code code [])=>match F.fL h.next code (ez 0 args) pan h with
     |some (.normal,_,pan',h')=>some (pan',h')
     |some (.ret,_,pan',h')=>some (pan',h')
     |_=>none
    |_=>none
def I6(T:Nat→Option ah)(F:Fam):Nat→bn→Env→Option Value→Heap→Option (bA×Env×Option Value×Heap):=fun base c e pan h=>
    match c with
    | .skip=>some (.normal,e,pan,h)
    | .region ops keep=>match F.jr base ops e pan h with
      |some (.normal,e',pan',h')=>some (.normal,bG e' keep,pan',h')
      |r=>r
    | .seq a b=>match F.fL base a e pan h with
      |some (.normal,e',pan',h')=>F.fL base b e' pan' h'
      |r=>r
    | .cond c a b=>match ev h e c with
      |some (.bool true)=>F.fL base a e pan h
      |some (.bool false)=>F.fL base b e pan h
      |_=>none
    | .ret=>some (.ret,e,pan,h)
    |_=>none
def K3(T:Nat→Option ah)(F:Fam):Nat→List aZ→Env→Option Value→Heap→Option (bA×Env×Option Value×Heap):=fun base ops e pan h=>
    match ops with
    |[]=>some (.normal,e,pan,h)
    |o::os=>match bJ e o.guard with
     |some false=>F.jr base os (bO e o.dst (.tuple #[])) pan h
     |some true=>match aop h base e o.op with
      |some (.val v h')=>F.jr base os (bO e o.dst v) pan h'
      |some .recover=>match pan with
       |some v=>F.jr base os (bO e o.dst v) none h
       |none=>F.jr base os (bO e o.dst .nilIface) none h
      |_=>none
     |none=>none
def Fam.succ(T:Nat→Option ah)(F:Fam):Fam where
 exec:=Lc T F
 ops:=Ny T F
 draw:=Mx T F
 iy:=Ji T F
 call:=MM T F
 unw:=OA T F
 defer:=Ke T F
 fL:=I6 T F
 jr:=K3 T F
def fam(T:Nat→Option ah)(n:Nat):Fam:=Nat.rec Fam.none (fun _ F=>Fam.succ T F) n
theorem E4(T:Nat→Option ah):∀n,fam T n={exec:=bZ T n,ops:=gh T n,draw:=eH T n,iy:=gU T n,call:=iE T n,unw:=nk T n,defer:=jY T n,fL:=iA T n,jr:=jh T n}
 |0=>by
  show Fam.none=_
  unfold Fam.none
  simp only[Fam.mk.injEq]
  refine⟨?_,?_,?_,?_,?_,?_,?_,?_,?_⟩
  ·funext x0 x1 x2 x3 x4 x5;simp only[bZ]
  ·funext x0 x1 x2 x3 x4 x5;simp only[gh]
  ·funext x0 x1 x2 x3 x4 x5 x6;simp only[eH]
  ·funext x0 x1 x2;simp only[gU]
  ·funext x0 x1 x2;simp only[iE]
  ·funext x0 x1 x2 x3 x4 x5;simp only[nk]
  ·funext x0 x1 x2 x3;simp only[jY]
  ·funext x0 x1 x2 x3 x4;simp only[iA]
  ·funext x0 x1 x2 x3 x4;simp only[jh]
 |n+1=>by
  show Fam.succ T (fam T n)=_
  rw[E4 T n]
  unfold Fam.succ
  simp only[Fam.mk.injEq]
  refine⟨?_,?_,?_,?_,?_,?_,?_,?_,?_⟩
  ·funext x0 x1 x2 x3 x4 x5;refine Eq.trans ?_ (bZ.eq_def T (n+1) x0 x1 x2 x3 x4 x5).symm;rfl
  ·funext x0 x1 x2 x3 x4 x5;refine Eq.trans ?_ (gh.eq_def T (n+1) x0 x1 x2 x3 x4 x5).symm;rfl
  ·funext x0 x1 x2 x3 x4 x5 x6;refine Eq.trans ?_ (eH.eq_def T (n+1) x0 x1 x2 x3 x4 x5 x6).symm;rfl
  ·funext x0 x1 x2;refine Eq.trans ?_ (gU.eq_def T (n+1) x0 x1 x2).symm;rfl
  ·funext x0 x1 x2;refine Eq.trans ?_ (iE.eq_def T (n+1) x0 x1 x2).symm;rfl
  ·funext x0 x1 x2 x3 x4 x5;refine Eq.trans ?_ (nk.eq_def T (n+1) x0 x1 x2 x3 x4 x5).symm;rfl
  ·funext x0 x1 x2 x3;refine Eq.trans ?_ (jY.eq_def T (n+1) x0 x1 x2 x3).symm;rfl
  ·funext x0 x1 x2 x3 x4;refine Eq.trans ?_ (iA.eq_def T (n+1) x0 x1 x2 x3 x4).symm;rfl
  ·funext x0 x1 x2 x3 x4;refine Eq.trans ?_ (jh.eq_def T (n+1) x0 x1 x2 x3 x4).symm;rfl
noncomputable def OT(k:IntKind):Nat:=IntKind.rec (motive:=fun _=>Nat) 0 1 2 3 4 5 6 7 k
noncomputable def kEq(a b:IntKind):Bool:=Nat.beq (OT a) (OT b)
theorem wR(a b:IntKind):kEq a b=decide (a=b):=by cases a<;>cases b<;>rfl
noncomputable def HR(m:Nat)(b:Int):Bool:=Int.rec (motive:=fun _=>Bool) (fun n=>Nat.beq m n) (fun _=>false) b
noncomputable def FB(m:Nat)(b:Int):Bool:=Int.rec (motive:=fun _=>Bool) (fun _=>false) (fun n=>Nat.beq m n) b
noncomputable def iEq(a b:Int):Bool:=Int.rec (motive:=fun _=>Int→Bool) HR FB a b
theorem AL(a b:Int):iEq a b=(a==b):=by
 rw[Bool.eq_iff_iff]
 simp only[beq_iff_eq]
 cases a<;>cases b<;>simp[iEq,HR,FB,Nat.beq_eq]<;>omega
noncomputable def Fo(m:Nat)(b:Int):Bool:=Int.rec (motive:=fun _=>Bool) (fun n=>Nat.blt m n) (fun _=>false) b
noncomputable def EC(m:Nat)(b:Int):Bool:=Int.rec (motive:=fun _=>Bool) (fun _=>true) (fun n=>Nat.blt n m) b
noncomputable def iLt(a b:Int):Bool:=Int.rec (motive:=fun _=>Int→Bool) Fo EC a b
theorem KZ(a b:Int):iLt a b=decide (a<b):=by
 rw[Bool.eq_iff_iff]
 simp only[decide_eq_true_eq]
 cases a<;>cases b<;>simp[iLt,Fo,EC,Nat.blt_eq]<;>omega
noncomputable def topP(k:IntKind):Nat:=IntKind.rec (motive:=fun _=>Nat) 128 32768 2147483648 9223372036854775808 256 65536 4294967296 18446744073709551616 k
noncomputable def topN(k:IntKind):Nat:=IntKind.rec (motive:=fun _=>Nat) 128 32768 2147483648 9223372036854775808 0 0 0 0 k
noncomputable def Ks(k:IntKind)(n:Int):Int:=Int.rec (motive:=fun _=>Int) (fun m=>bif Nat.blt m (topP k)then .ofNat m else k.wrap (.ofNat m)) (fun m=>bif Nat.blt m (topN k)then .negSucc m else k.wrap (.negSucc m)) n
theorem GY(k:IntKind)(n:Int):Ks k n=fD k n:=by cases n<;>cases k<;>rfl
noncomputable def MB{α:Type}(m:Nat)(f:Nat→α):α:=Nat.rec (motive:=fun _=>α) (f 0) (fun n _=>f (Nat.succ n)) m
theorem I5{α:Type}(m:Nat)(f:Nat→α):MB m f=f m:=by cases m<;>rfl
noncomputable def Mr{α:Type}(m:Int)(f:Int→α):α:=Int.rec (motive:=fun _=>α) (fun n=>MB n fun n=>f (.ofNat n)) (fun n=>MB n fun n=>f (.negSucc n)) m
theorem Jz{α:Type}(m:Int)(f:Int→α):Mr m f=f m:=by cases m<;>simp[Mr,I5]
noncomputable def mkI(k:IntKind)(n:Int):Option Value:=Mr (Ks k n) fun n=>some (.int k n)
noncomputable def F1(k:IntKind)(x y:Int):Option Value:=mkI k (x+y)
noncomputable def FO(k:IntKind)(x y:Int):Option Value:=mkI k (x-y)
noncomputable def GJ(k:IntKind)(x y:Int):Option Value:=mkI k (x*y)
noncomputable def Ed(_:IntKind)(x y:Int):Option Value:=some (.bool (iEq x y))
noncomputable def Fj(_:IntKind)(x y:Int):Option Value:=some (.bool (Bool.rec true false (iEq x y)))
noncomputable def HK(_:IntKind)(x y:Int):Option Value:=some (.bool (iLt x y))
noncomputable def Fv(_:IntKind)(x y:Int):Option Value:=some (.bool (Bool.rec true false (iLt y x)))
noncomputable def F6(_:IntKind)(x y:Int):Option Value:=some (.bool (iLt y x))
noncomputable def G6(_:IntKind)(x y:Int):Option Value:=some (.bool (Bool.rec true false (iLt x y)))
def GZ(k:IntKind)(x y:Int):Option Value:=arith .quo k x y
def GG(k:IntKind)(x y:Int):Option Value:=arith .rem k x y
def E7(k:IntKind)(x y:Int):Option Value:=arith .and k x y
def Ky(k:IntKind)(x y:Int):Option Value:=arith .or k x y
def Ih(k:IntKind)(x y:Int):Option Value:=arith .xor k x y
def we(k:IntKind)(x y:Int):Option Value:=arith .andNot k x y
noncomputable def FJ(k:IntKind)(x:Int)(k':IntKind)(y:Int):Option Value:=Bool.rec none (F1 k x y) (kEq k k')
noncomputable def Hz(k:IntKind)(x:Int)(k':IntKind)(y:Int):Option Value:=Bool.rec none (FO k x y) (kEq k k')
noncomputable def HF(k:IntKind)(x:Int)(k':IntKind)(y:Int):Option Value:=Bool.rec none (GJ k x y) (kEq k k')
noncomputable def Ew(k:IntKind)(x:Int)(k':IntKind)(y:Int):Option Value:=Bool.rec none (GZ k x y) (kEq k k')
noncomputable def Fm(k:IntKind)(x:Int)(k':IntKind)(y:Int):Option Value:=Bool.rec none (GG k x y) (kEq k k')
noncomputable def Gu(k:IntKind)(x:Int)(k':IntKind)(y:Int):Option Value:=Bool.rec none (E7 k x y) (kEq k k')
noncomputable def MW(k:IntKind)(x:Int)(k':IntKind)(y:Int):Option Value:=Bool.rec none (Ky k x y) (kEq k k')
noncomputable def FP(k:IntKind)(x:Int)(k':IntKind)(y:Int):Option Value:=Bool.rec none (Ih k x y) (kEq k k')
def HD(k:IntKind)(x:Int)(_:IntKind)(y:Int):Option Value:=mC .shl k x y
def F8(k:IntKind)(x:Int)(_:IntKind)(y:Int):Option Value:=mC .shr k x y
noncomputable def uP(k:IntKind)(x:Int)(k':IntKind)(y:Int):Option Value:=Bool.rec none (we k x y) (kEq k k')
noncomputable def HV(k:IntKind)(x:Int)(k':IntKind)(y:Int):Option Value:=Bool.rec none (Ed k x y) (kEq k k')
noncomputable def Gh(k:IntKind)(x:Int)(k':IntKind)(y:Int):Option Value:=Bool.rec none (Fj k x y) (kEq k k')
noncomputable def EV(k:IntKind)(x:Int)(k':IntKind)(y:Int):Option Value:=Bool.rec none (HK k x y) (kEq k k')
noncomputable def GM(k:IntKind)(x:Int)(k':IntKind)(y:Int):Option Value:=Bool.rec none (Fv k x y) (kEq k k')
noncomputable def Ff(k:IntKind)(x:Int)(k':IntKind)(y:Int):Option Value:=Bool.rec none (F6 k x y) (kEq k k')
noncomputable def Ef(k:IntKind)(x:Int)(k':IntKind)(y:Int):Option Value:=Bool.rec none (G6 k x y) (kEq k k')
noncomputable def G8(op:BinOp):IntKind→Int→IntKind→Int→Option Value:=BinOp.rec (motive:=fun _=>IntKind→Int→IntKind→Int→Option Value) FJ Hz HF Ew Fm Gu MW FP HD F8 uP HV Gh EV GM Ff Ef op
noncomputable def Lg(op:BinOp)(x y:Value):Option Value:=
 match x with
 | .int k a=>match y with
   | .int k' b=>G8 op k a k' b
   |_=>none
 | .string a=>match y with
   | .string b=>zO op a b
   |_=>none
 |_=>none
theorem Ia{α:Type}(x y:α)(b:Bool):(Bool.rec x y b:α)=bif b then y else x:=by cases b<;>rfl
theorem LK(k:IntKind)(n:Int):mkI k n=some (.int k (fD k n)):=by simp[mkI,Jz,GY]
theorem bC:Lg=aq:=by
 funext op x y
 unfold Lg
 split
 ·rename_i k a
  split
  ·rename_i k' b
   by_cases hk:k=k'
   ·subst hk
    cases op<;>simp[G8,aq,FJ,Hz,HF,Ew,Fm,Gu,MW,FP,HD,F8,uP,HV,Gh,EV,GM,Ff,Ef,F1,FO,GJ,GZ,GG,E7,Ky,Ih,we,Ed,Fj,HK,Fv,F6,G6,wR,Ia,LK,arith,lJ,AL,KZ]
    all_goals first
     |(simp[bne];done)
     |(rw[Bool.eq_iff_iff];simp;done)
     |(rw[Bool.eq_iff_iff];simp;omega)
   ·cases op<;>simp[G8,aq,FJ,Hz,HF,Ew,Fm,Gu,MW,FP,HD,F8,uP,HV,Gh,EV,GM,Ff,Ef,wR,Ia,hk]
  ·rename_i hy
   cases op<;>cases y<;>first|rfl|exact(hy _ _ rfl).elim
 ·split
  ·cases op<;>rfl
  ·rename_i hy
   cases op<;>cases y<;>first|rfl|exact(hy _ rfl).elim
 ·rename_i h1 h2
  cases op<;>cases x<;>first|rfl|exact(h1 _ _ rfl).elim|exact(h2 _ rfl).elim
noncomputable def Pj(_:Nat):Option Value:=none
noncomputable def Qt(p:Nat×Value)(_:Env)(ih:Nat→Option Value)(t:Nat):Option Value:=Bool.rec (ih t) (some p.2) (Nat.beq p.1 t)
noncomputable def geQ(e:Env)(t:Nat):Option Value:=List.rec (motive:=fun _=>Nat→Option Value) Pj Qt e t
theorem jk:geQ=geT:=by
 funext e t
 induction e with
 |nil=>rfl
 |cons p e ih=>
  obtain⟨k,v⟩:=p
  show(Bool.rec (geQ e t) (some v) (Nat.beq k t):Option Value)=_
  rw[Ia,ih];rfl
noncomputable def Nu(t:Nat)(l:Env)(v:Value):Env:=(t,v)::l
noncomputable def PJ(_:Env):Env:=[]
noncomputable def Qj(t:Nat)(_:List Nat)(ih:Env→Env)(e:Env):Env:=Option.rec (motive:=fun _=>Env) (ih e) (Nu t (ih e)) (geQ e t)
noncomputable def jO(e:Env)(l:List Nat):Env:=List.rec (motive:=fun _=>Env→Env) PJ Qj l e
theorem jd:jO=bG:=by
 funext e l
 induction l with
 |nil=>rfl
 |cons t l ih=>
  show(Option.rec (jO e l) (Nu t (jO e l)) (geQ e t):Env)=_
  rw[jk,ih]
  simp only[bG]
  cases geT e t<;>rfl
noncomputable def OY(_:Nat):Option bN:=none
noncomputable def PS(p:Nat×bN)(_:List (Nat×bN))(ih:Nat→Option bN)(t:Nat):Option bN:=Bool.rec (ih t) (some p.2) (Nat.beq p.1 t)
noncomputable def goQ(e:List (Nat×bN))(t:Nat):Option bN:=List.rec (motive:=fun _=>Nat→Option bN) OY PS e t
theorem Lv:goQ=eX:=by
 funext e t
 induction e with
 |nil=>rfl
 |cons p e ih=>
  obtain⟨k,v⟩:=p
  show(Bool.rec (goQ e t) (some v) (Nat.beq k t):Option bN)=_
  rw[Ia,ih];rfl
noncomputable def lN(h:Heap)(b:Nat):Option bN:=goQ h.bM b
theorem bt:lN=Heap.get:=by funext h b;simp[lN,Heap.get,Lv]
noncomputable def QO(_:Nat)(_:bN):List (Nat×bN):=[]
noncomputable def PY(p:Nat×bN)(l:List (Nat×bN))(ih:Nat→bN→List (Nat×bN))(t:Nat)(o:bN):List (Nat×bN):=Bool.rec (p::ih t o) ((p.1,o)::l) (Nat.beq p.1 t)
noncomputable def soQ(e:List (Nat×bN))(t:Nat)(o:bN):List (Nat×bN):=List.rec (motive:=fun _=>Nat→bN→List (Nat×bN)) QO PY e t o
theorem lM:soQ=gW:=by
 funext e t o
 induction e with
 |nil=>rfl
 |cons p e ih=>
  obtain⟨k,v⟩:=p
  show(Bool.rec ((k,v)::soQ e t o) ((k,o)::e) (Nat.beq k t):List (Nat×bN))=_
  rw[Ia,ih];rfl
noncomputable def wrQ(h:Heap)(base b:Nat)(o:bN):Heap:={h with bM:=soQ h.bM b o,log:=bif Nat.blt b base then(bif fu h.log b then h.log else b::h.log)else h.log}
theorem bK:wrQ=Heap.wr:=by funext h base b o;simp[wrQ,Heap.wr,lM]
noncomputable def evQ(h:Heap)(e:Env)(x:Operand):Option Value:=Operand.rec (motive:=fun _=>Env→Heap→Option Value) (fun t e _=>geQ e t) (fun v _ _=>some v) (fun g _ h=>ev h [] (.global g)) (fun f _ _=>some (.func (.func f) #[] #[])) x e h
theorem bF:evQ=ev:=by
 funext h e x
 cases x<;>first|rfl|(show geQ e _=_;rw[jk];rfl)
noncomputable def Ad(h:Heap)(e:Env):List Operand→Option (List Value)
 |[]=>some []
 |x::xs=>match evQ h e x with
  |some v=>match Ad h e xs with
   |some vs=>some (v::vs)
   |none=>none
  |none=>none
theorem br:Ad=evs:=by
 funext h e l
 induction l with
 |nil=>rfl
 |cons x l ih=>(simp only[Ad,evs,bF,ih];rfl)
noncomputable def zv(h:Heap)(e:Env)(z:List Value):List (Nat×Nat×Operand)→Option (List Value)
 |[]=>some z
 |(off,size,x)::ps=>match evQ h e x with
  |some v=>bif Nat.beq (bR (cellsOf v)) size&&Nat.ble (off+size) (bR z)then zv h e (cU z off (cellsOf v)) ps else none
  |none=>none
theorem bk:zv=jL:=by
 funext h e z l
 induction l generalizing z with
 |nil=>rfl
 |cons p l ih=>obtain⟨a,b,x⟩:=p;(simp only[zv,jL,bF,ih];rfl)
noncomputable def qe(e:Env)(g:Option (Nat×Bool)):Option Bool:=
 match g with
 |none=>some true
 |some (t,b)=>match geQ e t with
  |some (.bool x)=>some (x==b)
  |some _=>some false
  |none=>none
theorem gw:qe=bJ:=by
 funext e g
 cases g with
 |none=>rfl
 |some p=>obtain⟨t,b⟩:=p;(simp only[qe,bJ,jk];rfl)
noncomputable def FE(h:Heap)(e:Env):List (Nat×Option (Option Nat))→Option (List Value)
 |[]=>some []
 |(t,none)::rs=>match geQ e t with
  |some v=>match FE h e rs with
   |some vs=>some (v::vs)
   |none=>none
  |none=>none
 |(t,some n)::rs=>match geQ e t with
  |some a=>match nP h n a with
   |some v=>match FE h e rs with
    |some vs=>some (v::vs)
    |none=>none
   |none=>none
  |none=>none
theorem kg:FE=cH:=by
 funext h e l
 induction l with
 |nil=>rfl
 |cons p l ih=>
  obtain⟨t,n⟩:=p
  cases n<;>(simp only[FE,cH,jk,ih];rfl)
noncomputable def FU(l:dP)(x y:Value):Option Bool:=
 match l with
 | .i q=>match x with
   | .int k a=>match y with
     | .int k' b=>bif kEq k q&&kEq k' q then some (iEq a b)else none
     |_=>none
   |_=>none
 |l=>iW l x y
theorem HA:FU=iW:=by
 funext l x y
 unfold FU
 split
 ·rename_i q
  split
  ·rename_i k a
   split
   ·rename_i k' b
    simp only[iW,wR,AL,cond_eq_ite,Bool.and_eq_true,decide_eq_true_eq]
    by_cases h1:k=q<;>by_cases h2:k'=q<;>simp[h1,h2]
   ·rename_i hy
    cases y<;>first|rfl|exact(hy _ _ rfl).elim
  ·rename_i hx
   cases x<;>first|rfl|exact(hx _ _ rfl).elim
 ·rfl
noncomputable def mL:List dP→List Value→List Value→Option Bool
 |[],[],[]=>some true
 |l::ls,x::xs,y::ys=>match FU l x y with
  |some true=>mL ls xs ys
  |some false=>match mL ls xs ys with
   |some _=>some false
   |none=>none
  |none=>none
 |_,_,_=>none
theorem aL:mL=bI:=by
 funext ls
 induction ls with
 |nil=>funext xs ys;cases xs<;>cases ys<;>rfl
 |cons l ls ih=>
  funext xs ys
  cases xs<;>cases ys<;>first|rfl|(simp only[mL,bI,HA,ih];rfl)
noncomputable def pq(ag:Bool)(ls:List dP)(k:Value):Bool:=
 match pI k==ag,mL ls (cellsOf k) (cellsOf k)with
 |true,some _=>true
 |_,_=>false
theorem aT:pq=j4:=by funext ag ls k;(simp only[pq,j4,aL];rfl)
noncomputable def Bt(ag:Bool)(ls:List dP)(k k':Value):Option Bool:=
 match pI k'==ag with
 |true=>mL ls (cellsOf k) (cellsOf k')
 |false=>none
theorem DE:Bt=qm:=by funext ag ls k k';(simp only[Bt,qm,aL];rfl)
noncomputable def vP(ag:Bool)(ls:List dP)(k:Value):Nat→List (Value×Value)→Option (Option (Nat×Value))
 |_,[]=>some none
 |i,(k',v)::es=>match Bt ag ls k k' with
  |some true=>some (some (i,v))
  |some false=>vP ag ls k (i+1) es
  |none=>none
theorem bh:vP=qG:=by
 funext ag ls k i es
 induction es generalizing i with
 |nil=>rfl
 |cons p es ih=>obtain⟨a,b⟩:=p;(simp only[vP,qG,DE,ih];rfl)
noncomputable def wA(x y:Value):Bool:=
 match x with
 | .int k a=>match y with
   | .int k' b=>kEq k k'&&iEq a b
   |_=>false
 |x=>lu x y
theorem vS:wA=lu:=by
 funext x y
 unfold wA
 split
 ·rename_i k a
  split
  ·rename_i k' b
   simp only[lu,wR,AL]
   by_cases h:k=k'<;>simp[h]
  ·rename_i hy
   cases y<;>first|rfl|exact(hy _ _ rfl).elim
 ·rfl
noncomputable def Fx(h:Heap)(n:Option Nat):Value→Option Value
 | .pointer (some ⟨b,o,none⟩)=>match lN h b with
   |some (.cells vs _ _)=>match n with
    |none=>cm vs o
    |some n=>let l:=bV n (bE o vs);bif Nat.beq (bR l) n then some (.agg l.toArray)else none
   |_=>none
 |_=>none
noncomputable def Bj(h:Heap)(base n:Nat)(v:Value):Value→Option Heap
 | .pointer (some ⟨b,o,none⟩)=>match lN h b with
   |some (.cells vs true sz)=>bif Nat.beq (bR (cellsOf v)) n&&Nat.ble (o+n) (bR vs)&&eM (cellsOf v)then some (wrQ h base b (.cells (cU vs o (cellsOf v)) true sz))else none
   |_=>none
 |_=>none
noncomputable def Bp(h:Heap)(e:Env)(dflt:Nat):Option Operand→Option Nat
 |none=>some dflt
 |some x=>match evQ h e x with
  |some v=>oe v
  |none=>none
noncomputable def wJ(h:Heap)(e:Env)(size:Nat)(a:Option Addr)(len cap:Nat)(lo hi mx:Option Operand):Option (Value×Heap):=
 match Bp h e 0 lo,Bp h e len hi with
 |some l,some u=>
  match mx with
  |some _=>match Bp h e 0 mx with
   |some m=>bif Nat.ble l u&&Nat.ble u m&&Nat.ble m (bif Nat.beq cap UNK then len else cap)&&Nat.blt m UNK then
    some (.slice (bif Nat.beq m l then a else match a with|some ⟨b,o,none⟩=>some ⟨b,o+l*size,none⟩|a=>a) (u-l) (m-l),h)
    else none
   |none=>none
  |none=>
   bif Nat.beq cap UNK then
    match a with
    |some ⟨b,o,none⟩=>match lN h b with
     |some (.cells vs _ sz)=>
      bif Nat.beq sz size&&Nat.ble l u&&(Nat.ble u len||Nat.ble (o+u*size) (bR vs))then
       bif Nat.blt l len||Nat.blt l u then some (.slice (some ⟨b,o+l*size,none⟩) (u-l) UNK,h)
       else bif Nat.beq l 0 then some (.slice (some ⟨b,o,none⟩) 0 UNK,h)
       else some (.slice (some ⟨h.next,0,none⟩) 0 UNK,h.push (.cells [] false size))
      else none
     |_=>none
    |_=>none
   else bif Nat.ble l u&&Nat.ble u cap then
    some (.slice (bif Nat.beq cap l then a else match a with|some ⟨b,o,none⟩=>some ⟨b,o+l*size,none⟩|a=>a) (u-l) (cap-l),h)
    else none
 |_,_=>none
noncomputable def JW(h:Heap)(size:Nat):Value→Option (List Value×Nat)
 | .slice none n _=>bif Nat.beq n 0 then some ([],0)else none
 | .slice (some ⟨b,o,none⟩) n _=>match lN h b with
   |some (.cells vs _ _)=>let l:=bV (n*size) (bE o vs);bif Nat.beq (bR l) (n*size)then some (l,n)else none
   |_=>none
 | .string s=>bif Nat.beq size 1 then some (s.data.toList.map fun b=> .int .u8 b.toNat,s.size)else none
 |_=>none
noncomputable def sN(h:Heap)(base size bytes:Nat)(s:Value)(new:List Value)(n:Nat):Option (Value×Heap):=
 match s with
 | .slice a len cap=>
   bif Nat.beq n 0 then(bif Nat.ble len cap then some (s,h)else none)else
   bif Nat.ble ((2*(len+n)+768)*bytes) 281474976710656 then
    match a with
    |none=>bif Nat.beq len 0&&Nat.beq cap 0 then some (.slice (some ⟨h.next,0,none⟩) n UNK,h.push (.cells new true size))else none
    |some ⟨b,o,none⟩=>match lN h b with
     |some (.cells vs own sz)=>
      bif Nat.beq cap UNK then
       bif own&&Nat.beq sz size then
        bif Nat.ble (o+(len+n)*size) (bR vs)&&eM new then
         some (.slice (some ⟨b,o,none⟩) (len+n) UNK,wrQ h base b (.cells (cU vs (o+len*size) new) true sz))
        else bif Nat.beq o 0&&Nat.beq (len*size) (bR vs)&&eM new then
         some (.slice (some ⟨h.next,0,none⟩) (len+n) UNK,(wrQ h base b .dead).push (.cells (dQ vs new) true size))
        else none
       else none
      else bif Nat.ble (len+n) cap then
       bif own&&Nat.ble (o+(len+n)*size) (bR vs)&&eM new then
        some (.slice (some ⟨b,o,none⟩) (len+n) cap,wrQ h base b (.cells (cU vs (o+len*size) new) true sz))
       else none
      else bif Nat.ble (o+len*size) (bR vs)then
       some (.slice (some ⟨h.next,0,none⟩) (len+n) UNK,h.push (.cells (dQ (bV (len*size) (bE o vs)) new) true size))
      else none
     |_=>none
    |_=>none
   else none
 |_=>none
theorem aV:Fx=nP:=by
 funext h n v
 unfold Fx nP
 simp only[bF,br,bk,bC,bh,aT,aL,bt,bK];rfl
theorem aY:Bj=pz:=by
 funext h base n v x
 unfold Bj pz
 simp only[bF,br,bk,bC,bh,aT,aL,bt,bK];rfl
theorem bP:Bp=bnd:=by
 funext h e d x
 unfold Bp bnd
 simp only[bF,br,bk,bC,bh,aT,aL,bt,bK];rfl
theorem aX:wJ=fQ:=by
 funext h e size a len cap lo hi mx
 unfold wJ fQ
 simp only[bF,br,bk,bC,bh,aT,aL,bt,bK,bP];rfl
theorem bU:JW=dF:=by
 funext h size v
 unfold JW dF
 simp only[bF,br,bk,bC,bh,aT,aL,bt,bK];rfl
theorem aQ:sN=iL:=by
 funext h base size bytes s new n
 unfold sN iL
 simp only[bF,br,bk,bC,bh,aT,aL,bt,bK];rfl
noncomputable def G9(h:Heap)(base:Nat)(e:Env)(x:Operand):Option cF:=cB (evQ h e x) fun v=>some (.val v h)
noncomputable def Bd(h:Heap)(base:Nat)(e:Env)(c:Operand)(a:Operand)(b:Operand):Option cF:=match evQ h e c with
 |some (.bool true)=>cB (evQ h e a) fun v=>some (.val v h)
 |some (.bool false)=>cB (evQ h e b) fun v=>some (.val v h)
 |_=>none
noncomputable def Hq(h:Heap)(base:Nat)(e:Env)(z:List Value):Option cF:=some (.val (.pointer (some ⟨h.next,0,none⟩)) (h.push (.cells z true 1)))
noncomputable def Im(h:Heap)(base:Nat)(e:Env)(x:Operand):Option cF:=cB (evQ h e x) fun v=>some (.val (.pointer (some ⟨h.next,0,none⟩)) (h.push (.cells (cellsOf v) true 1)))
noncomputable def wM(h:Heap)(base:Nat)(e:Env)(z:List Value)(ps:List (Nat×Nat×Operand)):Option cF:=match zv h e z ps with
 |some cs=>some (.val (.agg cs.toArray) h)
 |none=>none
noncomputable def uD(h:Heap)(base:Nat)(e:Env)(z:List Value)(n:Nat)(ps:List (Nat×Nat×Operand)):Option cF:=match zv h e (eN n z) ps with
 |some cs=>some (.val (.slice (some ⟨h.next,0,none⟩) n n) (h.push (.cells cs true (bR z))))
 |none=>none
noncomputable def AH(h:Heap)(base:Nat)(e:Env)(n:Option Nat)(a:Operand):Option cF:=cB (evQ h e a) fun a=>cB (Fx h n a) fun v=>some (.val v h)
noncomputable def xU(h:Heap)(base:Nat)(e:Env)(n:Nat)(a:Operand)(v:Operand):Option cF:=cB (evQ h e a) fun a=>cB (evQ h e v) fun v=>match Bj h base n v a with
 |some h'=>some (.val (.tuple #[]) h')
 |none=>none
noncomputable def um(h:Heap)(base:Nat)(e:Env)(x:Operand):Option cF:=cB (evQ h e x) fun v=>match v with
 | .pointer none| .nilIface| .nilFunc=>none
 | .func (.method _) _ _=>none
 |v=>some (.val v h)
noncomputable def Gb(h:Heap)(base:Nat)(e:Env):Dl→Operand→Operand→Option cF
 |(.num op),x,y=>cB (evQ h e x) fun x=>cB (evQ h e y) fun y=>cB (Lg op x y) fun v=>some (.val v h)
 |(.beq neq),x,y=>match evQ h e x,evQ h e y with
  |some (.bool a),some (.bool b)=>some (.val (.bool (bif neq then !(a==b)else a==b)) h)
  |_,_=>none
 |(.nil k neq),x,y=>cB (evQ h e x) fun x=>cB (evQ h e y) fun y=>match nW k x y with
  |some b=>some (.val (.bool (bif neq then !b else b)) h)
  |none=>none
 |(.agg neq ls),x,y=>cB (evQ h e x) fun x=>cB (evQ h e y) fun y=>match x,y with
  | .agg xs, .agg ys=>match mL ls xs.toList ys.toList with
    |some b=>some (.val (.bool (bif neq then !b else b)) h)
    |none=>none
  |_,_=>none
noncomputable def MU(h:Heap)(base:Nat)(e:Env)(op:UnOp)(x:Operand):Option cF:=cB (evQ h e x) fun x=>cB (qR op x) fun v=>some (.val v h)
noncomputable def Bv(h:Heap)(base:Nat)(e:Env)(c:Cv)(x:Operand):Option cF:=cB (evQ h e x) fun x=>fq (oV h c x)
noncomputable def rF(h:Heap)(base:Nat)(e:Env)(t:TypeId)(x:Operand):Option cF:=cB (evQ h e x) fun v=>some (.val (.iface t v) h)
noncomputable def tO(h:Heap)(base:Nat)(e:Env)(fn:Fn)(fs:List Operand)(cs:List Operand):Option cF:=match Ad h e fs,Ad h e cs with
 |some fs,some cs=>some (.val (.func fn fs.toArray cs.toArray) h)
 |_,_=>none
noncomputable def wj(h:Heap)(base:Nat)(e:Env):Option cF:=some (.val (.map (some h.next)) (h.push (.map [])))
noncomputable def qZ(h:Heap)(base:Nat)(e:Env)(z:List Value)(bytes:Nat)(l:Operand)(c:Operand):Option cF:=match evQ h e l,evQ h e c with
 |some l,some c=>match oe l,oe c with
  |some l,some c=>bif Nat.ble l c&&Nat.ble (bytes*c) 281474976710656&&Nat.blt c UNK then
   some (.val (.slice (some ⟨h.next,0,none⟩) l c) (h.push (.cells (eN c z) true (bR z))))
   else none
  |_,_=>none
 |_,_=>none
noncomputable def xw(h:Heap)(base:Nat)(e:Env):ASl→Operand→Option Operand→Option Operand→Option Operand→Option cF
 | .str,x,lo,hi,none=>match evQ h e x with
   |some (.string s)=>match Bp h e 0 lo,Bp h e s.size hi with
    |some l,some u=>bif Nat.ble l u&&Nat.ble u s.size then some (.val (.string (s.extract l u)) h)else none
    |_,_=>none
   |_=>none
 |(.sl size),x,lo,hi,mx=>match evQ h e x with
  |some (.slice a len cap)=>fq (wJ h e size a len cap lo hi mx)
  |_=>none
 |(.arr n size),x,lo,hi,mx=>match evQ h e x with
  |some (.pointer (some a))=>fq (wJ h e size (some a) n n lo hi mx)
  |_=>none
 | .str,_,_,_,(some _)=>none
noncomputable def xP(h:Heap)(base:Nat)(e:Env)(off:Nat)(x:Operand):Option cF:=match evQ h e x with
 |some (.pointer (some ⟨b,o,none⟩))=>some (.val (.pointer (some ⟨b,o+off,none⟩)) h)
 |_=>none
noncomputable def wP(h:Heap)(base:Nat)(e:Env)(off:Nat)(n:Option Nat)(x:Operand):Option cF:=match evQ h e x with
 |some (.agg cs)=>match n with
  |none=>cB (cm cs.toList off) fun v=>some (.val v h)
  |some n=>let l:=bV n (bE off cs.toList);bif Nat.beq (bR l) n then some (.val (.agg l.toArray) h)else none
 |_=>none
noncomputable def ta(h:Heap)(base:Nat)(e:Env)(len:Nat)(size:Nat)(x:Operand)(i:Operand):Option cF:=match evQ h e x,evQ h e i with
 |some (.pointer (some ⟨b,o,none⟩)),some (.int _ (.ofNat i))=>bif Nat.blt i len then some (.val (.pointer (some ⟨b,o+i*size,none⟩)) h)else none
 |_,_=>none
noncomputable def uF(h:Heap)(base:Nat)(e:Env)(size:Nat)(x:Operand)(i:Operand):Option cF:=match evQ h e x,evQ h e i with
 |some (.slice (some ⟨b,o,none⟩) len _),some (.int _ (.ofNat i))=>bif Nat.blt i len then some (.val (.pointer (some ⟨b,o+i*size,none⟩)) h)else none
 |_,_=>none
noncomputable def Bk(h:Heap)(base:Nat)(e:Env)(len:Nat)(size:Nat)(n:Option Nat)(x:Operand)(i:Operand):Option cF:=match evQ h e x,evQ h e i with
 |some (.agg cs),some (.int _ (.ofNat i))=>bif Nat.blt i len then
  match n with
  |none=>cB (cm cs.toList (i*size)) fun v=>some (.val v h)
  |some n=>let l:=bV n (bE (i*size) cs.toList);bif Nat.beq (bR l) n then some (.val (.agg l.toArray) h)else none
  else none
 |_,_=>none
noncomputable def AY(h:Heap)(base:Nat)(e:Env)(x:Operand)(i:Operand):Option cF:=match evQ h e x,evQ h e i with
 |some (.string s),some (.int _ (.ofNat i))=>match cm s.data.toList i with
  |some b=>some (.val (.int .u8 b.toNat) h)
  |none=>none
 |_,_=>none
noncomputable def ux(h:Heap)(base:Nat)(e:Env)(ag:Bool)(ls:List dP)(z:Value)(ok:Bool)(m:Operand)(k:Operand):Option cF:=match evQ h e m,evQ h e k with
 |some (.map none),some k=>bif pq ag ls k then some (.val (bif ok then .tuple #[z, .bool false]else z) h)else none
 |some (.map (some r)),some k=>match yp (lN h r)with
  |some es=>bif pq ag ls k then match vP ag ls k 0 es with
   |some (some (_,v))=>some (.val (bif ok then .tuple #[v, .bool true]else v) h)
   |some none=>some (.val (bif ok then .tuple #[z, .bool false]else z) h)
   |none=>none else none
  |none=>none
 |_,_=>none
noncomputable def xX(h:Heap)(base:Nat)(e:Env)(ag:Bool)(ls:List dP)(m:Operand)(k:Operand)(v:Operand):Option cF:=match evQ h e m,evQ h e k,evQ h e v with
 |some (.map (some r)),some k,some v=>match lN h r with
  |some (.map es)=>bif pq ag ls k then match vP ag ls k 0 es with
   |some (some (i,_))=>some (.val (.tuple #[]) (wrQ h base r (.map (qc es i (k,v)))))
   |some none=>some (.val (.tuple #[]) (wrQ h base r (.map (dQ es [(k,v)]))))
   |none=>none else none
  |_=>none
 |_,_,_=>none
noncomputable def rE(h:Heap)(base:Nat)(e:Env)(t:TypeId)(ok:Bool)(z:Value)(x:Operand):Option cF:=match evQ h e x with
 |some .nilIface=>bif ok then some (.val (.tuple #[z, .bool false]) h)else none
 |some (.iface t' v)=>if t'=t then some (.val (bif ok then .tuple #[v, .bool true]else v) h)
  else bif ok then some (.val (.tuple #[z, .bool false]) h)else none
 |_=>none
noncomputable def rD(h:Heap)(base:Nat)(e:Env)(t:Operand)(i:Nat):Option cF:=match evQ h e t with
 |some (.tuple vs)=>cB (cm vs.toList i) fun v=>some (.val v h)
 |_=>none
noncomputable def AT(h:Heap)(base:Nat)(e:Env)(f:Operand)(args:List Operand):Option cF:=match evQ h e f,Ad h e args with
 |some f,some args=>nr f args h
 |_,_=>none
noncomputable def tX(h:Heap)(base:Nat)(e:Env):Nat→Operand→Option cF
 |0,x=>match evQ h e x with
  |some (.string s)=>some (.val (.int .i64 s.size) h)
  |_=>none
 |1,x=>match evQ h e x with
  |some (.slice _ n _)=>some (.val (.int .i64 n) h)
  |_=>none
 |_,x=>match evQ h e x with
  |some (.map none)=>some (.val (.int .i64 0) h)
  |some (.map (some r))=>match yp (lN h r)with
   |some es=>some (.val (.int .i64 (bR es)) h)
   |none=>none
  |_=>none
noncomputable def ur(h:Heap)(base:Nat)(e:Env)(n:Nat):Option cF:=some (.val (.int .i64 n) h)
noncomputable def GL(h:Heap)(base:Nat)(e:Env)(x:Operand):Option cF:=match evQ h e x with
 |some (.slice _ _ c)=>bif Nat.beq c UNK then none else some (.val (.int .i64 c) h)
 |_=>none
noncomputable def uw(h:Heap)(base:Nat)(e:Env)(size:Nat)(bytes:Nat)(s:Operand)(x:Operand):Option cF:=match evQ h e s,evQ h e x with
 |some s,some x=>match JW h size x with
  |some (l,n)=>fq (sN h base size bytes s l n)
  |none=>none
 |_,_=>none
noncomputable def rA(h:Heap)(base:Nat)(e:Env)(z:List Value)(bytes:Nat)(s:Operand)(n:Operand):Option cF:=match evQ h e s,evQ h e n with
 |some s,some n=>match oe n with
  |some n=>bif Nat.blt n 9223372036854775808&&Nat.ble (n*bytes) 281474976710656 then fq (sN h base (bR z) bytes s (eN n z) n)else none
  |none=>none
 |_,_=>none
noncomputable def Ba(h:Heap)(base:Nat)(e:Env)(size:Nat)(d:Operand)(s:Operand):Option cF:=match evQ h e d,evQ h e s with
 |some (.slice a dl _),some s=>match JW h size s with
  |some (l,n)=>
   let m:=Nat.min n dl
   match a with
   |none=>some (.val (.int .i64 m) h)
   |some ⟨b,o,none⟩=>match lN h b with
    |some (.cells vs true sz)=>bif Nat.ble (o+m*size) (bR vs)&&eM (bV (m*size) l)then
     some (.val (.int .i64 m) (wrQ h base b (.cells (cU vs o (bV (m*size) l)) true sz)))
     else none
    |_=>none
   |_=>none
  |none=>none
 |_,_=>none
noncomputable def yc(h:Heap)(base:Nat)(e:Env)(z:List Value)(x:Operand):Option cF:=match evQ h e x with
 |some (.slice a n _)=>
  bif Nat.beq n 0 then some (.val (.tuple #[]) h)else
  match a with
  |none=>some (.val (.tuple #[]) h)
  |some ⟨b,o,none⟩=>match lN h b with
   |some (.cells vs true sz)=>bif Nat.ble (o+bR (eN n z)) (bR vs)&&eM (eN n z)then some (.val (.tuple #[]) (wrQ h base b (.cells (cU vs o (eN n z)) true sz)))else none
   |_=>none
  |_=>none
 |_=>none
noncomputable def uc(h:Heap)(base:Nat)(e:Env)(mx:Bool)(args:List Operand):Option cF:=match Ad h e args with
 |some (x::l)=>cB (mmA mx x l) fun v=>some (.val v h)
 |_=>none
noncomputable def tT(h:Heap)(base:Nat)(e:Env)(ag:Bool)(ls:List dP)(m:Operand)(k:Operand):Option cF:=match evQ h e m,evQ h e k with
 |some (.map (some r)),some k=>match lN h r with
  |some (.map es)=>bif pq ag ls k then match vP ag ls k 0 es with
   |some (some (i,_))=>some (.val (.tuple #[]) (wrQ h base r (.map (zX es i))))
   |some none=>some (.val (.tuple #[]) (wrQ h base r (.map es)))
   |none=>none else none
  |_=>none
 |some (.map none),some k=>bif pq ag ls k then some (.val (.tuple #[]) h)else none
 |_,_=>none
noncomputable def BE(h:Heap)(base:Nat)(e:Env)(f:Operand)(args:List Operand):Option cF:=match evQ h e f,Ad h e args with
 |some (.func (.func g) first cap),some args=>some (.jg (.func (.func g) first cap) args)
 |_,_=>none
noncomputable def rO(h:Heap)(base:Nat)(e:Env):Option cF:=some .recover
noncomputable def By(h:Heap)(base:Nat)(e:Env)(x:Operand):Option cF:=cB (evQ h e x) fun v=>match v with
 | .iface _ _=>some (.panic v h)
 |_=>none
noncomputable def wF(h:Heap)(base:Nat)(e:Env)(x:Operand):Option cF:=match evQ h e x with
 |some (.string s)=>some (.val (.pointer (some ⟨h.next,0,none⟩)) (h.push (.j0 s 0)))
 |_=>none
noncomputable def BB(h:Heap)(base:Nat)(e:Env):Operand→Bool→Option cF
 |x,true=>match evQ h e x with
  |some (.pointer (some ⟨r,0,none⟩))=>match lN h r with
   |some (.j0 s pos)=>bif Nat.blt pos s.size then
    let d:=Utf8.decode s pos
    some (.val (.tuple #[.bool true, .int .i64 pos, .int .i32 d.1]) (wrQ h base r (.j0 s (pos+d.2))))
    else some (.val (.tuple #[.bool false]) h)
   |_=>none
  |_=>none
 |_,false=>none
noncomputable def uA(h:Heap)(base:Nat)(e:Env)(_:Operand):Option cF:=none
noncomputable def wO(h:Heap)(base:Nat)(e:Env)(_:Operand):Option cF:=none
noncomputable def ND(x0:Operand)(h:Heap)(base:Nat)(e:Env):Option cF:=G9 h base e x0
noncomputable def Lu(x0:Operand)(x1:Operand)(x2:Operand)(h:Heap)(base:Nat)(e:Env):Option cF:=Bd h base e x0 x1 x2
noncomputable def Om(x0:List Value)(h:Heap)(base:Nat)(e:Env):Option cF:=Hq h base e x0
noncomputable def N5(x0:Operand)(h:Heap)(base:Nat)(e:Env):Option cF:=Im h base e x0
noncomputable def I9(x0:List Value)(x1:List (Nat×Nat×Operand))(h:Heap)(base:Nat)(e:Env):Option cF:=wM h base e x0 x1
noncomputable def Ib(x0:List Value)(x1:Nat)(x2:List (Nat×Nat×Operand))(h:Heap)(base:Nat)(e:Env):Option cF:=uD h base e x0 x1 x2
noncomputable def MZ(x0:Option Nat)(x1:Operand)(h:Heap)(base:Nat)(e:Env):Option cF:=AH h base e x0 x1
noncomputable def Ju(x0:Nat)(x1:Operand)(x2:Operand)(h:Heap)(base:Nat)(e:Env):Option cF:=xU h base e x0 x1 x2
noncomputable def EW(x0:Operand)(h:Heap)(base:Nat)(e:Env):Option cF:=um h base e x0
noncomputable def OO(x0:Dl)(x1:Operand)(x2:Operand)(h:Heap)(base:Nat)(e:Env):Option cF:=Gb h base e x0 x1 x2
noncomputable def PZ(x0:UnOp)(x1:Operand)(h:Heap)(base:Nat)(e:Env):Option cF:=MU h base e x0 x1
noncomputable def Me(x0:Cv)(x1:Operand)(h:Heap)(base:Nat)(e:Env):Option cF:=Bv h base e x0 x1
noncomputable def DA(x0:TypeId)(x1:Operand)(h:Heap)(base:Nat)(e:Env):Option cF:=rF h base e x0 x1
noncomputable def Em(x0:Fn)(x1:List Operand)(x2:List Operand)(h:Heap)(base:Nat)(e:Env):Option cF:=tO h base e x0 x1 x2
noncomputable def I4(h:Heap)(base:Nat)(e:Env):Option cF:=wj h base e
noncomputable def Ds(x0:List Value)(x1:Nat)(x2:Operand)(x3:Operand)(h:Heap)(base:Nat)(e:Env):Option cF:=qZ h base e x0 x1 x2 x3
noncomputable def Ja(x0:ASl)(x1:Operand)(x2:Option Operand)(x3:Option Operand)(x4:Option Operand)(h:Heap)(base:Nat)(e:Env):Option cF:=xw h base e x0 x1 x2 x3 x4
noncomputable def Jm(x0:Nat)(x1:Operand)(h:Heap)(base:Nat)(e:Env):Option cF:=xP h base e x0 x1
noncomputable def Jj(x0:Nat)(x1:Option Nat)(x2:Operand)(h:Heap)(base:Nat)(e:Env):Option cF:=wP h base e x0 x1 x2
noncomputable def FA(x0:Nat)(x1:Nat)(x2:Operand)(x3:Operand)(h:Heap)(base:Nat)(e:Env):Option cF:=ta h base e x0 x1 x2 x3
noncomputable def EG(x0:Nat)(x1:Operand)(x2:Operand)(h:Heap)(base:Nat)(e:Env):Option cF:=uF h base e x0 x1 x2
noncomputable def Mv(x0:Nat)(x1:Nat)(x2:Option Nat)(x3:Operand)(x4:Operand)(h:Heap)(base:Nat)(e:Env):Option cF:=Bk h base e x0 x1 x2 x3 x4
noncomputable def MT(x0:Operand)(x1:Operand)(h:Heap)(base:Nat)(e:Env):Option cF:=AY h base e x0 x1
noncomputable def Ek(x0:Bool)(x1:List dP)(x2:Value)(x3:Bool)(x4:Operand)(x5:Operand)(h:Heap)(base:Nat)(e:Env):Option cF:=ux h base e x0 x1 x2 x3 x4 x5
noncomputable def Jf(x0:Bool)(x1:List dP)(x2:Operand)(x3:Operand)(x4:Operand)(h:Heap)(base:Nat)(e:Env):Option cF:=xX h base e x0 x1 x2 x3 x4
noncomputable def DD(x0:TypeId)(x1:Bool)(x2:Value)(x3:Operand)(h:Heap)(base:Nat)(e:Env):Option cF:=rE h base e x0 x1 x2 x3
noncomputable def Dc(x0:Operand)(x1:Nat)(h:Heap)(base:Nat)(e:Env):Option cF:=rD h base e x0 x1
noncomputable def Ln(x0:Operand)(x1:List Operand)(h:Heap)(base:Nat)(e:Env):Option cF:=AT h base e x0 x1
noncomputable def OK(x0:Nat)(x1:Operand)(h:Heap)(base:Nat)(e:Env):Option cF:=tX h base e x0 x1
noncomputable def FF(x0:Nat)(h:Heap)(base:Nat)(e:Env):Option cF:=ur h base e x0
noncomputable def NQ(x0:Operand)(h:Heap)(base:Nat)(e:Env):Option cF:=GL h base e x0
noncomputable def Eg(x0:Nat)(x1:Nat)(x2:Operand)(x3:Operand)(h:Heap)(base:Nat)(e:Env):Option cF:=uw h base e x0 x1 x2 x3
noncomputable def DP(x0:List Value)(x1:Nat)(x2:Operand)(x3:Operand)(h:Heap)(base:Nat)(e:Env):Option cF:=rA h base e x0 x1 x2 x3
noncomputable def MN(x0:Nat)(x1:Operand)(x2:Operand)(h:Heap)(base:Nat)(e:Env):Option cF:=Ba h base e x0 x1 x2
noncomputable def I3(x0:List Value)(x1:Operand)(h:Heap)(base:Nat)(e:Env):Option cF:=yc h base e x0 x1
noncomputable def Fc(x0:Bool)(x1:List Operand)(h:Heap)(base:Nat)(e:Env):Option cF:=uc h base e x0 x1
noncomputable def Fp(x0:Bool)(x1:List dP)(x2:Operand)(x3:Operand)(h:Heap)(base:Nat)(e:Env):Option cF:=tT h base e x0 x1 x2 x3
noncomputable def LH(x0:Operand)(x1:List Operand)(h:Heap)(base:Nat)(e:Env):Option cF:=BE h base e x0 x1
noncomputable def DH(h:Heap)(base:Nat)(e:Env):Option cF:=rO h base e
noncomputable def M1(x0:Operand)(h:Heap)(base:Nat)(e:Env):Option cF:=By h base e x0
noncomputable def IW(x0:Operand)(h:Heap)(base:Nat)(e:Env):Option cF:=wF h base e x0
noncomputable def K5(x0:Operand)(x1:Bool)(h:Heap)(base:Nat)(e:Env):Option cF:=BB h base e x0 x1
noncomputable def Fz(x0:Operand)(h:Heap)(base:Nat)(e:Env):Option cF:=uA h base e x0
noncomputable def Jh(x0:Operand)(h:Heap)(base:Nat)(e:Env):Option cF:=wO h base e x0
noncomputable def Pr(o:AOp):Heap→Nat→Env→Option cF:=AOp.rec (motive:=fun _=>Heap→Nat→Env→Option cF) ND Lu Om N5 I9 Ib MZ Ju EW OO PZ Me DA Em I4 Ds Ja Jm Jj FA EG Mv MT Ek Jf DD Dc Ln OK FF NQ Eg DP MN I3 Fc Fp LH DH M1 IW K5 Fz Jh o
noncomputable def AB(h:Heap)(base:Nat)(e:Env)(o:AOp):Option cF:=Pr o h base e
theorem jD:AB=aop:=by
 funext h base e o
 cases o
 case mov x0=>show G9 h base e x0=_;first|rfl|(unfold G9;simp only[bF,br,bk,bC,bh,aT,aL,bt,bK,bP,aV,aY,aX,bU,aQ];rfl)
 case pick x0 x1 x2=>show Bd h base e x0 x1 x2=_;first|rfl|(unfold Bd;simp only[bF,br,bk,bC,bh,aT,aL,bt,bK,bP,aV,aY,aX,bU,aQ];rfl)
 case new x0=>show Hq h base e x0=_;first|rfl|(unfold Hq;simp only[bF,br,bk,bC,bh,aT,aL,bt,bK,bP,aV,aY,aX,bU,aQ];rfl)
 case box x0=>show Im h base e x0=_;first|rfl|(unfold Im;simp only[bF,br,bk,bC,bh,aT,aL,bt,bK,bP,aV,aY,aX,bU,aQ];rfl)
 case build x0 x1=>show wM h base e x0 x1=_;first|rfl|(unfold wM;simp only[bF,br,bk,bC,bh,aT,aL,bt,bK,bP,aV,aY,aX,bU,aQ];rfl)
 case cT x0 x1 x2=>show uD h base e x0 x1 x2=_;first|rfl|(unfold uD;simp only[bF,br,bk,bC,bh,aT,aL,bt,bK,bP,aV,aY,aX,bU,aQ];rfl)
 case load x0 x1=>show AH h base e x0 x1=_;first|rfl|(unfold AH;simp only[bF,br,bk,bC,bh,aT,aL,bt,bK,bP,aV,aY,aX,bU,aQ];rfl)
 case store x0 x1 x2=>show xU h base e x0 x1 x2=_;first|rfl|(unfold xU;simp only[bF,br,bk,bC,bh,aT,aL,bt,bK,bP,aV,aY,aX,bU,aQ];rfl)
 case bX x0=>show um h base e x0=_;first|rfl|(unfold um;simp only[bF,br,bk,bC,bh,aT,aL,bt,bK,bP,aV,aY,aX,bU,aQ];rfl)
 case un x0 x1=>show MU h base e x0 x1=_;first|rfl|(unfold MU;simp only[bF,br,bk,bC,bh,aT,aL,bt,bK,bP,aV,aY,aX,bU,aQ];rfl)
 case conv x0 x1=>show Bv h base e x0 x1=_;first|rfl|(unfold Bv;simp only[bF,br,bk,bC,bh,aT,aL,bt,bK,bP,aV,aY,aX,bU,aQ];rfl)
 case ir x0 x1=>show rF h base e x0 x1=_;first|rfl|(unfold rF;simp only[bF,br,bk,bC,bh,aT,aL,bt,bK,bP,aV,aY,aX,bU,aQ];rfl)
 case dZ x0 x1 x2=>show tO h base e x0 x1 x2=_;first|rfl|(unfold tO;simp only[bF,br,bk,bC,bh,aT,aL,bt,bK,bP,aV,aY,aX,bU,aQ];rfl)
 case mkMap=>show wj h base e=_;first|rfl|(unfold wj;simp only[bF,br,bk,bC,bh,aT,aL,bt,bK,bP,aV,aY,aX,bU,aQ];rfl)
 case mkSlice x0 x1 x2 x3=>show qZ h base e x0 x1 x2 x3=_;first|rfl|(unfold qZ;simp only[bF,br,bk,bC,bh,aT,aL,bt,bK,bP,aV,aY,aX,bU,aQ];rfl)
 case dg x0 x1=>show xP h base e x0 x1=_;first|rfl|(unfold xP;simp only[bF,br,bk,bC,bh,aT,aL,bt,bK,bP,aV,aY,aX,bU,aQ];rfl)
 case field x0 x1 x2=>show wP h base e x0 x1 x2=_;first|rfl|(unfold wP;simp only[bF,br,bk,bC,bh,aT,aL,bt,bK,bP,aV,aY,aX,bU,aQ];rfl)
 case cD x0 x1 x2 x3=>show ta h base e x0 x1 x2 x3=_;first|rfl|(unfold ta;simp only[bF,br,bk,bC,bh,aT,aL,bt,bK,bP,aV,aY,aX,bU,aQ];rfl)
 case aO x0 x1 x2=>show uF h base e x0 x1 x2=_;first|rfl|(unfold uF;simp only[bF,br,bk,bC,bh,aT,aL,bt,bK,bP,aV,aY,aX,bU,aQ];rfl)
 case rM x0 x1 x2 x3 x4=>show Bk h base e x0 x1 x2 x3 x4=_;first|rfl|(unfold Bk;simp only[bF,br,bk,bC,bh,aT,aL,bt,bK,bP,aV,aY,aX,bU,aQ];rfl)
 case iS x0 x1=>show AY h base e x0 x1=_;first|rfl|(unfold AY;simp only[bF,br,bk,bC,bh,aT,aL,bt,bK,bP,aV,aY,aX,bU,aQ];rfl)
 case lookup x0 x1 x2 x3 x4 x5=>show ux h base e x0 x1 x2 x3 x4 x5=_;first|rfl|(unfold ux;simp only[bF,br,bk,bC,bh,aT,aL,bt,bK,bP,aV,aY,aX,bU,aQ];rfl)
 case nE x0 x1 x2 x3 x4=>show xX h base e x0 x1 x2 x3 x4=_;first|rfl|(unfold xX;simp only[bF,br,bk,bC,bh,aT,aL,bt,bK,bP,aV,aY,aX,bU,aQ];rfl)
 case jH x0 x1 x2 x3=>show rE h base e x0 x1 x2 x3=_;first|rfl|(unfold rE;simp only[bF,br,bk,bC,bh,aT,aL,bt,bK,bP,aV,aY,aX,bU,aQ];rfl)
 case extract x0 x1=>show rD h base e x0 x1=_;first|rfl|(unfold rD;simp only[bF,br,bk,bC,bh,aT,aL,bt,bK,bP,aV,aY,aX,bU,aQ];rfl)
 case call x0 x1=>show AT h base e x0 x1=_;first|rfl|(unfold AT;simp only[bF,br,bk,bC,bh,aT,aL,bt,bK,bP,aV,aY,aX,bU,aQ];rfl)
 case jv x0=>show ur h base e x0=_;first|rfl|(unfold ur;simp only[bF,br,bk,bC,bh,aT,aL,bt,bK,bP,aV,aY,aX,bU,aQ];rfl)
 case cap x0=>show GL h base e x0=_;first|rfl|(unfold GL;simp only[bF,br,bk,bC,bh,aT,aL,bt,bK,bP,aV,aY,aX,bU,aQ];rfl)
 case append x0 x1 x2 x3=>show uw h base e x0 x1 x2 x3=_;first|rfl|(unfold uw;simp only[bF,br,bk,bC,bh,aT,aL,bt,bK,bP,aV,aY,aX,bU,aQ];rfl)
 case jG x0 x1 x2 x3=>show rA h base e x0 x1 x2 x3=_;first|rfl|(unfold rA;simp only[bF,br,bk,bC,bh,aT,aL,bt,bK,bP,aV,aY,aX,bU,aQ];rfl)
 case copy x0 x1 x2=>show Ba h base e x0 x1 x2=_;first|rfl|(unfold Ba;simp only[bF,br,bk,bC,bh,aT,aL,bt,bK,bP,aV,aY,aX,bU,aQ];rfl)
 case clear x0 x1=>show yc h base e x0 x1=_;first|rfl|(unfold yc;simp only[bF,br,bk,bC,bh,aT,aL,bt,bK,bP,aV,aY,aX,bU,aQ];rfl)
 case dO x0 x1=>show uc h base e x0 x1=_;first|rfl|(unfold uc;simp only[bF,br,bk,bC,bh,aT,aL,bt,bK,bP,aV,aY,aX,bU,aQ];rfl)
 case delete x0 x1 x2 x3=>show tT h base e x0 x1 x2 x3=_;first|rfl|(unfold tT;simp only[bF,br,bk,bC,bh,aT,aL,bt,bK,bP,aV,aY,aX,bU,aQ];rfl)
 case jg x0 x1=>show BE h base e x0 x1=_;first|rfl|(unfold BE;simp only[bF,br,bk,bC,bh,aT,aL,bt,bK,bP,aV,aY,aX,bU,aQ];rfl)
 case recover=>show rO h base e=_;first|rfl|(unfold rO;simp only[bF,br,bk,bC,bh,aT,aL,bt,bK,bP,aV,aY,aX,bU,aQ];rfl)
 case rP x0=>show By h base e x0=_;first|rfl|(unfold By;simp only[bF,br,bk,bC,bh,aT,aL,bt,bK,bP,aV,aY,aX,bU,aQ];rfl)
 case range x0=>show wF h base e x0=_;first|rfl|(unfold wF;simp only[bF,br,bk,bC,bh,aT,aL,bt,bK,bP,aV,aY,aX,bU,aQ];rfl)
 case lP x0=>show uA h base e x0=_;first|rfl|(unfold uA;simp only[bF,br,bk,bC,bh,aT,aL,bt,bK,bP,aV,aY,aX,bU,aQ];rfl)
 case entry x0=>show wO h base e x0=_;first|rfl|(unfold wO;simp only[bF,br,bk,bC,bh,aT,aL,bt,bK,bP,aV,aY,aX,bU,aQ];rfl)
 case bin op x y=>show Gb h base e op x y=_;cases op<;>(simp only[Gb,aop,bF,br,bk,bC,bh,aT,aL,bt,bK,bP,aV,aY,aX,bU,aQ];first|done|rfl)
 case slice k x lo hi mx=>show xw h base e k x lo hi mx=_;cases k<;>cases mx<;>(simp only[xw,aop,bF,br,bk,bC,bh,aT,aL,bt,bK,bP,aV,aY,aX,bU,aQ];first|done|rfl)
 case len k x=>
  match k with
  |0=>show tX h base e 0 x=_;simp only[tX,aop,bF,br,bk,bC,bh,aT,aL,bt,bK,bP,aV,aY,aX,bU,aQ];first|done|rfl
  |1=>show tX h base e 1 x=_;simp only[tX,aop,bF,br,bk,bC,bh,aT,aL,bt,bK,bP,aV,aY,aX,bU,aQ];first|done|rfl
  |k+2=>show tX h base e (k+2) x=_;simp only[tX,aop,bF,br,bk,bC,bh,aT,aL,bt,bK,bP,aV,aY,aX,bU,aQ];first|done|rfl
 case next x s=>show BB h base e x s=_;cases s<;>(simp only[BB,aop,bF,br,bk,bC,bh,aT,aL,bt,bK,bP,aV,aY,aX,bU,aQ];first|done|rfl)
def Nt(x0:Operand):List Operand:=cI (.mov x0)
def L6(x0:Operand)(x1:Operand)(x2:Operand):List Operand:=cI (.pick x0 x1 x2)
def OH(x0:List Value):List Operand:=cI (.new x0)
def NA(x0:Operand):List Operand:=cI (.box x0)
def ID(x0:List Value)(x1:List (Nat×Nat×Operand)):List Operand:=cI (.build x0 x1)
def EI(x0:List Value)(x1:Nat)(x2:List (Nat×Nat×Operand)):List Operand:=cI (.cT x0 x1 x2)
def M4(x0:Option Nat)(x1:Operand):List Operand:=cI (.load x0 x1)
def IY(x0:Nat)(x1:Operand)(x2:Operand):List Operand:=cI (.store x0 x1 x2)
def HZ(x0:Operand):List Operand:=cI (.bX x0)
def N3(x0:Dl)(x1:Operand)(x2:Operand):List Operand:=cI (.bin x0 x1 x2)
def P6(x0:UnOp)(x1:Operand):List Operand:=cI (.un x0 x1)
def MK(x0:Cv)(x1:Operand):List Operand:=cI (.conv x0 x1)
def CL(x0:TypeId)(x1:Operand):List Operand:=cI (.ir x0 x1)
def HU(x0:Fn)(x1:List Operand)(x2:List Operand):List Operand:=cI (.dZ x0 x1 x2)
def Je:List Operand:=cI (.mkMap)
def CY(x0:List Value)(x1:Nat)(x2:Operand)(x3:Operand):List Operand:=cI (.mkSlice x0 x1 x2 x3)
def Jb(x0:ASl)(x1:Operand)(x2:Option Operand)(x3:Option Operand)(x4:Option Operand):List Operand:=cI (.slice x0 x1 x2 x3 x4)
def IG(x0:Nat)(x1:Operand):List Operand:=cI (.dg x0 x1)
def IC(x0:Nat)(x1:Option Nat)(x2:Operand):List Operand:=cI (.field x0 x1 x2)
def GN(x0:Nat)(x1:Nat)(x2:Operand)(x3:Operand):List Operand:=cI (.cD x0 x1 x2 x3)
def HE(x0:Nat)(x1:Operand)(x2:Operand):List Operand:=cI (.aO x0 x1 x2)
def KY(x0:Nat)(x1:Nat)(x2:Option Nat)(x3:Operand)(x4:Operand):List Operand:=cI (.rM x0 x1 x2 x3 x4)
def LU(x0:Operand)(x1:Operand):List Operand:=cI (.iS x0 x1)
def HM(x0:Bool)(x1:List dP)(x2:Value)(x3:Bool)(x4:Operand)(x5:Operand):List Operand:=cI (.lookup x0 x1 x2 x3 x4 x5)
def J3(x0:Bool)(x1:List dP)(x2:Operand)(x3:Operand)(x4:Operand):List Operand:=cI (.nE x0 x1 x2 x3 x4)
def Dq(x0:TypeId)(x1:Bool)(x2:Value)(x3:Operand):List Operand:=cI (.jH x0 x1 x2 x3)
def DK(x0:Operand)(x1:Nat):List Operand:=cI (.extract x0 x1)
def L9(x0:Operand)(x1:List Operand):List Operand:=cI (.call x0 x1)
def OS(x0:Nat)(x1:Operand):List Operand:=cI (.len x0 x1)
def Fg(x0:Nat):List Operand:=cI (.jv x0)
def OU(x0:Operand):List Operand:=cI (.cap x0)
def Gi(x0:Nat)(x1:Nat)(x2:Operand)(x3:Operand):List Operand:=cI (.append x0 x1 x2 x3)
def DZ(x0:List Value)(x1:Nat)(x2:Operand)(x3:Operand):List Operand:=cI (.jG x0 x1 x2 x3)
def Le(x0:Nat)(x1:Operand)(x2:Operand):List Operand:=cI (.copy x0 x1 x2)
def Kj(x0:List Value)(x1:Operand):List Operand:=cI (.clear x0 x1)
def Fa(x0:Bool)(x1:List Operand):List Operand:=cI (.dO x0 x1)
def Fs(x0:Bool)(x1:List dP)(x2:Operand)(x3:Operand):List Operand:=cI (.delete x0 x1 x2 x3)
def Ma(x0:Operand)(x1:List Operand):List Operand:=cI (.jg x0 x1)
def DW:List Operand:=cI (.recover)
def Mc(x0:Operand):List Operand:=cI (.rP x0)
def Ka(x0:Operand):List Operand:=cI (.range x0)
def LF(x0:Operand)(x1:Bool):List Operand:=cI (.next x0 x1)
def FQ(x0:Operand):List Operand:=cI (.lP x0)
def Ip(x0:Operand):List Operand:=cI (.entry x0)
noncomputable def xu(o:AOp):List Operand:=AOp.rec (motive:=fun _=>List Operand) Nt L6 OH NA ID EI M4 IY HZ N3 P6 MK CL HU Je CY Jb IG IC GN HE KY LU HM J3 Dq DK L9 OS Fg OU Gi DZ Le Kj Fa Fs Ma DW Mc Ka LF FQ Ip o
theorem Az:xu=cI:=by funext o;cases o<;>rfl
def N4(x0:Operand):Bool:=cu (.mov x0)
def Lb(x0:Operand)(x1:Operand)(x2:Operand):Bool:=cu (.pick x0 x1 x2)
def N7(x0:List Value):Bool:=cu (.new x0)
def Nj(x0:Operand):Bool:=cu (.box x0)
def JU(x0:List Value)(x1:List (Nat×Nat×Operand)):Bool:=cu (.build x0 x1)
def Hp(x0:List Value)(x1:Nat)(x2:List (Nat×Nat×Operand)):Bool:=cu (.cT x0 x1 x2)
def KQ(x0:Option Nat)(x1:Operand):Bool:=cu (.load x0 x1)
def J2(x0:Nat)(x1:Operand)(x2:Operand):Bool:=cu (.store x0 x1 x2)
def Hj(x0:Operand):Bool:=cu (.bX x0)
def NZ(x0:Dl)(x1:Operand)(x2:Operand):Bool:=cu (.bin x0 x1 x2)
def O7(x0:UnOp)(x1:Operand):Bool:=cu (.un x0 x1)
def K0(x0:Cv)(x1:Operand):Bool:=cu (.conv x0 x1)
def DM(x0:TypeId)(x1:Operand):Bool:=cu (.ir x0 x1)
def GI(x0:Fn)(x1:List Operand)(x2:List Operand):Bool:=cu (.dZ x0 x1 x2)
def IP:Bool:=cu (.mkMap)
def CB(x0:List Value)(x1:Nat)(x2:Operand)(x3:Operand):Bool:=cu (.mkSlice x0 x1 x2 x3)
def JP(x0:ASl)(x1:Operand)(x2:Option Operand)(x3:Option Operand)(x4:Option Operand):Bool:=cu (.slice x0 x1 x2 x3 x4)
def JD(x0:Nat)(x1:Operand):Bool:=cu (.dg x0 x1)
def JF(x0:Nat)(x1:Option Nat)(x2:Operand):Bool:=cu (.field x0 x1 x2)
def EH(x0:Nat)(x1:Nat)(x2:Operand)(x3:Operand):Bool:=cu (.cD x0 x1 x2 x3)
def Fb(x0:Nat)(x1:Operand)(x2:Operand):Bool:=cu (.aO x0 x1 x2)
def Mz(x0:Nat)(x1:Nat)(x2:Option Nat)(x3:Operand)(x4:Operand):Bool:=cu (.rM x0 x1 x2 x3 x4)
def Ls(x0:Operand)(x1:Operand):Bool:=cu (.iS x0 x1)
def Ik(x0:Bool)(x1:List dP)(x2:Value)(x3:Bool)(x4:Operand)(x5:Operand):Bool:=cu (.lookup x0 x1 x2 x3 x4 x5)
def IN(x0:Bool)(x1:List dP)(x2:Operand)(x3:Operand)(x4:Operand):Bool:=cu (.nE x0 x1 x2 x3 x4)
def Da(x0:TypeId)(x1:Bool)(x2:Value)(x3:Operand):Bool:=cu (.jH x0 x1 x2 x3)
def DU(x0:Operand)(x1:Nat):Bool:=cu (.extract x0 x1)
def LS(x0:Operand)(x1:List Operand):Bool:=cu (.call x0 x1)
def Nx(x0:Nat)(x1:Operand):Bool:=cu (.len x0 x1)
def Fu(x0:Nat):Bool:=cu (.jv x0)
def NG(x0:Operand):Bool:=cu (.cap x0)
def GD(x0:Nat)(x1:Nat)(x2:Operand)(x3:Operand):Bool:=cu (.append x0 x1 x2 x3)
def DC(x0:List Value)(x1:Nat)(x2:Operand)(x3:Operand):Bool:=cu (.jG x0 x1 x2 x3)
def MD(x0:Nat)(x1:Operand)(x2:Operand):Bool:=cu (.copy x0 x1 x2)
def II(x0:List Value)(x1:Operand):Bool:=cu (.clear x0 x1)
def Gg(x0:Bool)(x1:List Operand):Bool:=cu (.dO x0 x1)
def Ig(x0:Bool)(x1:List dP)(x2:Operand)(x3:Operand):Bool:=cu (.delete x0 x1 x2 x3)
def Lr(x0:Operand)(x1:List Operand):Bool:=cu (.jg x0 x1)
def Dh:Bool:=cu (.recover)
def Mp(x0:Operand):Bool:=cu (.rP x0)
def Jp(x0:Operand):Bool:=cu (.range x0)
def MF(x0:Operand)(x1:Bool):Bool:=cu (.next x0 x1)
def HY(x0:Operand):Bool:=cu (.lP x0)
def J4(x0:Operand):Bool:=cu (.entry x0)
noncomputable def B7(o:AOp):Bool:=AOp.rec (motive:=fun _=>Bool) N4 Lb N7 Nj JU Hp KQ J2 Hj NZ O7 K0 DM GI IP CB JP JD JF EH Fb Mz Ls Ik IN Da DU LS Nx Fu NG GD DC MD II Gg Ig Lr Dh Mp Jp MF HY J4 o
theorem Ax:B7=cu:=by funext o;cases o<;>rfl
def NI(x0:Operand):Bool:=dw (.mov x0)
def Mm(x0:Operand)(x1:Operand)(x2:Operand):Bool:=dw (.pick x0 x1 x2)
def Nl(x0:List Value):Bool:=dw (.new x0)
def NR(x0:Operand):Bool:=dw (.box x0)
def J7(x0:List Value)(x1:List (Nat×Nat×Operand)):Bool:=dw (.build x0 x1)
def GR(x0:List Value)(x1:Nat)(x2:List (Nat×Nat×Operand)):Bool:=dw (.cT x0 x1 x2)
def MI(x0:Option Nat)(x1:Operand):Bool:=dw (.load x0 x1)
def J6(x0:Nat)(x1:Operand)(x2:Operand):Bool:=dw (.store x0 x1 x2)
def H9(x0:Operand):Bool:=dw (.bX x0)
def Og(x0:Dl)(x1:Operand)(x2:Operand):Bool:=dw (.bin x0 x1 x2)
def PT(x0:UnOp)(x1:Operand):Bool:=dw (.un x0 x1)
def Lm(x0:Cv)(x1:Operand):Bool:=dw (.conv x0 x1)
def CG(x0:TypeId)(x1:Operand):Bool:=dw (.ir x0 x1)
def Ge(x0:Fn)(x1:List Operand)(x2:List Operand):Bool:=dw (.dZ x0 x1 x2)
def IL:Bool:=dw (.mkMap)
def CU(x0:List Value)(x1:Nat)(x2:Operand)(x3:Operand):Bool:=dw (.mkSlice x0 x1 x2 x3)
def JJ(x0:ASl)(x1:Operand)(x2:Option Operand)(x3:Option Operand)(x4:Option Operand):Bool:=dw (.slice x0 x1 x2 x3 x4)
def It(x0:Nat)(x1:Operand):Bool:=dw (.dg x0 x1)
def Jv(x0:Nat)(x1:Option Nat)(x2:Operand):Bool:=dw (.field x0 x1 x2)
def Ga(x0:Nat)(x1:Nat)(x2:Operand)(x3:Operand):Bool:=dw (.cD x0 x1 x2 x3)
def ET(x0:Nat)(x1:Operand)(x2:Operand):Bool:=dw (.aO x0 x1 x2)
def K8(x0:Nat)(x1:Nat)(x2:Option Nat)(x3:Operand)(x4:Operand):Bool:=dw (.rM x0 x1 x2 x3 x4)
def Mt(x0:Operand)(x1:Operand):Bool:=dw (.iS x0 x1)
def E8(x0:Bool)(x1:List dP)(x2:Value)(x3:Bool)(x4:Operand)(x5:Operand):Bool:=dw (.lookup x0 x1 x2 x3 x4 x5)
def Jt(x0:Bool)(x1:List dP)(x2:Operand)(x3:Operand)(x4:Operand):Bool:=dw (.nE x0 x1 x2 x3 x4)
def Di(x0:TypeId)(x1:Bool)(x2:Value)(x3:Operand):Bool:=dw (.jH x0 x1 x2 x3)
def Dg(x0:Operand)(x1:Nat):Bool:=dw (.extract x0 x1)
def Lp(x0:Operand)(x1:List Operand):Bool:=dw (.call x0 x1)
def Ox(x0:Nat)(x1:Operand):Bool:=dw (.len x0 x1)
def HX(x0:Nat):Bool:=dw (.jv x0)
def Nh(x0:Operand):Bool:=dw (.cap x0)
def Gc(x0:Nat)(x1:Nat)(x2:Operand)(x3:Operand):Bool:=dw (.append x0 x1 x2 x3)
def C6(x0:List Value)(x1:Nat)(x2:Operand)(x3:Operand):Bool:=dw (.jG x0 x1 x2 x3)
def My(x0:Nat)(x1:Operand)(x2:Operand):Bool:=dw (.copy x0 x1 x2)
def JX(x0:List Value)(x1:Operand):Bool:=dw (.clear x0 x1)
def Fe(x0:Bool)(x1:List Operand):Bool:=dw (.dO x0 x1)
def He(x0:Bool)(x1:List dP)(x2:Operand)(x3:Operand):Bool:=dw (.delete x0 x1 x2 x3)
def MG(x0:Operand)(x1:List Operand):Bool:=dw (.jg x0 x1)
def Dp:Bool:=dw (.recover)
def KX(x0:Operand):Bool:=dw (.rP x0)
def JC(x0:Operand):Bool:=dw (.range x0)
def LJ(x0:Operand)(x1:Bool):Bool:=dw (.next x0 x1)
def Fq(x0:Operand):Bool:=dw (.lP x0)
def JE(x0:Operand):Bool:=dw (.entry x0)
noncomputable def As(o:AOp):Bool:=AOp.rec (motive:=fun _=>Bool) NI Mm Nl NR J7 GR MI J6 H9 Og PT Lm CG Ge IL CU JJ It Jv Ga ET K8 Mt E8 Jt Di Dg Lp Ox HX Nh Gc C6 My JX Fe He MG Dp KX JC LJ Fq JE o
theorem gO:As=dw:=by funext o;cases o<;>rfl
noncomputable def ye(o:AOp):Bool:=B7 o||As o
theorem gz:ye=ja:=by funext o;simp only[ye,ja,Ax,gO]
noncomputable def j8(o:aZ):List Nat:=
 match o.guard with
 |some (t,_)=>t::vf (xu o.op)
 |none=>vf (xu o.op)
theorem gH:j8=cC:=by funext o;unfold j8 cC;simp only[Az];rfl
noncomputable def oZ:List Value→List Value→Bool
 |[],[]=>true
 |x::xs,y::ys=>bif wA x y then oZ xs ys else false
 |_,_=>false
noncomputable def AI:Value→Value→Bool
 | .agg a, .agg b=>oZ a.toList b.toList
 | .tuple a, .tuple b=>oZ a.toList b.toList
 | .func (.func f) a' a, .func (.func g) b' b=>f==g&&(oZ a'.toList b'.toList&&oZ a.toList b.toList)
 |x,y=>wA x y
noncomputable def Ct(h:Heap)(base:Nat)(r:Rec):Bool:=
 match r.k with
 | .quiet=>match AB h base r.e r.o.op with
   |some (.val v' h2)=>AI r.v v'&&Nat.beq h2.next h.next
   |_=>false
 |_=>true
noncomputable def yb(h:Heap)(base:Nat):List Rec→Bool
 |[]=>true
 |r::rs=>bif Ct h base r then yb h base rs else false
noncomputable def iO(h:Heap)(base:Nat)(log:List Nat)(mask:Nat):List Rec→Option (List Rec)
 |[]=>some []
 |r::rs=>bif Nat.testBit mask r.i then iO h base log mask rs else
  bif Ct h base r&&DO log r then match iO h base log mask rs with
   |some rs'=>some (r::rs')
   |none=>none
  else none
theorem CF:oZ=j5:=by
 funext a
 induction a with
 |nil=>funext b;cases b<;>rfl
 |cons x a ih=>funext b;cases b<;>first|rfl|(simp only[oZ,j5,vS,ih])
theorem DX:AI=jK:=by
 funext a b
 unfold AI jK
 simp only[CF,vS]
 first|done|rfl
theorem zU:Ct=pL:=by
 funext h base r
 unfold Ct pL
 simp only[jD,DX]
 first|done|rfl
theorem iq:yb=mj:=by
 funext h base rs
 induction rs with
 |nil=>rfl
 |cons r rs ih=>simp only[yb,mj,zU,ih]
theorem eL:iO=bB:=by
 funext h base log mask rs
 induction rs with
 |nil=>rfl
 |cons r rs ih=>simp only[iO,bB,zU,ih];first|done|rfl
noncomputable def E6(T:Nat→Option ah)(F:Fam)(base:Nat)(rnd:Option Nat)(ops:List aZ)(it:Nat)(x:Operand)(keep:List Nat)(out nxt pr:Nat)(ops2:List aZ)(k2:List Nat)(body:bn)(e:Env)(ds:Dfs)(h:Heap):Option (bA×Env×Dfs×Heap):=match F.ops base rnd ops e ds h with
 |some (.normal,e0,ds0,h0)=>match ds0 with
  |_::_=>none
  |[]=>match evQ h0 e0 x with
   |some (.map none)=>some (.normal,jO e0 keep,[],h0)
   |some (.map (some m))=>match lN h0 m with
    |some (.map es)=>CD out (jO e0 keep) h0 (nC (fun e h=>F.ops (h0.next+1) rnd ops2 e [] h) (fun e h=>F.exec (h0.next+1) rnd body e [] h) nxt pr k2 (itE it h0 (jO e0 keep)) (jO e0 keep) ((roM h0 m es).push .dead) es)
    |_=>none
   |_=>none
 |r=>r
noncomputable def zT(T:Nat→Option ah)(F:Fam)(base:Nat)(rnd:Option Nat)(f:Operand)(ps:List Nat)(asg body:bn)(e:Env)(ds:Dfs)(h:Heap):Option (bA×Env×Dfs×Heap):=bif nZ h rnd then match evQ h e f with
 |some (.func (.func g) first cap)=>bif gp (T g)then none else
  match F.call g (dQ first.toList (dQ [.func (.yield h.next) #[] #[]] cap.toList)) {h.push (.loop e ps asg body 0 .normal)with log:=[]}with
  |some (.ret _,h2)=>match lN h2 h.next with
   |some (.loop _ _ _ _ st gV)=>bif Nat.beq st 1 then none else
    some (gV,e,ds,Heap.wr {h2 with log:=aD base h.log h2.log} base h.next .dead)
   |_=>none
  |some (.panic v,h2)=>some (.panic v,e,ds,{h2 with log:=aD base h.log h2.log})
  |none=>none
 |_=>none
 else none
noncomputable def yZ(F:Fam)(l:Nat)(args:List Value)(h:Heap):Option (Res×Heap):=match lN h l with
 |some (.loop e ps asg body 0 .normal)=>match iP e ps args with
  |some e1=>match F.exec h.next (some l) asg e1 [] h with
   |some (.normal,e2,ds2,h2)=>bif notReady (lN h2 l)then none else match F.exec h.next (some l) body e2 ds2 {h2 with bM:=soQ h2.bM l (.loop e ps asg body 1 .normal)}with
    |some (.normal,_,_,h3)=>match lN h3 l with
     |some (.loop _ _ _ _ 1 _)=>some (.ret (.bool true),gcA h {h3 with bM:=soQ h3.bM l (.loop e ps asg body 0 .normal)} (.bool true))
     |_=>none
    |some (.exit i,_,_,h3)=>match lN h3 l with
     |some (.loop _ _ _ _ 1 _)=>some (.ret (.bool false),h3.wr h.next l (.loop e ps asg body 2 (.exit i)))
     |_=>none
    |some (.ret,_,_,h3)=>match lN h3 l with
     |some (.loop _ _ _ _ 1 _)=>some (.ret (.bool false),h3.wr h.next l (.loop e ps asg body 2 .ret))
     |_=>none
    |_=>none
   |_=>none
  |none=>none
 |_=>none
noncomputable def Hi(T:Nat→Option ah)(F:Fam):Nat→Option Nat→bn→Env→Dfs→Heap→Option (bA×Env×Dfs×Heap):=fun base rnd c e ds h=>
 match c with
 | .skip=>some (.normal,e,ds,h)
 | .region ops keep=>match F.ops base rnd ops e ds h with
   |some (.normal,e',ds',h')=>some (.normal,jO e' keep,ds',h')
   |r=>r
 | .draw ops order before keep=>match F.draw base ops order before [] e h with
   |some (.normal,e',h')=>some (.normal,jO e' keep,ds,h')
   |some (x,e',h')=>some (x,e',ds,h')
   |none=>none
 | .seq a b=>match F.exec base rnd a e ds h with
   |some (.normal,e',ds',h')=>F.exec base rnd b e' ds' h'
   |r=>r
 | .cond c a b=>match evQ h e c with
   |some (.bool true)=>F.exec base rnd a e ds h
   |some (.bool false)=>F.exec base rnd b e ds h
   |_=>none
 | .block id b=>match F.exec base rnd b e ds h with
   |some (.exit i,e',ds',h')=>bif Nat.beq i id then some (.normal,e',ds',h')else some (.exit i,e',ds',h')
   |r=>r
 | .loop b=>match F.exec base rnd b e ds h with
   |some (.normal,e',ds',h')=>F.exec base rnd (.loop b) e' ds' h'
   |r=>r
 | .scope b=>F.exec base rnd b e ds h
 | .rangeFunc f ps asg body=>zT T F base rnd f ps asg body e ds h
 | .rangeMap ops it x keep out nxt pr ops2 k2 body=>E6 T F base rnd ops it x keep out nxt pr ops2 k2 body e ds h
 | .exit id=>some (.exit id,e,ds,h)
 | .ret=>some (.ret,e,ds,h)
noncomputable def KE(T:Nat→Option ah)(F:Fam):Nat→Option Nat→List aZ→Env→Dfs→Heap→Option (bA×Env×Dfs×Heap):=fun base rnd ops e ds h=>
 match ops with
 |[]=>some (.normal,e,ds,h)
 |o::os=>match qe e o.guard with
  |some false=>F.ops base rnd os (bO e o.dst (.tuple #[])) ds h
  |some true=>match AB h base e o.op with
   |some (.val v h')=>F.ops base rnd os (bO e o.dst v) ds h'
   |some (.call fn args h')=>match F.iy fn args {h' with log:=[]}with
    |some (.ret v,h2)=>F.ops base rnd os (bO e o.dst v) ds {h2 with log:=aD base h'.log h2.log}
    |some (.panic v,h2)=>some (.panic v,e,ds,{h2 with log:=aD base h'.log h2.log})
    |none=>none
   |some (.jg f args)=>match rnd with|some _=>none|none=>F.ops base rnd os (bO e o.dst (.tuple #[])) ((f,args)::ds) h
   |some (.panic v h')=>some (.panic v,e,ds,h')
   |_=>none
  |none=>none
noncomputable def E3(T:Nat→Option ah)(F:Fam):Nat→List aZ→List Nat→List Nat→List Rec→Env→Heap→Option (bA×Env×Heap):=fun base ops order before rs e h=>
 match order with
 |[]=>some (.normal,e,h)
 |i::is=>match cm ops i,cm before i with
  |some o,some mask=>
   match qe (jO e (j8 o)) o.guard with
   |some false=>F.draw base ops is before (⟨i,o,jO e (j8 o), .tuple #[], .skip⟩::rs) (bO e o.dst (.tuple #[])) h
   |some true=>
    bif ye o.op then
     match AB h base (jO e (j8 o)) o.op with
     |some (.val v h')=>
      bif As o.op then
       bif yb h' base rs then F.draw base ops is before (⟨i,o,jO e (j8 o),v, .made h.next⟩::rs) (bO e o.dst v) h' else none
      else bif Nat.beq h'.next h.next then F.draw base ops is before (⟨i,o,jO e (j8 o),v, .quiet⟩::rs) (bO e o.dst v) h
      else bif vM before i is then
       match AB {h with log:=[]} h.next (jO e (j8 o)) o.op with
       |some (.val v h2)=>match iO {h2 with log:=aD base h.log h2.log} base h2.log mask rs with
        |some rs'=>F.draw base ops is before rs' (bO e o.dst v) {h2 with log:=aD base h.log h2.log}
        |none=>none
       |_=>none
      else none
     |_=>none
    else
     match AB {h with log:=[]} h.next (jO e (j8 o)) o.op with
     |some (.val v h2)=>match iO {h2 with log:=aD base h.log h2.log} base h2.log mask rs with
      |some rs'=>F.draw base ops is before rs' (bO e o.dst v) {h2 with log:=aD base h.log h2.log}
      |none=>none
     |some (.call fn args _)=>match F.iy fn args {h with log:=[]}with
      |some (.ret v,h2)=>match iO {h2 with log:=aD base h.log h2.log} base h2.log mask rs with
       |some rs'=>F.draw base ops is before rs' (bO e o.dst v) {h2 with log:=aD base h.log h2.log}
       |none=>none
      |some (.panic v,h2)=>some (.panic v,[],{h2 with log:=aD base h.log h2.log})
      |none=>none
     |_=>none
   |none=>none
  |_,_=>none
noncomputable def BS(T:Nat→Option ah)(F:Fam):Fn→List Value→Heap→Option (Res×Heap):=fun fn args h=>
 match fn with
 | .func f=>F.call f args h
 | .yield l=>yZ F l args h
 |_=>none
noncomputable def HI(T:Nat→Option ah)(F:Fam):Nat→List Value→Heap→Option (Res×Heap):=fun f args h=>
 match T f with
 |none=>none
 |some (.jV p)=>match p args h with
  |some (v,h')=>some (.ret v,h')
  |none=>none
 |some (.code code results)=>match F.exec h.next none code (ez 0 args) [] h with
  |some (.panic v,e,ds,h1)=>F.unw results ds (some v) e h h1
  |some (.exit _,_,_,_)=>none
  |some (_,e,ds,h1)=>F.unw results ds none e h h1
  |none=>none
noncomputable def KC(T:Nat→Option ah)(F:Fam):List (Nat×Option (Option Nat))→Dfs→Option Value→Env→Heap→Heap→Option (Res×Heap):=fun results ds pan e h h1=>
 match ds with
 |[]=>match pan with
  |some v=>some (.panic v,h1)
  |none=>match FE h1 e results with
   |some vs=>some (.ret (fP vs),gcA h h1 (fP vs))
   |none=>none
 |(.func (.func g) first cap,args)::ds=>match F.defer g (dQ first.toList (dQ args cap.toList)) pan {h1 with log:=[]}with
  |some (pan',h2)=>F.unw results ds pan' e h {h2 with log:=aD h.next h1.log h2.log}
  |none=>none
 |_=>none
noncomputable def BZ(T:Nat→Option ah)(F:Fam):Nat→List Value→Option Value→Heap→Option (Option Value×Heap):=fun g args pan h=>
 match T g with
 |some (.code code [])=>match F.fL h.next code (ez 0 args) pan h with
  |some (.normal,_,pan',h')=>some (pan',h')
  |some (.ret,_,pan',h')=>some (pan',h')
  |_=>none
 |_=>none
noncomputable def BG(T:Nat→Option ah)(F:Fam):Nat→bn→Env→Option Value→Heap→Option (bA×Env×Option Value×Heap):=fun base c e pan h=>
 match c with
 | .skip=>some (.normal,e,pan,h)
 | .region ops keep=>match F.jr base ops e pan h with
   |some (.normal,e',pan',h')=>some (.normal,jO e' keep,pan',h')
   |r=>r
 | .seq a b=>match F.fL base a e pan h with
   |some (.normal,e',pan',h')=>F.fL base b e' pan' h'
   |r=>r
 | .cond c a b=>match evQ h e c with
   |some (.bool true)=>F.fL base a e pan h
   |some (.bool false)=>F.fL base b e pan h
   |_=>none
 | .ret=>some (.ret,e,pan,h)
 |_=>none
noncomputable def GH(T:Nat→Option ah)(F:Fam):Nat→List aZ→Env→Option Value→Heap→Option (bA×Env×Option Value×Heap):=fun base ops e pan h=>
 match ops with
 |[]=>some (.normal,e,pan,h)
 |o::os=>match qe e o.guard with
  |some false=>F.jr base os (bO e o.dst (.tuple #[])) pan h
  |some true=>match AB h base e o.op with
   |some (.val v h')=>F.jr base os (bO e o.dst v) pan h'
   |some .recover=>match pan with
    |some v=>F.jr base os (bO e o.dst v) none h
    |none=>F.jr base os (bO e o.dst .nilIface) none h
   |_=>none
  |none=>none
noncomputable def Fam.Cm(T:Nat→Option ah)(F:Fam):Fam where
 exec:=Hi T F
 ops:=KE T F
 draw:=E3 T F
 iy:=BS T F
 call:=HI T F
 unw:=KC T F
 defer:=BZ T F
 fL:=BG T F
 jr:=GH T F
noncomputable def ni(T:Nat→Option ah)(n:Nat):Fam:=Nat.rec Fam.none (fun _ F=>Fam.Cm T F) n
theorem HJ:Fam.Cm=Fam.succ:=by
 funext T F
 unfold Fam.Cm Fam.succ
 simp only[Fam.mk.injEq]
 refine⟨?_,?_,?_,?_,?_,?_,?_,?_,?_⟩
 ·funext x0 x1 x2 x3 x4 x5;unfold Hi zT E6;first|rfl|(simp only[bF,br,bt,bK,lM,jd,gw,kg,jk,jD,iq,eL,aV,gH,gz,gO];rfl)
 ·funext x0 x1 x2 x3 x4 x5;unfold KE;first|rfl|(simp only[bF,br,bt,bK,lM,jd,gw,kg,jk,jD,iq,eL,aV,gH,gz,gO];rfl)
 ·funext x0 x1 x2 x3 x4 x5 x6;unfold E3;first|rfl|(simp only[bF,br,bt,bK,lM,jd,gw,kg,jk,jD,iq,eL,aV,gH,gz,gO];rfl)
 ·funext x0 x1 x2;unfold BS yZ;first|rfl|(simp only[bF,br,bt,bK,lM,jd,gw,kg,jk,jD,iq,eL,aV,gH,gz,gO];rfl)
 ·funext x0 x1 x2;unfold HI;first|rfl|(simp only[bF,br,bt,bK,lM,jd,gw,kg,jk,jD,iq,eL,aV,gH,gz,gO];rfl)
 ·funext x0 x1 x2 x3 x4 x5;unfold KC;first|rfl|(simp only[bF,br,bt,bK,lM,jd,gw,kg,jk,jD,iq,eL,aV,gH,gz,gO];rfl)
 ·funext x0 x1 x2 x3;unfold BZ;first|rfl|(simp only[bF,br,bt,bK,lM,jd,gw,kg,jk,jD,iq,eL,aV,gH,gz,gO];rfl)
 ·funext x0 x1 x2 x3 x4;unfold BG;first|rfl|(simp only[bF,br,bt,bK,lM,jd,gw,kg,jk,jD,iq,eL,aV,gH,gz,gO];rfl)
 ·funext x0 x1 x2 x3 x4;unfold GH;first|rfl|(simp only[bF,br,bt,bK,lM,jd,gw,kg,jk,jD,iq,eL,aV,gH,gz,gO];rfl)
theorem Cf(T:Nat→Option ah):∀n,ni T n=fam T n
 |0=>rfl
 |n+1=>by
  show Fam.Cm T (ni T n)=Fam.succ T (fam T n)
  rw[Cf T n,HJ]
end Go.A
