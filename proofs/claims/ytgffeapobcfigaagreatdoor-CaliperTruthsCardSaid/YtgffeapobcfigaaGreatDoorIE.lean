/- The runs once more, for the kernel. -/
import Derived.Test.YtgffeapobcfigaaGreatDoorIA
set_option linter.all false
section
namespace Go.A
structure Fam where
 exec:Nat→Option Nat→aX→Env→Dfs→Heap→Option (bw×Env×Dfs×Heap)
 ops:Nat→Option Nat→List bk→Env→Dfs→Heap→Option (bw×Env×Dfs×Heap)
 draw:Nat→List bk→List Nat→List Nat→List Rec→Env→Heap→Option (bw×Env×Heap)
 ij:Fn→List Value→Heap→Option (Res×Heap)
 call:Nat→List Value→Heap→Option (Res×Heap)
 unw:List (Nat×Option (Option Nat))→Dfs→Option Value→Env→Heap→Heap→Option (Res×Heap)
 defer:Nat→List Value→Option Value→Heap→Option (Option Value×Heap)
 fM:Nat→aX→Env→Option Value→Heap→Option (bw×Env×Option Value×Heap)
 jo:Nat→List bk→Env→Option Value→Heap→Option (bw×Env×Option Value×Heap)
def Fam.none:Fam where
 exec:=fun _ _ _ _ _ _=> .none
 ops:=fun _ _ _ _ _ _=> .none
 draw:=fun _ _ _ _ _ _ _=> .none
 ij:=fun _ _ _=> .none
 call:=fun _ _ _=> .none
 unw:=fun _ _ _ _ _ _=> .none
 defer:=fun _ _ _ _=> .none
 fM:=fun _ _ _ _ _=> .none
 jo:=fun _ _ _ _ _=> .none
def Lo(T:Nat→Option ak)(F:Fam):Nat→Option Nat→aX→Env→Dfs→Heap→Option (bw×Env×Dfs×Heap):=fun base rnd c e ds h=>
    match c with
    | .skip=>some (.normal,e,ds,h)
    | .region ops keep=>match F.ops base rnd ops e ds h with
      |some (.normal,e',ds',h')=>some (.normal,bQ e' keep,ds',h')
      |r=>r
    | .draw ops order before keep=>match F.draw base ops order before [] e h with
      |some (.normal,e',h')=>some (.normal,bQ e' keep,ds,h')
      |some (x,e',h')=>some (x,e',ds,h')
      |none=>none
    | .seq a b=>match F.exec base rnd a e ds h with
      |some (.normal,e',ds',h')=>F.exec base rnd b e' ds' h'
      |r=>r
    | .cond c a b=>match ev h e c with
      |some (.bool true)=>F.exec base rnd a e ds h
      |some (.bool false)=>F.exec base rnd b e ds h
      |_=>none
    | .block id b=>match F.exec base rnd b e ds h with
      |some (.exit i,e',ds',h')=>bif Nat.beq i id then some (.normal,e',ds',h')else some (.exit i,e',ds',h')
      |r=>r
    | .loop b=>match F.exec base rnd b e ds h with
      |some (.normal,e',ds',h')=>F.exec base rnd (.loop b) e' ds' h'
      |r=>r
    | .scope b=>F.exec base rnd b e ds h
    | .rangeFunc f ps asg body=>bif mI h rnd then match ev h e f with
      |some (.func (.func g) first cap)=>bif fT (T g)then none else
       match F.call g (dJ first.toList (dJ [.func (.yield h.next) #[] #[]] cap.toList)) {h.push (.loop e ps asg body 0 .normal)with log:=[]}with
       |some (.ret _,h2)=>match h2.get h.next with
        |some (.loop _ _ _ _ st gP)=>bif Nat.beq st 1 then none else
         some (gP,e,ds,Heap.wr {h2 with log:=aB base h.log h2.log} base h.next .dead)
        |_=>none
       |some (.panic v,h2)=>some (.panic v,e,ds,{h2 with log:=aB base h.log h2.log})
       |none=>none
      |_=>none
      else none
    | .rangeMap ops it x keep out nxt pr ops2 k2 body=>match F.ops base rnd ops e ds h with
      |some (.normal,e0,ds0,h0)=>match ds0 with
       |_::_=>none
       |[]=>match ev h0 e0 x with
        |some (.map none)=>some (.normal,bQ e0 keep,[],h0)
        |some (.map (some m))=>match h0.get m with
         |some (.map es)=>CE out (bQ e0 keep) h0 (nq (fun e h=>F.ops (h0.next+1) rnd ops2 e [] h) (fun e h=>F.exec (h0.next+1) rnd body e [] h) nxt pr k2 (itE it h0 (bQ e0 keep)) (bQ e0 keep) ((roM h0 m es).push .dead) es)
         |_=>none
        |_=>none
      |r=>r
    | .exit id=>some (.exit id,e,ds,h)
    | .ret=>some (.ret,e,ds,h)
def MI(T:Nat→Option ak)(F:Fam):Nat→Option Nat→List bk→Env→Dfs→Heap→Option (bw×Env×Dfs×Heap):=fun base rnd ops e ds h=>
    match ops with
    |[]=>some (.normal,e,ds,h)
    |o::os=>match bW e o.guard with
     |some false=>F.ops base rnd os (bZ e o.dst (.tuple #[])) ds h
     |some true=>match aop h base e o.op with
      |some (.val v h')=>F.ops base rnd os (bZ e o.dst v) ds h'
      |some (.call fn args h')=>match F.ij fn args {h' with log:=[]}with
       |some (.ret v,h2)=>F.ops base rnd os (bZ e o.dst v) ds {h2 with log:=aB base h'.log h2.log}
       |some (.panic v,h2)=>some (.panic v,e,ds,{h2 with log:=aB base h'.log h2.log})
       |none=>none
      |some (.ja f args)=>match rnd with|some _=>none|none=>F.ops base rnd os (bZ e o.dst (.tuple #[])) ((f,args)::ds) h
      |some (.panic v h')=>some (.panic v,e,ds,h')
      |_=>none
     |none=>none
def JV(T:Nat→Option ak)(F:Fam):Nat→List bk→List Nat→List Nat→List Rec→Env→Heap→Option (bw×Env×Heap):=fun base ops order before rs e h=>
    match order with
    |[]=>some (.normal,e,h)
    |i::is=>match cE ops i,cE before i with
     |some o,some mask=>
      match bW (bQ e (cF o)) o.guard with
      |some false=>F.draw base ops is before (⟨i,o,bQ e (cF o), .tuple #[], .skip⟩::rs) (bZ e o.dst (.tuple #[])) h
      |some true=>
       bif iT o.op then
        match aop h base (bQ e (cF o)) o.op with
        |some (.val v h')=>
         bif cT o.op then
          bif lN h' base rs then F.draw base ops is before (⟨i,o,bQ e (cF o),v, .made h.next⟩::rs) (bZ e o.dst v) h' else none
         else bif Nat.beq h'.next h.next then F.draw base ops is before (⟨i,o,bQ e (cF o),v, .quiet⟩::rs) (bZ e o.dst v) h
         else bif uz before i is then
          match aop {h with log:=[]} h.next (bQ e (cF o)) o.op with
          |some (.val v h2)=>match bI {h2 with log:=aB base h.log h2.log} base h2.log mask rs with
           |some rs'=>F.draw base ops is before rs' (bZ e o.dst v) {h2 with log:=aB base h.log h2.log}
           |none=>none
          |_=>none
         else none
        |_=>none
       else
        match aop {h with log:=[]} h.next (bQ e (cF o)) o.op with
        |some (.val v h2)=>match bI {h2 with log:=aB base h.log h2.log} base h2.log mask rs with
         |some rs'=>F.draw base ops is before rs' (bZ e o.dst v) {h2 with log:=aB base h.log h2.log}
         |none=>none
        |some (.call fn args _)=>match F.ij fn args {h with log:=[]}with
         |some (.ret v,h2)=>match bI {h2 with log:=aB base h.log h2.log} base h2.log mask rs with
          |some rs'=>F.draw base ops is before rs' (bZ e o.dst v) {h2 with log:=aB base h.log h2.log}
          |none=>none
         |some (.panic v,h2)=>some (.panic v,[],{h2 with log:=aB base h.log h2.log})
         |none=>none
        |_=>none
      |none=>none
     |_,_=>none
def HY(T:Nat→Option ak)(F:Fam):Fn→List Value→Heap→Option (Res×Heap):=fun fn args h=>
    match fn with
    | .func f=>F.call f args h
    | .yield l=>match h.get l with
      |some (.loop e ps asg body 0 .normal)=>match ia e ps args with
       |some e1=>match F.exec h.next (some l) asg e1 [] h with
        |some (.normal,e2,ds2,h2)=>bif notReady (h2.get l)then none else match F.exec h.next (some l) body e2 ds2 {h2 with bM:=gT h2.bM l (.loop e ps asg body 1 .normal)}with
         |some (.normal,_,_,h3)=>match h3.get l with
          |some (.loop _ _ _ _ 1 _)=>some (.ret (.bool true),gcA h {h3 with bM:=gT h3.bM l (.loop e ps asg body 0 .normal)} (.bool true))
          |_=>none
         |some (.exit i,_,_,h3)=>match h3.get l with
          |some (.loop _ _ _ _ 1 _)=>some (.ret (.bool false),h3.wr h.next l (.loop e ps asg body 2 (.exit i)))
          |_=>none
         |some (.ret,_,_,h3)=>match h3.get l with
          |some (.loop _ _ _ _ 1 _)=>some (.ret (.bool false),h3.wr h.next l (.loop e ps asg body 2 .ret))
          |_=>none
         |_=>none
        |_=>none
       |none=>none
      |_=>none
    |_=>none
def J9(T:Nat→Option ak)(F:Fam):Nat→List Value→Heap→Option (Res×Heap):=fun f args h=>
    match T f with
    |none=>none
    |some (.jI p)=>match p args h with
     |some (v,h')=>some (.ret v,h')
     |none=>none
    |some (.code code results)=>match F.exec h.next none code (ez 0 args) [] h with
     |some (.panic v,e,ds,h1)=>F.unw results ds (some v) e h h1
     |some (.exit _,_,_,_)=>none
     |some (_,e,ds,h1)=>F.unw results ds none e h h1
     |none=>none
def Np(T:Nat→Option ak)(F:Fam):List (Nat×Option (Option Nat))→Dfs→Option Value→Env→Heap→Heap→Option (Res×Heap):=fun results ds pan e h h1=>
    match ds with
    |[]=>match pan with
     |some v=>some (.panic v,h1)
     |none=>match cC h1 e results with
      |some vs=>some (.ret (fE vs),gcA h h1 (fE vs))
      |none=>none
    |(.func (.func g) first cap,args)::ds=>match F.defer g (dJ first.toList (dJ args cap.toList)) pan {h1 with log:=[]}with
     |some (pan',h2)=>F.unw results ds pan' e h {h2 with log:=aB h.next h1.log h2.log}
     |none=>none
    |_=>none
def IV(T:Nat→Option ak)(F:Fam):Nat→List Value→Option Value→Heap→Option (Option Value×Heap):=fun g args pan h=>
    match T g with
    |some (.code code [])=>match F.fM h.next code (ez 0 args) pan h with
     |some (.normal,_,pan',h')=>some (pan',h')
     |some (.ret,_,pan',h')=>some (pan',h')
     |_=>none
    |_=>none
def IG(T:Nat→Option ak)(F:Fam):Nat→aX→Env→Option Value→Heap→Option (bw×Env×Option Value×Heap):=fun base c e pan h=>
    match c with
    | .skip=>some (.normal,e,pan,h)
    | .region ops keep=>match F.jo base ops e pan h with
      |some (.normal,e',pan',h')=>some (.normal,bQ e' keep,pan',h')
      |r=>r
    | .seq a b=>match F.fM base a e pan h with
      |some (.normal,e',pan',h')=>F.fM base b e' pan' h'
      |r=>r
    | .cond c a b=>match ev h e c with
      |some (.bool true)=>F.fM base a e pan h
      |some (.bool false)=>F.fM base b e pan h
      |_=>none
    | .ret=>some (.ret,e,pan,h)
    |_=>none
def KI(T:Nat→Option ak)(F:Fam):Nat→List bk→Env→Option Value→Heap→Option (bw×Env×Option Value×Heap):=fun base ops e pan h=>
    match ops with
    |[]=>some (.normal,e,pan,h)
    |o::os=>match bW e o.guard with
     |some false=>F.jo base os (bZ e o.dst (.tuple #[])) pan h
     |some true=>match aop h base e o.op with
      |some (.val v h')=>F.jo base os (bZ e o.dst v) pan h'
      |some .recover=>match pan with
       |some v=>F.jo base os (bZ e o.dst v) none h
       |none=>F.jo base os (bZ e o.dst .nilIface) none h
      |_=>none
     |none=>none
def Fam.succ(T:Nat→Option ak)(F:Fam):Fam where
 exec:=Lo T F
 ops:=MI T F
 draw:=JV T F
 ij:=HY T F
 call:=J9 T F
 unw:=Np T F
 defer:=IV T F
 fM:=IG T F
 jo:=KI T F
def fam(T:Nat→Option ak)(n:Nat):Fam:=Nat.rec Fam.none (fun _ F=>Fam.succ T F) n
theorem F6(T:Nat→Option ak):∀n,fam T n={exec:=bT T n,ops:=gu T n,draw:=eF T n,ij:=fU T n,call:=iz T n,unw:=nH T n,defer:=jK T n,fM:=ir T n,jo:=jb T n}
 |0=>by
  show Fam.none=_
  unfold Fam.none
  simp only[Fam.mk.injEq]
  refine⟨?_,?_,?_,?_,?_,?_,?_,?_,?_⟩
  ·funext x0 x1 x2 x3 x4 x5;simp only[bT]
  ·funext x0 x1 x2 x3 x4 x5;simp only[gu]
  ·funext x0 x1 x2 x3 x4 x5 x6;simp only[eF]
  ·funext x0 x1 x2;simp only[fU]
  ·funext x0 x1 x2;simp only[iz]
  ·funext x0 x1 x2 x3 x4 x5;simp only[nH]
  ·funext x0 x1 x2 x3;simp only[jK]
  ·funext x0 x1 x2 x3 x4;simp only[ir]
  ·funext x0 x1 x2 x3 x4;simp only[jb]
 |n+1=>by
  show Fam.succ T (fam T n)=_
  rw[F6 T n]
  unfold Fam.succ
  simp only[Fam.mk.injEq]
  refine⟨?_,?_,?_,?_,?_,?_,?_,?_,?_⟩
  ·funext x0 x1 x2 x3 x4 x5;refine Eq.trans ?_ (bT.eq_def T (n+1) x0 x1 x2 x3 x4 x5).symm;rfl
  ·funext x0 x1 x2 x3 x4 x5;refine Eq.trans ?_ (gu.eq_def T (n+1) x0 x1 x2 x3 x4 x5).symm;rfl
  ·funext x0 x1 x2 x3 x4 x5 x6;refine Eq.trans ?_ (eF.eq_def T (n+1) x0 x1 x2 x3 x4 x5 x6).symm;rfl
  ·funext x0 x1 x2;refine Eq.trans ?_ (fU.eq_def T (n+1) x0 x1 x2).symm;rfl
  ·funext x0 x1 x2;refine Eq.trans ?_ (iz.eq_def T (n+1) x0 x1 x2).symm;rfl
  ·funext x0 x1 x2 x3 x4 x5;refine Eq.trans ?_ (nH.eq_def T (n+1) x0 x1 x2 x3 x4 x5).symm;rfl
  ·funext x0 x1 x2 x3;refine Eq.trans ?_ (jK.eq_def T (n+1) x0 x1 x2 x3).symm;rfl
  ·funext x0 x1 x2 x3 x4;refine Eq.trans ?_ (ir.eq_def T (n+1) x0 x1 x2 x3 x4).symm;rfl
  ·funext x0 x1 x2 x3 x4;refine Eq.trans ?_ (jb.eq_def T (n+1) x0 x1 x2 x3 x4).symm;rfl
end Go.A
end
section
namespace Go.A
noncomputable def MJ(k:IntKind):Nat:=IntKind.rec (motive:=fun _=>Nat) 0 1 2 3 4 5 6 7 k
noncomputable def kEq(a b:IntKind):Bool:=Nat.beq (MJ a) (MJ b)
theorem wz(a b:IntKind):kEq a b=decide (a=b):=by cases a<;>cases b<;>rfl
noncomputable def F5(m:Nat)(b:Int):Bool:=Int.rec (motive:=fun _=>Bool) (fun n=>Nat.beq m n) (fun _=>false) b
noncomputable def Eu(m:Nat)(b:Int):Bool:=Int.rec (motive:=fun _=>Bool) (fun _=>false) (fun n=>Nat.beq m n) b
noncomputable def iEq(a b:Int):Bool:=Int.rec (motive:=fun _=>Int→Bool) F5 Eu a b
theorem zD(a b:Int):iEq a b=(a==b):=by
 rw[Bool.eq_iff_iff]
 simp only[beq_iff_eq]
 cases a<;>cases b<;>simp[iEq,F5,Eu,Nat.beq_eq]<;>omega
noncomputable def EP(m:Nat)(b:Int):Bool:=Int.rec (motive:=fun _=>Bool) (fun n=>Nat.blt m n) (fun _=>false) b
noncomputable def EK(m:Nat)(b:Int):Bool:=Int.rec (motive:=fun _=>Bool) (fun _=>true) (fun n=>Nat.blt n m) b
noncomputable def iLt(a b:Int):Bool:=Int.rec (motive:=fun _=>Int→Bool) EP EK a b
theorem Kw(a b:Int):iLt a b=decide (a<b):=by
 rw[Bool.eq_iff_iff]
 simp only[decide_eq_true_eq]
 cases a<;>cases b<;>simp[iLt,EP,EK,Nat.blt_eq]<;>omega
noncomputable def topP(k:IntKind):Nat:=IntKind.rec (motive:=fun _=>Nat) 128 32768 2147483648 9223372036854775808 256 65536 4294967296 18446744073709551616 k
noncomputable def topN(k:IntKind):Nat:=IntKind.rec (motive:=fun _=>Nat) 128 32768 2147483648 9223372036854775808 0 0 0 0 k
noncomputable def Jy(k:IntKind)(n:Int):Int:=Int.rec (motive:=fun _=>Int) (fun m=>bif Nat.blt m (topP k)then .ofNat m else k.wrap (.ofNat m)) (fun m=>bif Nat.blt m (topN k)then .negSucc m else k.wrap (.negSucc m)) n
theorem Fz(k:IntKind)(n:Int):Jy k n=fJ k n:=by cases n<;>cases k<;>rfl
noncomputable def Kx{α:Type}(m:Nat)(f:Nat→α):α:=Nat.rec (motive:=fun _=>α) (f 0) (fun n _=>f (Nat.succ n)) m
theorem HZ{α:Type}(m:Nat)(f:Nat→α):Kx m f=f m:=by cases m<;>rfl
noncomputable def K4{α:Type}(m:Int)(f:Int→α):α:=Int.rec (motive:=fun _=>α) (fun n=>Kx n fun n=>f (.ofNat n)) (fun n=>Kx n fun n=>f (.negSucc n)) m
theorem HN{α:Type}(m:Int)(f:Int→α):K4 m f=f m:=by cases m<;>simp[K4,HZ]
noncomputable def mkI(k:IntKind)(n:Int):Option Value:=K4 (Jy k n) fun n=>some (.int k n)
noncomputable def ER(k:IntKind)(x y:Int):Option Value:=mkI k (x+y)
noncomputable def E2(k:IntKind)(x y:Int):Option Value:=mkI k (x-y)
noncomputable def DA(k:IntKind)(x y:Int):Option Value:=mkI k (x*y)
noncomputable def Fo(_:IntKind)(x y:Int):Option Value:=some (.bool (iEq x y))
noncomputable def EU(_:IntKind)(x y:Int):Option Value:=some (.bool (Bool.rec true false (iEq x y)))
noncomputable def G0(_:IntKind)(x y:Int):Option Value:=some (.bool (iLt x y))
noncomputable def FH(_:IntKind)(x y:Int):Option Value:=some (.bool (Bool.rec true false (iLt y x)))
noncomputable def EM(_:IntKind)(x y:Int):Option Value:=some (.bool (iLt y x))
noncomputable def FD(_:IntKind)(x y:Int):Option Value:=some (.bool (Bool.rec true false (iLt x y)))
def EV(k:IntKind)(x y:Int):Option Value:=arith .quo k x y
def GY(k:IntKind)(x y:Int):Option Value:=arith .rem k x y
def Ew(k:IntKind)(x y:Int):Option Value:=arith .and k x y
def Jw(k:IntKind)(x y:Int):Option Value:=arith .or k x y
def FN(k:IntKind)(x y:Int):Option Value:=arith .xor k x y
def uC(k:IntKind)(x y:Int):Option Value:=arith .andNot k x y
noncomputable def DV(k:IntKind)(x:Int)(k':IntKind)(y:Int):Option Value:=Bool.rec none (ER k x y) (kEq k k')
noncomputable def GK(k:IntKind)(x:Int)(k':IntKind)(y:Int):Option Value:=Bool.rec none (E2 k x y) (kEq k k')
noncomputable def Ez(k:IntKind)(x:Int)(k':IntKind)(y:Int):Option Value:=Bool.rec none (DA k x y) (kEq k k')
noncomputable def F7(k:IntKind)(x:Int)(k':IntKind)(y:Int):Option Value:=Bool.rec none (EV k x y) (kEq k k')
noncomputable def Ei(k:IntKind)(x:Int)(k':IntKind)(y:Int):Option Value:=Bool.rec none (GY k x y) (kEq k k')
noncomputable def FY(k:IntKind)(x:Int)(k':IntKind)(y:Int):Option Value:=Bool.rec none (Ew k x y) (kEq k k')
noncomputable def JY(k:IntKind)(x:Int)(k':IntKind)(y:Int):Option Value:=Bool.rec none (Jw k x y) (kEq k k')
noncomputable def FE(k:IntKind)(x:Int)(k':IntKind)(y:Int):Option Value:=Bool.rec none (FN k x y) (kEq k k')
def Gh(k:IntKind)(x:Int)(_:IntKind)(y:Int):Option Value:=mB .shl k x y
def DE(k:IntKind)(x:Int)(_:IntKind)(y:Int):Option Value:=mB .shr k x y
noncomputable def sG(k:IntKind)(x:Int)(k':IntKind)(y:Int):Option Value:=Bool.rec none (uC k x y) (kEq k k')
noncomputable def DF(k:IntKind)(x:Int)(k':IntKind)(y:Int):Option Value:=Bool.rec none (Fo k x y) (kEq k k')
noncomputable def Dr(k:IntKind)(x:Int)(k':IntKind)(y:Int):Option Value:=Bool.rec none (EU k x y) (kEq k k')
noncomputable def FC(k:IntKind)(x:Int)(k':IntKind)(y:Int):Option Value:=Bool.rec none (G0 k x y) (kEq k k')
noncomputable def FU(k:IntKind)(x:Int)(k':IntKind)(y:Int):Option Value:=Bool.rec none (FH k x y) (kEq k k')
noncomputable def GP(k:IntKind)(x:Int)(k':IntKind)(y:Int):Option Value:=Bool.rec none (EM k x y) (kEq k k')
noncomputable def Fg(k:IntKind)(x:Int)(k':IntKind)(y:Int):Option Value:=Bool.rec none (FD k x y) (kEq k k')
noncomputable def E3(op:BinOp):IntKind→Int→IntKind→Int→Option Value:=BinOp.rec (motive:=fun _=>IntKind→Int→IntKind→Int→Option Value) DV GK Ez F7 Ei FY JY FE Gh DE sG DF Dr FC FU GP Fg op
noncomputable def KX(op:BinOp)(x y:Value):Option Value:=
 match x with
 | .int k a=>match y with
   | .int k' b=>E3 op k a k' b
   |_=>none
 | .string a=>match y with
   | .string b=>yV op a b
   |_=>none
 |_=>none
theorem GL{α:Type}(x y:α)(b:Bool):(Bool.rec x y b:α)=bif b then y else x:=by cases b<;>rfl
theorem KL(k:IntKind)(n:Int):mkI k n=some (.int k (fJ k n)):=by simp[mkI,HN,Fz]
theorem bD:KX=aC:=by
 funext op x y
 unfold KX
 split
 ·rename_i k a
  split
  ·rename_i k' b
   by_cases hk:k=k'
   ·subst hk
    cases op<;>simp[E3,aC,DV,GK,Ez,F7,Ei,FY,JY,FE,Gh,DE,sG,DF,Dr,FC,FU,GP,Fg,ER,E2,DA,EV,GY,Ew,Jw,FN,uC,Fo,EU,G0,FH,EM,FD,wz,GL,KL,arith,kU,zD,Kw]
    all_goals first
     |(simp[bne];done)
     |(rw[Bool.eq_iff_iff];simp;done)
     |(rw[Bool.eq_iff_iff];simp;omega)
   ·cases op<;>simp[E3,aC,DV,GK,Ez,F7,Ei,FY,JY,FE,Gh,DE,sG,DF,Dr,FC,FU,GP,Fg,wz,GL,hk]
  ·rename_i hy
   cases op<;>cases y<;>first|rfl|exact(hy _ _ rfl).elim
 ·split
  ·cases op<;>rfl
  ·rename_i hy
   cases op<;>cases y<;>first|rfl|exact(hy _ rfl).elim
 ·rename_i h1 h2
  cases op<;>cases x<;>first|rfl|exact(h1 _ _ rfl).elim|exact(h2 _ rfl).elim
noncomputable def NP(_:Nat):Option Value:=none
noncomputable def N8(p:Nat×Value)(_:Env)(ih:Nat→Option Value)(t:Nat):Option Value:=Bool.rec (ih t) (some p.2) (Nat.beq p.1 t)
noncomputable def geQ(e:Env)(t:Nat):Option Value:=List.rec (motive:=fun _=>Nat→Option Value) NP N8 e t
theorem jl:geQ=geT:=by
 funext e t
 induction e with
 |nil=>rfl
 |cons p e ih=>
  obtain⟨k,v⟩:=p
  show(Bool.rec (geQ e t) (some v) (Nat.beq k t):Option Value)=_
  rw[GL,ih];rfl
noncomputable def Nl(t:Nat)(l:Env)(v:Value):Env:=(t,v)::l
noncomputable def Oh(_:Env):Env:=[]
noncomputable def O9(t:Nat)(_:List Nat)(ih:Env→Env)(e:Env):Env:=Option.rec (motive:=fun _=>Env) (ih e) (Nl t (ih e)) (geQ e t)
noncomputable def jD(e:Env)(l:List Nat):Env:=List.rec (motive:=fun _=>Env→Env) Oh O9 l e
theorem iU:jD=bQ:=by
 funext e l
 induction l with
 |nil=>rfl
 |cons t l ih=>
  show(Option.rec (jD e l) (Nl t (jD e l)) (geQ e t):Env)=_
  rw[jl,ih]
  simp only[bQ]
  cases geT e t<;>rfl
noncomputable def OF(_:Nat):Option bJ:=none
noncomputable def Po(p:Nat×bJ)(_:List (Nat×bJ))(ih:Nat→Option bJ)(t:Nat):Option bJ:=Bool.rec (ih t) (some p.2) (Nat.beq p.1 t)
noncomputable def goQ(e:List (Nat×bJ))(t:Nat):Option bJ:=List.rec (motive:=fun _=>Nat→Option bJ) OF Po e t
theorem Lb:goQ=eZ:=by
 funext e t
 induction e with
 |nil=>rfl
 |cons p e ih=>
  obtain⟨k,v⟩:=p
  show(Bool.rec (goQ e t) (some v) (Nat.beq k t):Option bJ)=_
  rw[GL,ih];rfl
noncomputable def lu(h:Heap)(b:Nat):Option bJ:=goQ h.bM b
theorem bt:lu=Heap.get:=by funext h b;simp[lu,Heap.get,Lb]
noncomputable def OV(_:Nat)(_:bJ):List (Nat×bJ):=[]
noncomputable def OT(p:Nat×bJ)(l:List (Nat×bJ))(ih:Nat→bJ→List (Nat×bJ))(t:Nat)(o:bJ):List (Nat×bJ):=Bool.rec (p::ih t o) ((p.1,o)::l) (Nat.beq p.1 t)
noncomputable def soQ(e:List (Nat×bJ))(t:Nat)(o:bJ):List (Nat×bJ):=List.rec (motive:=fun _=>Nat→bJ→List (Nat×bJ)) OV OT e t o
theorem lp:soQ=gT:=by
 funext e t o
 induction e with
 |nil=>rfl
 |cons p e ih=>
  obtain⟨k,v⟩:=p
  show(Bool.rec ((k,v)::soQ e t o) ((k,o)::e) (Nat.beq k t):List (Nat×bJ))=_
  rw[GL,ih];rfl
noncomputable def wrQ(h:Heap)(base b:Nat)(o:bJ):Heap:={h with bM:=soQ h.bM b o,log:=bif Nat.blt b base then(bif fA h.log b then h.log else b::h.log)else h.log}
theorem bK:wrQ=Heap.wr:=by funext h base b o;simp[wrQ,Heap.wr,lp]
noncomputable def evQ(h:Heap)(e:Env)(x:Operand):Option Value:=Operand.rec (motive:=fun _=>Env→Heap→Option Value) (fun t e _=>geQ e t) (fun v _ _=>some v) (fun g _ h=>ev h [] (.global g)) (fun f _ _=>some (.func (.func f) #[] #[])) x e h
theorem bF:evQ=ev:=by
 funext h e x
 cases x<;>first|rfl|(show geQ e _=_;rw[jl];rfl)
noncomputable def za(h:Heap)(e:Env):List Operand→Option (List Value)
 |[]=>some []
 |x::xs=>match evQ h e x with
  |some v=>match za h e xs with
   |some vs=>some (v::vs)
   |none=>none
  |none=>none
theorem bq:za=evs:=by
 funext h e l
 induction l with
 |nil=>rfl
 |cons x l ih=>(simp only[za,evs,bF,ih];rfl)
noncomputable def xV(h:Heap)(e:Env)(z:List Value):List (Nat×Nat×Operand)→Option (List Value)
 |[]=>some z
 |(off,size,x)::ps=>match evQ h e x with
  |some v=>bif Nat.beq (bR (cellsOf v)) size&&Nat.ble (off+size) (bR z)then xV h e (cD z off (cellsOf v)) ps else none
  |none=>none
theorem bh:xV=jA:=by
 funext h e z l
 induction l generalizing z with
 |nil=>rfl
 |cons p l ih=>obtain⟨a,b,x⟩:=p;(simp only[xV,jA,bF,ih];rfl)
noncomputable def pL(e:Env)(g:Option (Nat×Bool)):Option Bool:=
 match g with
 |none=>some true
 |some (t,b)=>match geQ e t with
  |some (.bool x)=>some (x==b)
  |some _=>some false
  |none=>none
theorem gr:pL=bW:=by
 funext e g
 cases g with
 |none=>rfl
 |some p=>obtain⟨t,b⟩:=p;(simp only[pL,bW,jl];rfl)
noncomputable def DX(h:Heap)(e:Env):List (Nat×Option (Option Nat))→Option (List Value)
 |[]=>some []
 |(t,none)::rs=>match geQ e t with
  |some v=>match DX h e rs with
   |some vs=>some (v::vs)
   |none=>none
  |none=>none
 |(t,some n)::rs=>match geQ e t with
  |some a=>match mQ h n a with
   |some v=>match DX h e rs with
    |some vs=>some (v::vs)
    |none=>none
   |none=>none
  |none=>none
theorem jV:DX=cC:=by
 funext h e l
 induction l with
 |nil=>rfl
 |cons p l ih=>
  obtain⟨t,n⟩:=p
  cases n<;>(simp only[DX,cC,jl,ih];rfl)
noncomputable def DH(l:dO)(x y:Value):Option Bool:=
 match l with
 | .i q=>match x with
   | .int k a=>match y with
     | .int k' b=>bif kEq k q&&kEq k' q then some (iEq a b)else none
     |_=>none
   |_=>none
 |l=>iS l x y
theorem Er:DH=iS:=by
 funext l x y
 unfold DH
 split
 ·rename_i q
  split
  ·rename_i k a
   split
   ·rename_i k' b
    simp only[iS,wz,zD,cond_eq_ite,Bool.and_eq_true,decide_eq_true_eq]
    by_cases h1:k=q<;>by_cases h2:k'=q<;>simp[h1,h2]
   ·rename_i hy
    cases y<;>first|rfl|exact(hy _ _ rfl).elim
  ·rename_i hx
   cases x<;>first|rfl|exact(hx _ _ rfl).elim
 ·rfl
noncomputable def mg:List dO→List Value→List Value→Option Bool
 |[],[],[]=>some true
 |l::ls,x::xs,y::ys=>match DH l x y with
  |some true=>mg ls xs ys
  |some false=>match mg ls xs ys with
   |some _=>some false
   |none=>none
  |none=>none
 |_,_,_=>none
theorem aN:mg=bG:=by
 funext ls
 induction ls with
 |nil=>funext xs ys;cases xs<;>cases ys<;>rfl
 |cons l ls ih=>
  funext xs ys
  cases xs<;>cases ys<;>first|rfl|(simp only[mg,bG,Er,ih];rfl)
noncomputable def oQ(ag:Bool)(ls:List dO)(k:Value):Bool:=
 match oH k==ag,mg ls (cellsOf k) (cellsOf k)with
 |true,some _=>true
 |_,_=>false
theorem aR:oQ=jN:=by funext ag ls k;(simp only[oQ,jN,aN];rfl)
noncomputable def Aa(ag:Bool)(ls:List dO)(k k':Value):Option Bool:=
 match oH k'==ag with
 |true=>mg ls (cellsOf k) (cellsOf k')
 |false=>none
theorem BJ:Aa=pI:=by funext ag ls k k';(simp only[Aa,pI,aN];rfl)
noncomputable def ve(ag:Bool)(ls:List dO)(k:Value):Nat→List (Value×Value)→Option (Option (Nat×Value))
 |_,[]=>some none
 |i,(k',v)::es=>match Aa ag ls k k' with
  |some true=>some (some (i,v))
  |some false=>ve ag ls k (i+1) es
  |none=>none
theorem bg:ve=pV:=by
 funext ag ls k i es
 induction es generalizing i with
 |nil=>rfl
 |cons p es ih=>obtain⟨a,b⟩:=p;(simp only[ve,pV,BJ,ih];rfl)
noncomputable def xe(x y:Value):Bool:=
 match x with
 | .int k a=>match y with
   | .int k' b=>kEq k k'&&iEq a b
   |_=>false
 |x=>kg x y
theorem uq:xe=kg:=by
 funext x y
 unfold xe
 split
 ·rename_i k a
  split
  ·rename_i k' b
   simp only[kg,wz,zD]
   by_cases h:k=k'<;>simp[h]
  ·rename_i hy
   cases y<;>first|rfl|exact(hy _ _ rfl).elim
 ·rfl
end Go.A
end
section
namespace Go.A
noncomputable def FJ(h:Heap)(n:Option Nat):Value→Option Value
 | .pointer (some ⟨b,o,none⟩)=>match lu h b with
   |some (.cells vs _ _)=>match n with
    |none=>cE vs o
    |some n=>let l:=cG n (bX o vs);bif Nat.beq (bR l) n then some (.agg l.toArray)else none
   |_=>none
 |_=>none
noncomputable def zk(h:Heap)(base n:Nat)(v:Value):Value→Option Heap
 | .pointer (some ⟨b,o,none⟩)=>match lu h b with
   |some (.cells vs true sz)=>bif Nat.beq (bR (cellsOf v)) n&&Nat.ble (o+n) (bR vs)&&eM (cellsOf v)then some (wrQ h base b (.cells (cD vs o (cellsOf v)) true sz))else none
   |_=>none
 |_=>none
noncomputable def zT(h:Heap)(e:Env)(dflt:Nat):Option Operand→Option Nat
 |none=>some dflt
 |some x=>match evQ h e x with
  |some v=>nI v
  |none=>none
noncomputable def wG(h:Heap)(e:Env)(size:Nat)(a:Option Addr)(len cap:Nat)(lo hi mx:Option Operand):Option (Value×Heap):=
 match zT h e 0 lo,zT h e len hi with
 |some l,some u=>
  match mx with
  |some _=>match zT h e 0 mx with
   |some m=>bif Nat.ble l u&&Nat.ble u m&&Nat.ble m (bif Nat.beq cap UNK then len else cap)&&Nat.blt m UNK then
    some (.slice (bif Nat.beq m l then a else match a with|some ⟨b,o,none⟩=>some ⟨b,o+l*size,none⟩|a=>a) (u-l) (m-l),h)
    else none
   |none=>none
  |none=>
   bif Nat.beq cap UNK then
    match a with
    |some ⟨b,o,none⟩=>match lu h b with
     |some (.cells vs _ sz)=>
      bif Nat.beq sz size&&Nat.ble l u&&(Nat.ble u len||Nat.ble (o+u*size) (bR vs))then
       bif Nat.blt l len||Nat.blt l u then some (.slice (some ⟨b,o+l*size,none⟩) (u-l) UNK,h)
       else bif Nat.beq l 0 then some (.slice (some ⟨b,o,none⟩) 0 UNK,h)
       else some (.slice (some ⟨h.next,0,none⟩) 0 UNK,h.push (.cells [] false size))
      else none
     |_=>none
    |_=>none
   else bif Nat.ble l u&&Nat.ble u cap then
    some (.slice (bif Nat.beq cap l then a else match a with|some ⟨b,o,none⟩=>some ⟨b,o+l*size,none⟩|a=>a) (u-l) (cap-l),h)
    else none
 |_,_=>none
noncomputable def Iy(h:Heap)(size:Nat):Value→Option (List Value×Nat)
 | .slice none n _=>bif Nat.beq n 0 then some ([],0)else none
 | .slice (some ⟨b,o,none⟩) n _=>match lu h b with
   |some (.cells vs _ _)=>let l:=cG (n*size) (bX o vs);bif Nat.beq (bR l) (n*size)then some (l,n)else none
   |_=>none
 | .string s=>bif Nat.beq size 1 then some (s.data.toList.map fun b=> .int .u8 b.toNat,s.size)else none
 |_=>none
noncomputable def rS(h:Heap)(base size bytes:Nat)(s:Value)(new:List Value)(n:Nat):Option (Value×Heap):=
 match s with
 | .slice a len cap=>
   bif Nat.beq n 0 then(bif Nat.ble len cap then some (s,h)else none)else
   bif Nat.ble ((2*(len+n)+768)*bytes) 281474976710656 then
    match a with
    |none=>bif Nat.beq len 0&&Nat.beq cap 0 then some (.slice (some ⟨h.next,0,none⟩) n UNK,h.push (.cells new true size))else none
    |some ⟨b,o,none⟩=>match lu h b with
     |some (.cells vs own sz)=>
      bif Nat.beq cap UNK then
       bif own&&Nat.beq sz size then
        bif Nat.ble (o+(len+n)*size) (bR vs)&&eM new then
         some (.slice (some ⟨b,o,none⟩) (len+n) UNK,wrQ h base b (.cells (cD vs (o+len*size) new) true sz))
        else bif Nat.beq o 0&&Nat.beq (len*size) (bR vs)&&eM new then
         some (.slice (some ⟨h.next,0,none⟩) (len+n) UNK,(wrQ h base b .dead).push (.cells (dJ vs new) true size))
        else none
       else none
      else bif Nat.ble (len+n) cap then
       bif own&&Nat.ble (o+(len+n)*size) (bR vs)&&eM new then
        some (.slice (some ⟨b,o,none⟩) (len+n) cap,wrQ h base b (.cells (cD vs (o+len*size) new) true sz))
       else none
      else bif Nat.ble (o+len*size) (bR vs)then
       some (.slice (some ⟨h.next,0,none⟩) (len+n) UNK,h.push (.cells (dJ (cG (len*size) (bX o vs)) new) true size))
      else none
     |_=>none
    |_=>none
   else none
 |_=>none
theorem aW:FJ=mQ:=by
 funext h n v
 unfold FJ mQ
 simp only[bF,bq,bh,bD,bg,aR,aN,bt,bK];rfl
theorem aZ:zk=oK:=by
 funext h base n v x
 unfold zk oK
 simp only[bF,bq,bh,bD,bg,aR,aN,bt,bK];rfl
theorem bN:zT=bnd:=by
 funext h e d x
 unfold zT bnd
 simp only[bF,bq,bh,bD,bg,aR,aN,bt,bK];rfl
theorem aY:wG=gZ:=by
 funext h e size a len cap lo hi mx
 unfold wG gZ
 simp only[bF,bq,bh,bD,bg,aR,aN,bt,bK,bN];rfl
theorem bP:Iy=eL:=by
 funext h size v
 unfold Iy eL
 simp only[bF,bq,bh,bD,bg,aR,aN,bt,bK];rfl
theorem aQ:rS=iC:=by
 funext h base size bytes s new n
 unfold rS iC
 simp only[bF,bq,bh,bD,bg,aR,aN,bt,bK];rfl
noncomputable def DC(h:Heap)(base:Nat)(e:Env)(x:Operand):Option ct:=cg (evQ h e x) fun v=>some (.val v h)
noncomputable def zw(h:Heap)(base:Nat)(e:Env)(c:Operand)(a:Operand)(b:Operand):Option ct:=match evQ h e c with
 |some (.bool true)=>cg (evQ h e a) fun v=>some (.val v h)
 |some (.bool false)=>cg (evQ h e b) fun v=>some (.val v h)
 |_=>none
noncomputable def DG(h:Heap)(base:Nat)(e:Env)(z:List Value):Option ct:=some (.val (.pointer (some ⟨h.next,0,none⟩)) (h.push (.cells z true 1)))
noncomputable def Gj(h:Heap)(base:Nat)(e:Env)(x:Operand):Option ct:=cg (evQ h e x) fun v=>some (.val (.pointer (some ⟨h.next,0,none⟩)) (h.push (.cells (cellsOf v) true 1)))
noncomputable def wN(h:Heap)(base:Nat)(e:Env)(z:List Value)(ps:List (Nat×Nat×Operand)):Option ct:=match xV h e z ps with
 |some cs=>some (.val (.agg cs.toArray) h)
 |none=>none
noncomputable def tX(h:Heap)(base:Nat)(e:Env)(z:List Value)(n:Nat)(ps:List (Nat×Nat×Operand)):Option ct:=match xV h e (eN n z) ps with
 |some cs=>some (.val (.slice (some ⟨h.next,0,none⟩) n n) (h.push (.cells cs true (bR z))))
 |none=>none
noncomputable def zP(h:Heap)(base:Nat)(e:Env)(n:Option Nat)(a:Operand):Option ct:=cg (evQ h e a) fun a=>cg (FJ h n a) fun v=>some (.val v h)
noncomputable def xg(h:Heap)(base:Nat)(e:Env)(n:Nat)(a:Operand)(v:Operand):Option ct:=cg (evQ h e a) fun a=>cg (evQ h e v) fun v=>match zk h base n v a with
 |some h'=>some (.val (.tuple #[]) h')
 |none=>none
noncomputable def tE(h:Heap)(base:Nat)(e:Env)(x:Operand):Option ct:=cg (evQ h e x) fun v=>match v with
 | .pointer none| .nilIface| .nilFunc=>none
 | .func (.method _) _ _=>none
 |v=>some (.val v h)
noncomputable def GW(h:Heap)(base:Nat)(e:Env):Ct→Operand→Operand→Option ct
 |(.num op),x,y=>cg (evQ h e x) fun x=>cg (evQ h e y) fun y=>cg (KX op x y) fun v=>some (.val v h)
 |(.beq neq),x,y=>match evQ h e x,evQ h e y with
  |some (.bool a),some (.bool b)=>some (.val (.bool (bif neq then !(a==b)else a==b)) h)
  |_,_=>none
 |(.nil k neq),x,y=>cg (evQ h e x) fun x=>cg (evQ h e y) fun y=>match nr k x y with
  |some b=>some (.val (.bool (bif neq then !b else b)) h)
  |none=>none
 |(.agg neq ls),x,y=>cg (evQ h e x) fun x=>cg (evQ h e y) fun y=>match x,y with
  | .agg xs, .agg ys=>match mg ls xs.toList ys.toList with
    |some b=>some (.val (.bool (bif neq then !b else b)) h)
    |none=>none
  |_,_=>none
noncomputable def Lr(h:Heap)(base:Nat)(e:Env)(op:UnOp)(x:Operand):Option ct:=cg (evQ h e x) fun x=>cg (tP op x) fun v=>some (.val v h)
noncomputable def Av(h:Heap)(base:Nat)(e:Env)(c:Cv)(x:Operand):Option ct:=cg (evQ h e x) fun x=>fG (oC h c x)
noncomputable def qA(h:Heap)(base:Nat)(e:Env)(t:TypeId)(x:Operand):Option ct:=cg (evQ h e x) fun v=>some (.val (.iface t v) h)
noncomputable def sK(h:Heap)(base:Nat)(e:Env)(fn:Fn)(fs:List Operand)(cs:List Operand):Option ct:=match za h e fs,za h e cs with
 |some fs,some cs=>some (.val (.func fn fs.toArray cs.toArray) h)
 |_,_=>none
noncomputable def wB(h:Heap)(base:Nat)(e:Env):Option ct:=some (.val (.map (some h.next)) (h.push (.map [])))
noncomputable def qT(h:Heap)(base:Nat)(e:Env)(z:List Value)(bytes:Nat)(l:Operand)(c:Operand):Option ct:=match evQ h e l,evQ h e c with
 |some l,some c=>match nI l,nI c with
  |some l,some c=>bif Nat.ble l c&&Nat.ble (bytes*c) 281474976710656&&Nat.blt c UNK then
   some (.val (.slice (some ⟨h.next,0,none⟩) l c) (h.push (.cells (eN c z) true (bR z))))
   else none
  |_,_=>none
 |_,_=>none
noncomputable def wj(h:Heap)(base:Nat)(e:Env):ASl→Operand→Option Operand→Option Operand→Option Operand→Option ct
 | .str,x,lo,hi,none=>match evQ h e x with
   |some (.string s)=>match zT h e 0 lo,zT h e s.size hi with
    |some l,some u=>bif Nat.ble l u&&Nat.ble u s.size then some (.val (.string (s.extract l u)) h)else none
    |_,_=>none
   |_=>none
 |(.sl size),x,lo,hi,mx=>match evQ h e x with
  |some (.slice a len cap)=>fG (wG h e size a len cap lo hi mx)
  |_=>none
 |(.arr n size),x,lo,hi,mx=>match evQ h e x with
  |some (.pointer (some a))=>fG (wG h e size (some a) n n lo hi mx)
  |_=>none
 | .str,_,_,_,(some _)=>none
noncomputable def wH(h:Heap)(base:Nat)(e:Env)(off:Nat)(x:Operand):Option ct:=match evQ h e x with
 |some (.pointer (some ⟨b,o,none⟩))=>some (.val (.pointer (some ⟨b,o+off,none⟩)) h)
 |_=>none
noncomputable def we(h:Heap)(base:Nat)(e:Env)(off:Nat)(n:Option Nat)(x:Operand):Option ct:=match evQ h e x with
 |some (.agg cs)=>match n with
  |none=>cg (cE cs.toList off) fun v=>some (.val v h)
  |some n=>let l:=cG n (bX off cs.toList);bif Nat.beq (bR l) n then some (.val (.agg l.toArray) h)else none
 |_=>none
noncomputable def tM(h:Heap)(base:Nat)(e:Env)(len:Nat)(size:Nat)(x:Operand)(i:Operand):Option ct:=match evQ h e x,evQ h e i with
 |some (.pointer (some ⟨b,o,none⟩)),some (.int _ (.ofNat i))=>bif Nat.blt i len then some (.val (.pointer (some ⟨b,o+i*size,none⟩)) h)else none
 |_,_=>none
noncomputable def si(h:Heap)(base:Nat)(e:Env)(size:Nat)(x:Operand)(i:Operand):Option ct:=match evQ h e x,evQ h e i with
 |some (.slice (some ⟨b,o,none⟩) len _),some (.int _ (.ofNat i))=>bif Nat.blt i len then some (.val (.pointer (some ⟨b,o+i*size,none⟩)) h)else none
 |_,_=>none
noncomputable def zM(h:Heap)(base:Nat)(e:Env)(len:Nat)(size:Nat)(n:Option Nat)(x:Operand)(i:Operand):Option ct:=match evQ h e x,evQ h e i with
 |some (.agg cs),some (.int _ (.ofNat i))=>bif Nat.blt i len then
  match n with
  |none=>cg (cE cs.toList (i*size)) fun v=>some (.val v h)
  |some n=>let l:=cG n (bX (i*size) cs.toList);bif Nat.beq (bR l) n then some (.val (.agg l.toArray) h)else none
  else none
 |_,_=>none
noncomputable def zI(h:Heap)(base:Nat)(e:Env)(x:Operand)(i:Operand):Option ct:=match evQ h e x,evQ h e i with
 |some (.string s),some (.int _ (.ofNat i))=>match cE s.data.toList i with
  |some b=>some (.val (.int .u8 b.toNat) h)
  |none=>none
 |_,_=>none
noncomputable def sL(h:Heap)(base:Nat)(e:Env)(ag:Bool)(ls:List dO)(z:Value)(ok:Bool)(m:Operand)(k:Operand):Option ct:=match evQ h e m,evQ h e k with
 |some (.map none),some k=>bif oQ ag ls k then some (.val (bif ok then .tuple #[z, .bool false]else z) h)else none
 |some (.map (some r)),some k=>match vS (lu h r)with
  |some es=>bif oQ ag ls k then match ve ag ls k 0 es with
   |some (some (_,v))=>some (.val (bif ok then .tuple #[v, .bool true]else v) h)
   |some none=>some (.val (bif ok then .tuple #[z, .bool false]else z) h)
   |none=>none else none
  |none=>none
 |_,_=>none
noncomputable def vE(h:Heap)(base:Nat)(e:Env)(ag:Bool)(ls:List dO)(m:Operand)(k:Operand)(v:Operand):Option ct:=match evQ h e m,evQ h e k,evQ h e v with
 |some (.map (some r)),some k,some v=>match lu h r with
  |some (.map es)=>bif oQ ag ls k then match ve ag ls k 0 es with
   |some (some (i,_))=>some (.val (.tuple #[]) (wrQ h base r (.map (qc es i (k,v)))))
   |some none=>some (.val (.tuple #[]) (wrQ h base r (.map (dJ es [(k,v)]))))
   |none=>none else none
  |_=>none
 |_,_,_=>none
noncomputable def qD(h:Heap)(base:Nat)(e:Env)(t:TypeId)(ok:Bool)(z:Value)(x:Operand):Option ct:=match evQ h e x with
 |some .nilIface=>bif ok then some (.val (.tuple #[z, .bool false]) h)else none
 |some (.iface t' v)=>if t'=t then some (.val (bif ok then .tuple #[v, .bool true]else v) h)
  else bif ok then some (.val (.tuple #[z, .bool false]) h)else none
 |_=>none
noncomputable def qo(h:Heap)(base:Nat)(e:Env)(t:Operand)(i:Nat):Option ct:=match evQ h e t with
 |some (.tuple vs)=>cg (cE vs.toList i) fun v=>some (.val v h)
 |_=>none
noncomputable def zC(h:Heap)(base:Nat)(e:Env)(f:Operand)(args:List Operand):Option ct:=match evQ h e f,za h e args with
 |some f,some args=>nC f args h
 |_,_=>none
noncomputable def sg(h:Heap)(base:Nat)(e:Env):Nat→Operand→Option ct
 |0,x=>match evQ h e x with
  |some (.string s)=>some (.val (.int .i64 s.size) h)
  |_=>none
 |1,x=>match evQ h e x with
  |some (.slice _ n _)=>some (.val (.int .i64 n) h)
  |_=>none
 |_,x=>match evQ h e x with
  |some (.map none)=>some (.val (.int .i64 0) h)
  |some (.map (some r))=>match vS (lu h r)with
   |some es=>some (.val (.int .i64 (bR es)) h)
   |none=>none
  |_=>none
noncomputable def td(h:Heap)(base:Nat)(e:Env)(n:Nat):Option ct:=some (.val (.int .i64 n) h)
noncomputable def FB(h:Heap)(base:Nat)(e:Env)(x:Operand):Option ct:=match evQ h e x with
 |some (.slice _ _ c)=>bif Nat.beq c UNK then none else some (.val (.int .i64 c) h)
 |_=>none
noncomputable def tC(h:Heap)(base:Nat)(e:Env)(size:Nat)(bytes:Nat)(s:Operand)(x:Operand):Option ct:=match evQ h e s,evQ h e x with
 |some s,some x=>match Iy h size x with
  |some (l,n)=>fG (rS h base size bytes s l n)
  |none=>none
 |_,_=>none
noncomputable def qG(h:Heap)(base:Nat)(e:Env)(z:List Value)(bytes:Nat)(s:Operand)(n:Operand):Option ct:=match evQ h e s,evQ h e n with
 |some s,some n=>match nI n with
  |some n=>bif Nat.blt n 9223372036854775808&&Nat.ble (n*bytes) 281474976710656 then fG (rS h base (bR z) bytes s (eN n z) n)else none
  |none=>none
 |_,_=>none
noncomputable def Ap(h:Heap)(base:Nat)(e:Env)(size:Nat)(d:Operand)(s:Operand):Option ct:=match evQ h e d,evQ h e s with
 |some (.slice a dl _),some s=>match Iy h size s with
  |some (l,n)=>
   let m:=Nat.min n dl
   match a with
   |none=>some (.val (.int .i64 m) h)
   |some ⟨b,o,none⟩=>match lu h b with
    |some (.cells vs true sz)=>bif Nat.ble (o+m*size) (bR vs)&&eM (cG (m*size) l)then
     some (.val (.int .i64 m) (wrQ h base b (.cells (cD vs o (cG (m*size) l)) true sz)))
     else none
    |_=>none
   |_=>none
  |none=>none
 |_,_=>none
noncomputable def wm(h:Heap)(base:Nat)(e:Env)(z:List Value)(x:Operand):Option ct:=match evQ h e x with
 |some (.slice a n _)=>
  bif Nat.beq n 0 then some (.val (.tuple #[]) h)else
  match a with
  |none=>some (.val (.tuple #[]) h)
  |some ⟨b,o,none⟩=>match lu h b with
   |some (.cells vs true sz)=>bif Nat.ble (o+bR (eN n z)) (bR vs)&&eM (eN n z)then some (.val (.tuple #[]) (wrQ h base b (.cells (cD vs o (eN n z)) true sz)))else none
   |_=>none
  |_=>none
 |_=>none
noncomputable def sP(h:Heap)(base:Nat)(e:Env)(mx:Bool)(args:List Operand):Option ct:=match za h e args with
 |some (x::l)=>cg (mmA mx x l) fun v=>some (.val v h)
 |_=>none
noncomputable def tS(h:Heap)(base:Nat)(e:Env)(ag:Bool)(ls:List dO)(m:Operand)(k:Operand):Option ct:=match evQ h e m,evQ h e k with
 |some (.map (some r)),some k=>match lu h r with
  |some (.map es)=>bif oQ ag ls k then match ve ag ls k 0 es with
   |some (some (i,_))=>some (.val (.tuple #[]) (wrQ h base r (.map (yK es i))))
   |some none=>some (.val (.tuple #[]) (wrQ h base r (.map es)))
   |none=>none else none
  |_=>none
 |some (.map none),some k=>bif oQ ag ls k then some (.val (.tuple #[]) h)else none
 |_,_=>none
noncomputable def Ar(h:Heap)(base:Nat)(e:Env)(f:Operand)(args:List Operand):Option ct:=match evQ h e f,za h e args with
 |some (.func (.func g) first cap),some args=>some (.ja (.func (.func g) first cap) args)
 |_,_=>none
noncomputable def qU(h:Heap)(base:Nat)(e:Env):Option ct:=some .recover
noncomputable def Aq(h:Heap)(base:Nat)(e:Env)(x:Operand):Option ct:=cg (evQ h e x) fun v=>match v with
 | .iface _ _=>some (.panic v h)
 |_=>none
noncomputable def wU(h:Heap)(base:Nat)(e:Env)(x:Operand):Option ct:=match evQ h e x with
 |some (.string s)=>some (.val (.pointer (some ⟨h.next,0,none⟩)) (h.push (.jQ s 0)))
 |_=>none
noncomputable def zL(h:Heap)(base:Nat)(e:Env):Operand→Bool→Option ct
 |x,true=>match evQ h e x with
  |some (.pointer (some ⟨r,0,none⟩))=>match lu h r with
   |some (.jQ s pos)=>bif Nat.blt pos s.size then
    let d:=Utf8.decode s pos
    some (.val (.tuple #[.bool true, .int .i64 pos, .int .i32 d.1]) (wrQ h base r (.jQ s (pos+d.2))))
    else some (.val (.tuple #[.bool false]) h)
   |_=>none
  |_=>none
 |_,false=>none
noncomputable def ue(h:Heap)(base:Nat)(e:Env)(_:Operand):Option ct:=none
noncomputable def vu(h:Heap)(base:Nat)(e:Env)(_:Operand):Option ct:=none
noncomputable def Md(x0:Operand)(h:Heap)(base:Nat)(e:Env):Option ct:=DC h base e x0
noncomputable def Kv(x0:Operand)(x1:Operand)(x2:Operand)(h:Heap)(base:Nat)(e:Env):Option ct:=zw h base e x0 x1 x2
noncomputable def LZ(x0:List Value)(h:Heap)(base:Nat)(e:Env):Option ct:=DG h base e x0
noncomputable def MZ(x0:Operand)(h:Heap)(base:Nat)(e:Env):Option ct:=Gj h base e x0
noncomputable def Iz(x0:List Value)(x1:List (Nat×Nat×Operand))(h:Heap)(base:Nat)(e:Env):Option ct:=wN h base e x0 x1
noncomputable def G7(x0:List Value)(x1:Nat)(x2:List (Nat×Nat×Operand))(h:Heap)(base:Nat)(e:Env):Option ct:=tX h base e x0 x1 x2
noncomputable def LG(x0:Option Nat)(x1:Operand)(h:Heap)(base:Nat)(e:Env):Option ct:=zP h base e x0 x1
noncomputable def IC(x0:Nat)(x1:Operand)(x2:Operand)(h:Heap)(base:Nat)(e:Env):Option ct:=xg h base e x0 x1 x2
noncomputable def Du(x0:Operand)(h:Heap)(base:Nat)(e:Env):Option ct:=tE h base e x0
noncomputable def Mp(x0:Ct)(x1:Operand)(x2:Operand)(h:Heap)(base:Nat)(e:Env):Option ct:=GW h base e x0 x1 x2
noncomputable def NZ(x0:UnOp)(x1:Operand)(h:Heap)(base:Nat)(e:Env):Option ct:=Lr h base e x0 x1
noncomputable def J1(x0:Cv)(x1:Operand)(h:Heap)(base:Nat)(e:Env):Option ct:=Av h base e x0 x1
noncomputable def CR(x0:TypeId)(x1:Operand)(h:Heap)(base:Nat)(e:Env):Option ct:=qA h base e x0 x1
noncomputable def E4(x0:Fn)(x1:List Operand)(x2:List Operand)(h:Heap)(base:Nat)(e:Env):Option ct:=sK h base e x0 x1 x2
noncomputable def Hy(h:Heap)(base:Nat)(e:Env):Option ct:=wB h base e
noncomputable def BL(x0:List Value)(x1:Nat)(x2:Operand)(x3:Operand)(h:Heap)(base:Nat)(e:Env):Option ct:=qT h base e x0 x1 x2 x3
noncomputable def IP(x0:ASl)(x1:Operand)(x2:Option Operand)(x3:Option Operand)(x4:Option Operand)(h:Heap)(base:Nat)(e:Env):Option ct:=wj h base e x0 x1 x2 x3 x4
noncomputable def IU(x0:Nat)(x1:Operand)(h:Heap)(base:Nat)(e:Env):Option ct:=wH h base e x0 x1
noncomputable def HV(x0:Nat)(x1:Option Nat)(x2:Operand)(h:Heap)(base:Nat)(e:Env):Option ct:=we h base e x0 x1 x2
noncomputable def Dn(x0:Nat)(x1:Nat)(x2:Operand)(x3:Operand)(h:Heap)(base:Nat)(e:Env):Option ct:=tM h base e x0 x1 x2 x3
noncomputable def Dw(x0:Nat)(x1:Operand)(x2:Operand)(h:Heap)(base:Nat)(e:Env):Option ct:=si h base e x0 x1 x2
noncomputable def KH(x0:Nat)(x1:Nat)(x2:Option Nat)(x3:Operand)(x4:Operand)(h:Heap)(base:Nat)(e:Env):Option ct:=zM h base e x0 x1 x2 x3 x4
noncomputable def J6(x0:Operand)(x1:Operand)(h:Heap)(base:Nat)(e:Env):Option ct:=zI h base e x0 x1
noncomputable def F9(x0:Bool)(x1:List dO)(x2:Value)(x3:Bool)(x4:Operand)(x5:Operand)(h:Heap)(base:Nat)(e:Env):Option ct:=sL h base e x0 x1 x2 x3 x4 x5
noncomputable def II(x0:Bool)(x1:List dO)(x2:Operand)(x3:Operand)(x4:Operand)(h:Heap)(base:Nat)(e:Env):Option ct:=vE h base e x0 x1 x2 x3 x4
noncomputable def BH(x0:TypeId)(x1:Bool)(x2:Value)(x3:Operand)(h:Heap)(base:Nat)(e:Env):Option ct:=qD h base e x0 x1 x2 x3
noncomputable def B5(x0:Operand)(x1:Nat)(h:Heap)(base:Nat)(e:Env):Option ct:=qo h base e x0 x1
noncomputable def J3(x0:Operand)(x1:List Operand)(h:Heap)(base:Nat)(e:Env):Option ct:=zC h base e x0 x1
noncomputable def MO(x0:Nat)(x1:Operand)(h:Heap)(base:Nat)(e:Env):Option ct:=sg h base e x0 x1
noncomputable def D9(x0:Nat)(h:Heap)(base:Nat)(e:Env):Option ct:=td h base e x0
noncomputable def MF(x0:Operand)(h:Heap)(base:Nat)(e:Env):Option ct:=FB h base e x0
noncomputable def DO(x0:Nat)(x1:Nat)(x2:Operand)(x3:Operand)(h:Heap)(base:Nat)(e:Env):Option ct:=tC h base e x0 x1 x2 x3
noncomputable def BZ(x0:List Value)(x1:Nat)(x2:Operand)(x3:Operand)(h:Heap)(base:Nat)(e:Env):Option ct:=qG h base e x0 x1 x2 x3
noncomputable def Le(x0:Nat)(x1:Operand)(x2:Operand)(h:Heap)(base:Nat)(e:Env):Option ct:=Ap h base e x0 x1 x2
noncomputable def Hx(x0:List Value)(x1:Operand)(h:Heap)(base:Nat)(e:Env):Option ct:=wm h base e x0 x1
noncomputable def GA(x0:Bool)(x1:List Operand)(h:Heap)(base:Nat)(e:Env):Option ct:=sP h base e x0 x1
noncomputable def FQ(x0:Bool)(x1:List dO)(x2:Operand)(x3:Operand)(h:Heap)(base:Nat)(e:Env):Option ct:=tS h base e x0 x1 x2 x3
noncomputable def J8(x0:Operand)(x1:List Operand)(h:Heap)(base:Nat)(e:Env):Option ct:=Ar h base e x0 x1
noncomputable def Cp(h:Heap)(base:Nat)(e:Env):Option ct:=qU h base e
noncomputable def La(x0:Operand)(h:Heap)(base:Nat)(e:Env):Option ct:=Aq h base e x0
noncomputable def Hs(x0:Operand)(h:Heap)(base:Nat)(e:Env):Option ct:=wU h base e x0
noncomputable def Lc(x0:Operand)(x1:Bool)(h:Heap)(base:Nat)(e:Env):Option ct:=zL h base e x0 x1
noncomputable def DZ(x0:Operand)(h:Heap)(base:Nat)(e:Env):Option ct:=ue h base e x0
noncomputable def HD(x0:Operand)(h:Heap)(base:Nat)(e:Env):Option ct:=vu h base e x0
noncomputable def N6(o:AOp):Heap→Nat→Env→Option ct:=AOp.rec (motive:=fun _=>Heap→Nat→Env→Option ct) Md Kv LZ MZ Iz G7 LG IC Du Mp NZ J1 CR E4 Hy BL IP IU HV Dn Dw KH J6 F9 II BH B5 J3 MO D9 MF DO BZ Le Hx GA FQ J8 Cp La Hs Lc DZ HD o
noncomputable def zl(h:Heap)(base:Nat)(e:Env)(o:AOp):Option ct:=N6 o h base e
theorem jq:zl=aop:=by
 funext h base e o
 cases o
 case mov x0=>show DC h base e x0=_;first|rfl|(unfold DC;simp only[bF,bq,bh,bD,bg,aR,aN,bt,bK,bN,aW,aZ,aY,bP,aQ];rfl)
 case pick x0 x1 x2=>show zw h base e x0 x1 x2=_;first|rfl|(unfold zw;simp only[bF,bq,bh,bD,bg,aR,aN,bt,bK,bN,aW,aZ,aY,bP,aQ];rfl)
 case new x0=>show DG h base e x0=_;first|rfl|(unfold DG;simp only[bF,bq,bh,bD,bg,aR,aN,bt,bK,bN,aW,aZ,aY,bP,aQ];rfl)
 case box x0=>show Gj h base e x0=_;first|rfl|(unfold Gj;simp only[bF,bq,bh,bD,bg,aR,aN,bt,bK,bN,aW,aZ,aY,bP,aQ];rfl)
 case build x0 x1=>show wN h base e x0 x1=_;first|rfl|(unfold wN;simp only[bF,bq,bh,bD,bg,aR,aN,bt,bK,bN,aW,aZ,aY,bP,aQ];rfl)
 case cW x0 x1 x2=>show tX h base e x0 x1 x2=_;first|rfl|(unfold tX;simp only[bF,bq,bh,bD,bg,aR,aN,bt,bK,bN,aW,aZ,aY,bP,aQ];rfl)
 case load x0 x1=>show zP h base e x0 x1=_;first|rfl|(unfold zP;simp only[bF,bq,bh,bD,bg,aR,aN,bt,bK,bN,aW,aZ,aY,bP,aQ];rfl)
 case store x0 x1 x2=>show xg h base e x0 x1 x2=_;first|rfl|(unfold xg;simp only[bF,bq,bh,bD,bg,aR,aN,bt,bK,bN,aW,aZ,aY,bP,aQ];rfl)
 case bU x0=>show tE h base e x0=_;first|rfl|(unfold tE;simp only[bF,bq,bh,bD,bg,aR,aN,bt,bK,bN,aW,aZ,aY,bP,aQ];rfl)
 case un x0 x1=>show Lr h base e x0 x1=_;first|rfl|(unfold Lr;simp only[bF,bq,bh,bD,bg,aR,aN,bt,bK,bN,aW,aZ,aY,bP,aQ];rfl)
 case conv x0 x1=>show Av h base e x0 x1=_;first|rfl|(unfold Av;simp only[bF,bq,bh,bD,bg,aR,aN,bt,bK,bN,aW,aZ,aY,bP,aQ];rfl)
 case hM x0 x1=>show qA h base e x0 x1=_;first|rfl|(unfold qA;simp only[bF,bq,bh,bD,bg,aR,aN,bt,bK,bN,aW,aZ,aY,bP,aQ];rfl)
 case ek x0 x1 x2=>show sK h base e x0 x1 x2=_;first|rfl|(unfold sK;simp only[bF,bq,bh,bD,bg,aR,aN,bt,bK,bN,aW,aZ,aY,bP,aQ];rfl)
 case mkMap=>show wB h base e=_;first|rfl|(unfold wB;simp only[bF,bq,bh,bD,bg,aR,aN,bt,bK,bN,aW,aZ,aY,bP,aQ];rfl)
 case mkSlice x0 x1 x2 x3=>show qT h base e x0 x1 x2 x3=_;first|rfl|(unfold qT;simp only[bF,bq,bh,bD,bg,aR,aN,bt,bK,bN,aW,aZ,aY,bP,aQ];rfl)
 case cS x0 x1=>show wH h base e x0 x1=_;first|rfl|(unfold wH;simp only[bF,bq,bh,bD,bg,aR,aN,bt,bK,bN,aW,aZ,aY,bP,aQ];rfl)
 case field x0 x1 x2=>show we h base e x0 x1 x2=_;first|rfl|(unfold we;simp only[bF,bq,bh,bD,bg,aR,aN,bt,bK,bN,aW,aZ,aY,bP,aQ];rfl)
 case cu x0 x1 x2 x3=>show tM h base e x0 x1 x2 x3=_;first|rfl|(unfold tM;simp only[bF,bq,bh,bD,bg,aR,aN,bt,bK,bN,aW,aZ,aY,bP,aQ];rfl)
 case aT x0 x1 x2=>show si h base e x0 x1 x2=_;first|rfl|(unfold si;simp only[bF,bq,bh,bD,bg,aR,aN,bt,bK,bN,aW,aZ,aY,bP,aQ];rfl)
 case qE x0 x1 x2 x3 x4=>show zM h base e x0 x1 x2 x3 x4=_;first|rfl|(unfold zM;simp only[bF,bq,bh,bD,bg,aR,aN,bt,bK,bN,aW,aZ,aY,bP,aQ];rfl)
 case iM x0 x1=>show zI h base e x0 x1=_;first|rfl|(unfold zI;simp only[bF,bq,bh,bD,bg,aR,aN,bt,bK,bN,aW,aZ,aY,bP,aQ];rfl)
 case lookup x0 x1 x2 x3 x4 x5=>show sL h base e x0 x1 x2 x3 x4 x5=_;first|rfl|(unfold sL;simp only[bF,bq,bh,bD,bg,aR,aN,bt,bK,bN,aW,aZ,aY,bP,aQ];rfl)
 case ny x0 x1 x2 x3 x4=>show vE h base e x0 x1 x2 x3 x4=_;first|rfl|(unfold vE;simp only[bF,bq,bh,bD,bg,aR,aN,bt,bK,bN,aW,aZ,aY,bP,aQ];rfl)
 case jr x0 x1 x2 x3=>show qD h base e x0 x1 x2 x3=_;first|rfl|(unfold qD;simp only[bF,bq,bh,bD,bg,aR,aN,bt,bK,bN,aW,aZ,aY,bP,aQ];rfl)
 case extract x0 x1=>show qo h base e x0 x1=_;first|rfl|(unfold qo;simp only[bF,bq,bh,bD,bg,aR,aN,bt,bK,bN,aW,aZ,aY,bP,aQ];rfl)
 case call x0 x1=>show zC h base e x0 x1=_;first|rfl|(unfold zC;simp only[bF,bq,bh,bD,bg,aR,aN,bt,bK,bN,aW,aZ,aY,bP,aQ];rfl)
 case jm x0=>show td h base e x0=_;first|rfl|(unfold td;simp only[bF,bq,bh,bD,bg,aR,aN,bt,bK,bN,aW,aZ,aY,bP,aQ];rfl)
 case cap x0=>show FB h base e x0=_;first|rfl|(unfold FB;simp only[bF,bq,bh,bD,bg,aR,aN,bt,bK,bN,aW,aZ,aY,bP,aQ];rfl)
 case append x0 x1 x2 x3=>show tC h base e x0 x1 x2 x3=_;first|rfl|(unfold tC;simp only[bF,bq,bh,bD,bg,aR,aN,bt,bK,bN,aW,aZ,aY,bP,aQ];rfl)
 case jt x0 x1 x2 x3=>show qG h base e x0 x1 x2 x3=_;first|rfl|(unfold qG;simp only[bF,bq,bh,bD,bg,aR,aN,bt,bK,bN,aW,aZ,aY,bP,aQ];rfl)
 case copy x0 x1 x2=>show Ap h base e x0 x1 x2=_;first|rfl|(unfold Ap;simp only[bF,bq,bh,bD,bg,aR,aN,bt,bK,bN,aW,aZ,aY,bP,aQ];rfl)
 case clear x0 x1=>show wm h base e x0 x1=_;first|rfl|(unfold wm;simp only[bF,bq,bh,bD,bg,aR,aN,bt,bK,bN,aW,aZ,aY,bP,aQ];rfl)
 case dM x0 x1=>show sP h base e x0 x1=_;first|rfl|(unfold sP;simp only[bF,bq,bh,bD,bg,aR,aN,bt,bK,bN,aW,aZ,aY,bP,aQ];rfl)
 case delete x0 x1 x2 x3=>show tS h base e x0 x1 x2 x3=_;first|rfl|(unfold tS;simp only[bF,bq,bh,bD,bg,aR,aN,bt,bK,bN,aW,aZ,aY,bP,aQ];rfl)
 case ja x0 x1=>show Ar h base e x0 x1=_;first|rfl|(unfold Ar;simp only[bF,bq,bh,bD,bg,aR,aN,bt,bK,bN,aW,aZ,aY,bP,aQ];rfl)
 case recover=>show qU h base e=_;first|rfl|(unfold qU;simp only[bF,bq,bh,bD,bg,aR,aN,bt,bK,bN,aW,aZ,aY,bP,aQ];rfl)
 case qQ x0=>show Aq h base e x0=_;first|rfl|(unfold Aq;simp only[bF,bq,bh,bD,bg,aR,aN,bt,bK,bN,aW,aZ,aY,bP,aQ];rfl)
 case range x0=>show wU h base e x0=_;first|rfl|(unfold wU;simp only[bF,bq,bh,bD,bg,aR,aN,bt,bK,bN,aW,aZ,aY,bP,aQ];rfl)
 case kW x0=>show ue h base e x0=_;first|rfl|(unfold ue;simp only[bF,bq,bh,bD,bg,aR,aN,bt,bK,bN,aW,aZ,aY,bP,aQ];rfl)
 case entry x0=>show vu h base e x0=_;first|rfl|(unfold vu;simp only[bF,bq,bh,bD,bg,aR,aN,bt,bK,bN,aW,aZ,aY,bP,aQ];rfl)
 case bin op x y=>show GW h base e op x y=_;cases op<;>(simp only[GW,aop,bF,bq,bh,bD,bg,aR,aN,bt,bK,bN,aW,aZ,aY,bP,aQ];first|done|rfl)
 case slice k x lo hi mx=>show wj h base e k x lo hi mx=_;cases k<;>cases mx<;>(simp only[wj,aop,bF,bq,bh,bD,bg,aR,aN,bt,bK,bN,aW,aZ,aY,bP,aQ];first|done|rfl)
 case len k x=>
  match k with
  |0=>show sg h base e 0 x=_;simp only[sg,aop,bF,bq,bh,bD,bg,aR,aN,bt,bK,bN,aW,aZ,aY,bP,aQ];first|done|rfl
  |1=>show sg h base e 1 x=_;simp only[sg,aop,bF,bq,bh,bD,bg,aR,aN,bt,bK,bN,aW,aZ,aY,bP,aQ];first|done|rfl
  |k+2=>show sg h base e (k+2) x=_;simp only[sg,aop,bF,bq,bh,bD,bg,aR,aN,bt,bK,bN,aW,aZ,aY,bP,aQ];first|done|rfl
 case next x s=>show zL h base e x s=_;cases s<;>(simp only[zL,aop,bF,bq,bh,bD,bg,aR,aN,bt,bK,bN,aW,aZ,aY,bP,aQ];first|done|rfl)
end Go.A
end
section
namespace Go.A
def Nr(x0:Operand):List Operand:=cB (.mov x0)
def Km(x0:Operand)(x1:Operand)(x2:Operand):List Operand:=cB (.pick x0 x1 x2)
def MV(x0:List Value):List Operand:=cB (.new x0)
def MW(x0:Operand):List Operand:=cB (.box x0)
def Ib(x0:List Value)(x1:List (Nat×Nat×Operand)):List Operand:=cB (.build x0 x1)
def DI(x0:List Value)(x1:Nat)(x2:List (Nat×Nat×Operand)):List Operand:=cB (.cW x0 x1 x2)
def Kn(x0:Option Nat)(x1:Operand):List Operand:=cB (.load x0 x1)
def Jj(x0:Nat)(x1:Operand)(x2:Operand):List Operand:=cB (.store x0 x1 x2)
def Dm(x0:Operand):List Operand:=cB (.bU x0)
def Ny(x0:Ct)(x1:Operand)(x2:Operand):List Operand:=cB (.bin x0 x1 x2)
def OH(x0:UnOp)(x1:Operand):List Operand:=cB (.un x0 x1)
def Lv(x0:Cv)(x1:Operand):List Operand:=cB (.conv x0 x1)
def CF(x0:TypeId)(x1:Operand):List Operand:=cB (.hM x0 x1)
def DS(x0:Fn)(x1:List Operand)(x2:List Operand):List Operand:=cB (.ek x0 x1 x2)
def HU:List Operand:=cB (.mkMap)
def CZ(x0:List Value)(x1:Nat)(x2:Operand)(x3:Operand):List Operand:=cB (.mkSlice x0 x1 x2 x3)
def HR(x0:ASl)(x1:Operand)(x2:Option Operand)(x3:Option Operand)(x4:Option Operand):List Operand:=cB (.slice x0 x1 x2 x3 x4)
def IK(x0:Nat)(x1:Operand):List Operand:=cB (.cS x0 x1)
def Hw(x0:Nat)(x1:Option Nat)(x2:Operand):List Operand:=cB (.field x0 x1 x2)
def DT(x0:Nat)(x1:Nat)(x2:Operand)(x3:Operand):List Operand:=cB (.cu x0 x1 x2 x3)
def Ey(x0:Nat)(x1:Operand)(x2:Operand):List Operand:=cB (.aT x0 x1 x2)
def KN(x0:Nat)(x1:Nat)(x2:Option Nat)(x3:Operand)(x4:Operand):List Operand:=cB (.qE x0 x1 x2 x3 x4)
def LD(x0:Operand)(x1:Operand):List Operand:=cB (.iM x0 x1)
def Gq(x0:Bool)(x1:List dO)(x2:Value)(x3:Bool)(x4:Operand)(x5:Operand):List Operand:=cB (.lookup x0 x1 x2 x3 x4 x5)
def Ir(x0:Bool)(x1:List dO)(x2:Operand)(x3:Operand)(x4:Operand):List Operand:=cB (.ny x0 x1 x2 x3 x4)
def BM(x0:TypeId)(x1:Bool)(x2:Value)(x3:Operand):List Operand:=cB (.jr x0 x1 x2 x3)
def Cn(x0:Operand)(x1:Nat):List Operand:=cB (.extract x0 x1)
def Kb(x0:Operand)(x1:List Operand):List Operand:=cB (.call x0 x1)
def LH(x0:Nat)(x1:Operand):List Operand:=cB (.len x0 x1)
def GZ(x0:Nat):List Operand:=cB (.jm x0)
def Na(x0:Operand):List Operand:=cB (.cap x0)
def DP(x0:Nat)(x1:Nat)(x2:Operand)(x3:Operand):List Operand:=cB (.append x0 x1 x2 x3)
def BI(x0:List Value)(x1:Nat)(x2:Operand)(x3:Operand):List Operand:=cB (.jt x0 x1 x2 x3)
def Ka(x0:Nat)(x1:Operand)(x2:Operand):List Operand:=cB (.copy x0 x1 x2)
def Jc(x0:List Value)(x1:Operand):List Operand:=cB (.clear x0 x1)
def E7(x0:Bool)(x1:List Operand):List Operand:=cB (.dM x0 x1)
def Fp(x0:Bool)(x1:List dO)(x2:Operand)(x3:Operand):List Operand:=cB (.delete x0 x1 x2 x3)
def Li(x0:Operand)(x1:List Operand):List Operand:=cB (.ja x0 x1)
def CA:List Operand:=cB (.recover)
def JS(x0:Operand):List Operand:=cB (.qQ x0)
def HB(x0:Operand):List Operand:=cB (.range x0)
def JT(x0:Operand)(x1:Bool):List Operand:=cB (.next x0 x1)
def Fx(x0:Operand):List Operand:=cB (.kW x0)
def HQ(x0:Operand):List Operand:=cB (.entry x0)
noncomputable def wF(o:AOp):List Operand:=AOp.rec (motive:=fun _=>List Operand) Nr Km MV MW Ib DI Kn Jj Dm Ny OH Lv CF DS HU CZ HR IK Hw DT Ey KN LD Gq Ir BM Cn Kb LH GZ Na DP BI Ka Jc E7 Fp Li CA JS HB JT Fx HQ o
theorem AA:wF=cB:=by funext o;cases o<;>rfl
def Nf(x0:Operand):Bool:=bY (.mov x0)
def Kz(x0:Operand)(x1:Operand)(x2:Operand):Bool:=bY (.pick x0 x1 x2)
def L7(x0:List Value):Bool:=bY (.new x0)
def Mq(x0:Operand):Bool:=bY (.box x0)
def HK(x0:List Value)(x1:List (Nat×Nat×Operand)):Bool:=bY (.build x0 x1)
def Ec(x0:List Value)(x1:Nat)(x2:List (Nat×Nat×Operand)):Bool:=bY (.cW x0 x1 x2)
def Ky(x0:Option Nat)(x1:Operand):Bool:=bY (.load x0 x1)
def Is(x0:Nat)(x1:Operand)(x2:Operand):Bool:=bY (.store x0 x1 x2)
def Eg(x0:Operand):Bool:=bY (.bU x0)
def Ml(x0:Ct)(x1:Operand)(x2:Operand):Bool:=bY (.bin x0 x1 x2)
def Pg(x0:UnOp)(x1:Operand):Bool:=bY (.un x0 x1)
def Ko(x0:Cv)(x1:Operand):Bool:=bY (.conv x0 x1)
def CT(x0:TypeId)(x1:Operand):Bool:=bY (.hM x0 x1)
def GC(x0:Fn)(x1:List Operand)(x2:List Operand):Bool:=bY (.ek x0 x1 x2)
def Jb:Bool:=bY (.mkMap)
def Ci(x0:List Value)(x1:Nat)(x2:Operand)(x3:Operand):Bool:=bY (.mkSlice x0 x1 x2 x3)
def Hz(x0:ASl)(x1:Operand)(x2:Option Operand)(x3:Option Operand)(x4:Option Operand):Bool:=bY (.slice x0 x1 x2 x3 x4)
def Jh(x0:Nat)(x1:Operand):Bool:=bY (.cS x0 x1)
def I8(x0:Nat)(x1:Option Nat)(x2:Operand):Bool:=bY (.field x0 x1 x2)
def EX(x0:Nat)(x1:Nat)(x2:Operand)(x3:Operand):Bool:=bY (.cu x0 x1 x2 x3)
def DN(x0:Nat)(x1:Operand)(x2:Operand):Bool:=bY (.aT x0 x1 x2)
def Lp(x0:Nat)(x1:Nat)(x2:Option Nat)(x3:Operand)(x4:Operand):Bool:=bY (.qE x0 x1 x2 x3 x4)
def Lw(x0:Operand)(x1:Operand):Bool:=bY (.iM x0 x1)
def EJ(x0:Bool)(x1:List dO)(x2:Value)(x3:Bool)(x4:Operand)(x5:Operand):Bool:=bY (.lookup x0 x1 x2 x3 x4 x5)
def IS(x0:Bool)(x1:List dO)(x2:Operand)(x3:Operand)(x4:Operand):Bool:=bY (.ny x0 x1 x2 x3 x4)
def BP(x0:TypeId)(x1:Bool)(x2:Value)(x3:Operand):Bool:=bY (.jr x0 x1 x2 x3)
def CI(x0:Operand)(x1:Nat):Bool:=bY (.extract x0 x1)
def KP(x0:Operand)(x1:List Operand):Bool:=bY (.call x0 x1)
def MC(x0:Nat)(x1:Operand):Bool:=bY (.len x0 x1)
def Dk(x0:Nat):Bool:=bY (.jm x0)
def Nx(x0:Operand):Bool:=bY (.cap x0)
def G4(x0:Nat)(x1:Nat)(x2:Operand)(x3:Operand):Bool:=bY (.append x0 x1 x2 x3)
def CK(x0:List Value)(x1:Nat)(x2:Operand)(x3:Operand):Bool:=bY (.jt x0 x1 x2 x3)
def Kr(x0:Nat)(x1:Operand)(x2:Operand):Bool:=bY (.copy x0 x1 x2)
def Iq(x0:List Value)(x1:Operand):Bool:=bY (.clear x0 x1)
def Ed(x0:Bool)(x1:List Operand):Bool:=bY (.dM x0 x1)
def Gz(x0:Bool)(x1:List dO)(x2:Operand)(x3:Operand):Bool:=bY (.delete x0 x1 x2 x3)
def Kf(x0:Operand)(x1:List Operand):Bool:=bY (.ja x0 x1)
def CY:Bool:=bY (.recover)
def JL(x0:Operand):Bool:=bY (.qQ x0)
def It(x0:Operand):Bool:=bY (.range x0)
def KF(x0:Operand)(x1:Bool):Bool:=bY (.next x0 x1)
def Fs(x0:Operand):Bool:=bY (.kW x0)
def ID(x0:Operand):Bool:=bY (.entry x0)
noncomputable def A0(o:AOp):Bool:=AOp.rec (motive:=fun _=>Bool) Nf Kz L7 Mq HK Ec Ky Is Eg Ml Pg Ko CT GC Jb Ci Hz Jh I8 EX DN Lp Lw EJ IS BP CI KP MC Dk Nx G4 CK Kr Iq Ed Gz Kf CY JL It KF Fs ID o
theorem zm:A0=bY:=by funext o;cases o<;>rfl
def Nk(x0:Operand):Bool:=cT (.mov x0)
def KJ(x0:Operand)(x1:Operand)(x2:Operand):Bool:=cT (.pick x0 x1 x2)
def M5(x0:List Value):Bool:=cT (.new x0)
def Ma(x0:Operand):Bool:=cT (.box x0)
def HA(x0:List Value)(x1:List (Nat×Nat×Operand)):Bool:=cT (.build x0 x1)
def Es(x0:List Value)(x1:Nat)(x2:List (Nat×Nat×Operand)):Bool:=cT (.cW x0 x1 x2)
def Ku(x0:Option Nat)(x1:Operand):Bool:=cT (.load x0 x1)
def HT(x0:Nat)(x1:Operand)(x2:Operand):Bool:=cT (.store x0 x1 x2)
def Gf(x0:Operand):Bool:=cT (.bU x0)
def Nq(x0:Ct)(x1:Operand)(x2:Operand):Bool:=cT (.bin x0 x1 x2)
def NO(x0:UnOp)(x1:Operand):Bool:=cT (.un x0 x1)
def Lh(x0:Cv)(x1:Operand):Bool:=cT (.conv x0 x1)
def CC(x0:TypeId)(x1:Operand):Bool:=cT (.hM x0 x1)
def Ef(x0:Fn)(x1:List Operand)(x2:List Operand):Bool:=cT (.ek x0 x1 x2)
def IW:Bool:=cT (.mkMap)
def C7(x0:List Value)(x1:Nat)(x2:Operand)(x3:Operand):Bool:=cT (.mkSlice x0 x1 x2 x3)
def Ji(x0:ASl)(x1:Operand)(x2:Option Operand)(x3:Option Operand)(x4:Option Operand):Bool:=cT (.slice x0 x1 x2 x3 x4)
def Hl(x0:Nat)(x1:Operand):Bool:=cT (.cS x0 x1)
def HI(x0:Nat)(x1:Option Nat)(x2:Operand):Bool:=cT (.field x0 x1 x2)
def GX(x0:Nat)(x1:Nat)(x2:Operand)(x3:Operand):Bool:=cT (.cu x0 x1 x2 x3)
def ET(x0:Nat)(x1:Operand)(x2:Operand):Bool:=cT (.aT x0 x1 x2)
def JQ(x0:Nat)(x1:Nat)(x2:Option Nat)(x3:Operand)(x4:Operand):Bool:=cT (.qE x0 x1 x2 x3 x4)
def K3(x0:Operand)(x1:Operand):Bool:=cT (.iM x0 x1)
def Fu(x0:Bool)(x1:List dO)(x2:Value)(x3:Bool)(x4:Operand)(x5:Operand):Bool:=cT (.lookup x0 x1 x2 x3 x4 x5)
def IY(x0:Bool)(x1:List dO)(x2:Operand)(x3:Operand)(x4:Operand):Bool:=cT (.ny x0 x1 x2 x3 x4)
def C9(x0:TypeId)(x1:Bool)(x2:Value)(x3:Operand):Bool:=cT (.jr x0 x1 x2 x3)
def BK(x0:Operand)(x1:Nat):Bool:=cT (.extract x0 x1)
def K6(x0:Operand)(x1:List Operand):Bool:=cT (.call x0 x1)
def LJ(x0:Nat)(x1:Operand):Bool:=cT (.len x0 x1)
def GI(x0:Nat):Bool:=cT (.jm x0)
def Ni(x0:Operand):Bool:=cT (.cap x0)
def EH(x0:Nat)(x1:Nat)(x2:Operand)(x3:Operand):Bool:=cT (.append x0 x1 x2 x3)
def CS(x0:List Value)(x1:Nat)(x2:Operand)(x3:Operand):Bool:=cT (.jt x0 x1 x2 x3)
def Ls(x0:Nat)(x1:Operand)(x2:Operand):Bool:=cT (.copy x0 x1 x2)
def IB(x0:List Value)(x1:Operand):Bool:=cT (.clear x0 x1)
def G9(x0:Bool)(x1:List Operand):Bool:=cT (.dM x0 x1)
def Gw(x0:Bool)(x1:List dO)(x2:Operand)(x3:Operand):Bool:=cT (.delete x0 x1 x2 x3)
def JM(x0:Operand)(x1:List Operand):Bool:=cT (.ja x0 x1)
def CH:Bool:=cT (.recover)
def LA(x0:Operand):Bool:=cT (.qQ x0)
def IX(x0:Operand):Bool:=cT (.range x0)
def Kl(x0:Operand)(x1:Bool):Bool:=cT (.next x0 x1)
def Dj(x0:Operand):Bool:=cT (.kW x0)
def Ij(x0:Operand):Bool:=cT (.entry x0)
noncomputable def zq(o:AOp):Bool:=AOp.rec (motive:=fun _=>Bool) Nk KJ M5 Ma HA Es Ku HT Gf Nq NO Lh CC Ef IW C7 Ji Hl HI GX ET JQ K3 Fu IY C9 BK K6 LJ GI Ni EH CS Ls IB G9 Gw JM CH LA IX Kl Dj Ij o
theorem gK:zq=cT:=by funext o;cases o<;>rfl
noncomputable def wP(o:AOp):Bool:=A0 o||zq o
theorem gi:wP=iT:=by funext o;simp only[wP,iT,zm,gK]
noncomputable def jU(o:bk):List Nat:=
 match o.guard with
 |some (t,_)=>t::uF (wF o.op)
 |none=>uF (wF o.op)
theorem gG:jU=cF:=by funext o;unfold jU cF;simp only[AA];rfl
noncomputable def oW:List Value→List Value→Bool
 |[],[]=>true
 |x::xs,y::ys=>bif xe x y then oW xs ys else false
 |_,_=>false
noncomputable def Ay:Value→Value→Bool
 | .agg a, .agg b=>oW a.toList b.toList
 | .tuple a, .tuple b=>oW a.toList b.toList
 | .func (.func f) a' a, .func (.func g) b' b=>f==g&&(oW a'.toList b'.toList&&oW a.toList b.toList)
 |x,y=>xe x y
noncomputable def Bh(h:Heap)(base:Nat)(r:Rec):Bool:=
 match r.k with
 | .quiet=>match zl h base r.e r.o.op with
   |some (.val v' h2)=>Ay r.v v'&&Nat.beq h2.next h.next
   |_=>false
 |_=>true
noncomputable def vQ(h:Heap)(base:Nat):List Rec→Bool
 |[]=>true
 |r::rs=>bif Bh h base r then vQ h base rs else false
noncomputable def iG(h:Heap)(base:Nat)(log:List Nat)(mask:Nat):List Rec→Option (List Rec)
 |[]=>some []
 |r::rs=>bif Nat.testBit mask r.i then iG h base log mask rs else
  bif Bh h base r&&Cr log r then match iG h base log mask rs with
   |some rs'=>some (r::rs')
   |none=>none
  else none
theorem Cf:oW=kG:=by
 funext a
 induction a with
 |nil=>funext b;cases b<;>rfl
 |cons x a ih=>funext b;cases b<;>first|rfl|(simp only[oW,kG,uq,ih])
theorem B8:Ay=iO:=by
 funext a b
 unfold Ay iO
 simp only[Cf,uq]
 first|done|rfl
theorem xZ:Bh=oM:=by
 funext h base r
 unfold Bh oM
 simp only[jq,B8]
 first|done|rfl
theorem gX:vQ=lN:=by
 funext h base rs
 induction rs with
 |nil=>rfl
 |cons r rs ih=>simp only[vQ,lN,xZ,ih]
theorem eH:iG=bI:=by
 funext h base log mask rs
 induction rs with
 |nil=>rfl
 |cons r rs ih=>simp only[iG,bI,xZ,ih];first|done|rfl
noncomputable def DB(T:Nat→Option ak)(F:Fam)(base:Nat)(rnd:Option Nat)(ops:List bk)(it:Nat)(x:Operand)(keep:List Nat)(out nxt pr:Nat)(ops2:List bk)(k2:List Nat)(body:aX)(e:Env)(ds:Dfs)(h:Heap):Option (bw×Env×Dfs×Heap):=match F.ops base rnd ops e ds h with
 |some (.normal,e0,ds0,h0)=>match ds0 with
  |_::_=>none
  |[]=>match evQ h0 e0 x with
   |some (.map none)=>some (.normal,jD e0 keep,[],h0)
   |some (.map (some m))=>match lu h0 m with
    |some (.map es)=>CE out (jD e0 keep) h0 (nq (fun e h=>F.ops (h0.next+1) rnd ops2 e [] h) (fun e h=>F.exec (h0.next+1) rnd body e [] h) nxt pr k2 (itE it h0 (jD e0 keep)) (jD e0 keep) ((roM h0 m es).push .dead) es)
    |_=>none
   |_=>none
 |r=>r
noncomputable def yW(T:Nat→Option ak)(F:Fam)(base:Nat)(rnd:Option Nat)(f:Operand)(ps:List Nat)(asg body:aX)(e:Env)(ds:Dfs)(h:Heap):Option (bw×Env×Dfs×Heap):=bif mI h rnd then match evQ h e f with
 |some (.func (.func g) first cap)=>bif fT (T g)then none else
  match F.call g (dJ first.toList (dJ [.func (.yield h.next) #[] #[]] cap.toList)) {h.push (.loop e ps asg body 0 .normal)with log:=[]}with
  |some (.ret _,h2)=>match lu h2 h.next with
   |some (.loop _ _ _ _ st gP)=>bif Nat.beq st 1 then none else
    some (gP,e,ds,Heap.wr {h2 with log:=aB base h.log h2.log} base h.next .dead)
   |_=>none
  |some (.panic v,h2)=>some (.panic v,e,ds,{h2 with log:=aB base h.log h2.log})
  |none=>none
 |_=>none
 else none
noncomputable def yh(F:Fam)(l:Nat)(args:List Value)(h:Heap):Option (Res×Heap):=match lu h l with
 |some (.loop e ps asg body 0 .normal)=>match ia e ps args with
  |some e1=>match F.exec h.next (some l) asg e1 [] h with
   |some (.normal,e2,ds2,h2)=>bif notReady (lu h2 l)then none else match F.exec h.next (some l) body e2 ds2 {h2 with bM:=soQ h2.bM l (.loop e ps asg body 1 .normal)}with
    |some (.normal,_,_,h3)=>match lu h3 l with
     |some (.loop _ _ _ _ 1 _)=>some (.ret (.bool true),gcA h {h3 with bM:=soQ h3.bM l (.loop e ps asg body 0 .normal)} (.bool true))
     |_=>none
    |some (.exit i,_,_,h3)=>match lu h3 l with
     |some (.loop _ _ _ _ 1 _)=>some (.ret (.bool false),h3.wr h.next l (.loop e ps asg body 2 (.exit i)))
     |_=>none
    |some (.ret,_,_,h3)=>match lu h3 l with
     |some (.loop _ _ _ _ 1 _)=>some (.ret (.bool false),h3.wr h.next l (.loop e ps asg body 2 .ret))
     |_=>none
    |_=>none
   |_=>none
  |none=>none
 |_=>none
noncomputable def EY(T:Nat→Option ak)(F:Fam):Nat→Option Nat→aX→Env→Dfs→Heap→Option (bw×Env×Dfs×Heap):=fun base rnd c e ds h=>
 match c with
 | .skip=>some (.normal,e,ds,h)
 | .region ops keep=>match F.ops base rnd ops e ds h with
   |some (.normal,e',ds',h')=>some (.normal,jD e' keep,ds',h')
   |r=>r
 | .draw ops order before keep=>match F.draw base ops order before [] e h with
   |some (.normal,e',h')=>some (.normal,jD e' keep,ds,h')
   |some (x,e',h')=>some (x,e',ds,h')
   |none=>none
 | .seq a b=>match F.exec base rnd a e ds h with
   |some (.normal,e',ds',h')=>F.exec base rnd b e' ds' h'
   |r=>r
 | .cond c a b=>match evQ h e c with
   |some (.bool true)=>F.exec base rnd a e ds h
   |some (.bool false)=>F.exec base rnd b e ds h
   |_=>none
 | .block id b=>match F.exec base rnd b e ds h with
   |some (.exit i,e',ds',h')=>bif Nat.beq i id then some (.normal,e',ds',h')else some (.exit i,e',ds',h')
   |r=>r
 | .loop b=>match F.exec base rnd b e ds h with
   |some (.normal,e',ds',h')=>F.exec base rnd (.loop b) e' ds' h'
   |r=>r
 | .scope b=>F.exec base rnd b e ds h
 | .rangeFunc f ps asg body=>yW T F base rnd f ps asg body e ds h
 | .rangeMap ops it x keep out nxt pr ops2 k2 body=>DB T F base rnd ops it x keep out nxt pr ops2 k2 body e ds h
 | .exit id=>some (.exit id,e,ds,h)
 | .ret=>some (.ret,e,ds,h)
noncomputable def JC(T:Nat→Option ak)(F:Fam):Nat→Option Nat→List bk→Env→Dfs→Heap→Option (bw×Env×Dfs×Heap):=fun base rnd ops e ds h=>
 match ops with
 |[]=>some (.normal,e,ds,h)
 |o::os=>match pL e o.guard with
  |some false=>F.ops base rnd os (bZ e o.dst (.tuple #[])) ds h
  |some true=>match zl h base e o.op with
   |some (.val v h')=>F.ops base rnd os (bZ e o.dst v) ds h'
   |some (.call fn args h')=>match F.ij fn args {h' with log:=[]}with
    |some (.ret v,h2)=>F.ops base rnd os (bZ e o.dst v) ds {h2 with log:=aB base h'.log h2.log}
    |some (.panic v,h2)=>some (.panic v,e,ds,{h2 with log:=aB base h'.log h2.log})
    |none=>none
   |some (.ja f args)=>match rnd with|some _=>none|none=>F.ops base rnd os (bZ e o.dst (.tuple #[])) ((f,args)::ds) h
   |some (.panic v h')=>some (.panic v,e,ds,h')
   |_=>none
  |none=>none
noncomputable def GQ(T:Nat→Option ak)(F:Fam):Nat→List bk→List Nat→List Nat→List Rec→Env→Heap→Option (bw×Env×Heap):=fun base ops order before rs e h=>
 match order with
 |[]=>some (.normal,e,h)
 |i::is=>match cE ops i,cE before i with
  |some o,some mask=>
   match pL (jD e (jU o)) o.guard with
   |some false=>F.draw base ops is before (⟨i,o,jD e (jU o), .tuple #[], .skip⟩::rs) (bZ e o.dst (.tuple #[])) h
   |some true=>
    bif wP o.op then
     match zl h base (jD e (jU o)) o.op with
     |some (.val v h')=>
      bif zq o.op then
       bif vQ h' base rs then F.draw base ops is before (⟨i,o,jD e (jU o),v, .made h.next⟩::rs) (bZ e o.dst v) h' else none
      else bif Nat.beq h'.next h.next then F.draw base ops is before (⟨i,o,jD e (jU o),v, .quiet⟩::rs) (bZ e o.dst v) h
      else bif uz before i is then
       match zl {h with log:=[]} h.next (jD e (jU o)) o.op with
       |some (.val v h2)=>match iG {h2 with log:=aB base h.log h2.log} base h2.log mask rs with
        |some rs'=>F.draw base ops is before rs' (bZ e o.dst v) {h2 with log:=aB base h.log h2.log}
        |none=>none
       |_=>none
      else none
     |_=>none
    else
     match zl {h with log:=[]} h.next (jD e (jU o)) o.op with
     |some (.val v h2)=>match iG {h2 with log:=aB base h.log h2.log} base h2.log mask rs with
      |some rs'=>F.draw base ops is before rs' (bZ e o.dst v) {h2 with log:=aB base h.log h2.log}
      |none=>none
     |some (.call fn args _)=>match F.ij fn args {h with log:=[]}with
      |some (.ret v,h2)=>match iG {h2 with log:=aB base h.log h2.log} base h2.log mask rs with
       |some rs'=>F.draw base ops is before rs' (bZ e o.dst v) {h2 with log:=aB base h.log h2.log}
       |none=>none
      |some (.panic v,h2)=>some (.panic v,[],{h2 with log:=aB base h.log h2.log})
      |none=>none
     |_=>none
   |none=>none
  |_,_=>none
noncomputable def Bs(T:Nat→Option ak)(F:Fam):Fn→List Value→Heap→Option (Res×Heap):=fun fn args h=>
 match fn with
 | .func f=>F.call f args h
 | .yield l=>yh F l args h
 |_=>none
noncomputable def Gk(T:Nat→Option ak)(F:Fam):Nat→List Value→Heap→Option (Res×Heap):=fun f args h=>
 match T f with
 |none=>none
 |some (.jI p)=>match p args h with
  |some (v,h')=>some (.ret v,h')
  |none=>none
 |some (.code code results)=>match F.exec h.next none code (ez 0 args) [] h with
  |some (.panic v,e,ds,h1)=>F.unw results ds (some v) e h h1
  |some (.exit _,_,_,_)=>none
  |some (_,e,ds,h1)=>F.unw results ds none e h h1
  |none=>none
noncomputable def JE(T:Nat→Option ak)(F:Fam):List (Nat×Option (Option Nat))→Dfs→Option Value→Env→Heap→Heap→Option (Res×Heap):=fun results ds pan e h h1=>
 match ds with
 |[]=>match pan with
  |some v=>some (.panic v,h1)
  |none=>match DX h1 e results with
   |some vs=>some (.ret (fE vs),gcA h h1 (fE vs))
   |none=>none
 |(.func (.func g) first cap,args)::ds=>match F.defer g (dJ first.toList (dJ args cap.toList)) pan {h1 with log:=[]}with
  |some (pan',h2)=>F.unw results ds pan' e h {h2 with log:=aB h.next h1.log h2.log}
  |none=>none
 |_=>none
noncomputable def A9(T:Nat→Option ak)(F:Fam):Nat→List Value→Option Value→Heap→Option (Option Value×Heap):=fun g args pan h=>
 match T g with
 |some (.code code [])=>match F.fM h.next code (ez 0 args) pan h with
  |some (.normal,_,pan',h')=>some (pan',h')
  |some (.ret,_,pan',h')=>some (pan',h')
  |_=>none
 |_=>none
noncomputable def AZ(T:Nat→Option ak)(F:Fam):Nat→aX→Env→Option Value→Heap→Option (bw×Env×Option Value×Heap):=fun base c e pan h=>
 match c with
 | .skip=>some (.normal,e,pan,h)
 | .region ops keep=>match F.jo base ops e pan h with
   |some (.normal,e',pan',h')=>some (.normal,jD e' keep,pan',h')
   |r=>r
 | .seq a b=>match F.fM base a e pan h with
   |some (.normal,e',pan',h')=>F.fM base b e' pan' h'
   |r=>r
 | .cond c a b=>match evQ h e c with
   |some (.bool true)=>F.fM base a e pan h
   |some (.bool false)=>F.fM base b e pan h
   |_=>none
 | .ret=>some (.ret,e,pan,h)
 |_=>none
noncomputable def Ge(T:Nat→Option ak)(F:Fam):Nat→List bk→Env→Option Value→Heap→Option (bw×Env×Option Value×Heap):=fun base ops e pan h=>
 match ops with
 |[]=>some (.normal,e,pan,h)
 |o::os=>match pL e o.guard with
  |some false=>F.jo base os (bZ e o.dst (.tuple #[])) pan h
  |some true=>match zl h base e o.op with
   |some (.val v h')=>F.jo base os (bZ e o.dst v) pan h'
   |some .recover=>match pan with
    |some v=>F.jo base os (bZ e o.dst v) none h
    |none=>F.jo base os (bZ e o.dst .nilIface) none h
   |_=>none
  |none=>none
noncomputable def Fam.AL(T:Nat→Option ak)(F:Fam):Fam where
 exec:=EY T F
 ops:=JC T F
 draw:=GQ T F
 ij:=Bs T F
 call:=Gk T F
 unw:=JE T F
 defer:=A9 T F
 fM:=AZ T F
 jo:=Ge T F
noncomputable def nJ(T:Nat→Option ak)(n:Nat):Fam:=Nat.rec Fam.none (fun _ F=>Fam.AL T F) n
theorem Gb:Fam.AL=Fam.succ:=by
 funext T F
 unfold Fam.AL Fam.succ
 simp only[Fam.mk.injEq]
 refine⟨?_,?_,?_,?_,?_,?_,?_,?_,?_⟩
 ·funext x0 x1 x2 x3 x4 x5;unfold EY yW DB;first|rfl|(simp only[bF,bq,bt,bK,lp,iU,gr,jV,jl,jq,gX,eH,aW,gG,gi,gK];rfl)
 ·funext x0 x1 x2 x3 x4 x5;unfold JC;first|rfl|(simp only[bF,bq,bt,bK,lp,iU,gr,jV,jl,jq,gX,eH,aW,gG,gi,gK];rfl)
 ·funext x0 x1 x2 x3 x4 x5 x6;unfold GQ;first|rfl|(simp only[bF,bq,bt,bK,lp,iU,gr,jV,jl,jq,gX,eH,aW,gG,gi,gK];rfl)
 ·funext x0 x1 x2;unfold Bs yh;first|rfl|(simp only[bF,bq,bt,bK,lp,iU,gr,jV,jl,jq,gX,eH,aW,gG,gi,gK];rfl)
 ·funext x0 x1 x2;unfold Gk;first|rfl|(simp only[bF,bq,bt,bK,lp,iU,gr,jV,jl,jq,gX,eH,aW,gG,gi,gK];rfl)
 ·funext x0 x1 x2 x3 x4 x5;unfold JE;first|rfl|(simp only[bF,bq,bt,bK,lp,iU,gr,jV,jl,jq,gX,eH,aW,gG,gi,gK];rfl)
 ·funext x0 x1 x2 x3;unfold A9;first|rfl|(simp only[bF,bq,bt,bK,lp,iU,gr,jV,jl,jq,gX,eH,aW,gG,gi,gK];rfl)
 ·funext x0 x1 x2 x3 x4;unfold AZ;first|rfl|(simp only[bF,bq,bt,bK,lp,iU,gr,jV,jl,jq,gX,eH,aW,gG,gi,gK];rfl)
 ·funext x0 x1 x2 x3 x4;unfold Ge;first|rfl|(simp only[bF,bq,bt,bK,lp,iU,gr,jV,jl,jq,gX,eH,aW,gG,gi,gK];rfl)
theorem Ba(T:Nat→Option ak):∀n,nJ T n=fam T n
 |0=>rfl
 |n+1=>by
  show Fam.AL T (nJ T n)=Fam.succ T (fam T n)
  rw[Ba T n,Gb]
end Go.A
end
