/- The runs once more, for the kernel. -/
import Derived.Test.YtgffeapobcfigaaGreatDoorMA
set_option linter.all false
namespace Go.A
structure Fam where
 exec:Nat→Option Nat→aY→Env→Dfs→Heap→Option (bw×Env×Dfs×Heap)
 ops:Nat→Option Nat→List aW→Env→Dfs→Heap→Option (bw×Env×Dfs×Heap)
 draw:Nat→List aW→List Nat→List Nat→List Rec→Env→Heap→Option (bw×Env×Heap)
 iy:Fn→List Value→Heap→Option (Res×Heap)
 call:Nat→List Value→Heap→Option (Res×Heap)
 unw:List (Nat×Option (Option Nat))→Dfs→Option Value→Env→Heap→Heap→Option (Res×Heap)
 defer:Nat→List Value→Option Value→Heap→Option (Option Value×Heap)
 fI:Nat→aY→Env→Option Value→Heap→Option (bw×Env×Option Value×Heap)
 jF:Nat→List aW→Env→Option Value→Heap→Option (bw×Env×Option Value×Heap)
def Fam.none:Fam where
 exec:=fun _ _ _ _ _ _=> .none
 ops:=fun _ _ _ _ _ _=> .none
 draw:=fun _ _ _ _ _ _ _=> .none
 iy:=fun _ _ _=> .none
 call:=fun _ _ _=> .none
 unw:=fun _ _ _ _ _ _=> .none
 defer:=fun _ _ _ _=> .none
 fI:=fun _ _ _ _ _=> .none
 jF:=fun _ _ _ _ _=> .none
def LY(T:Nat→Option af)(F:Fam):Nat→Option Nat→aY→Env→Dfs→Heap→Option (bw×Env×Dfs×Heap):=fun base rnd c e ds h=>
    match c with
    | .skip=>some (.normal,e,ds,h)
    | .region ops keep=>match F.ops base rnd ops e ds h with
      |some (.normal,e',ds',h')=>some (.normal,bE e' keep,ds',h')
      |r=>r
    | .draw ops order before keep=>match F.draw base ops order before [] e h with
      |some (.normal,e',h')=>some (.normal,bE e' keep,ds,h')
      |some (x,e',h')=>some (x,e',ds,h')
      |none=>none
    | .seq a b=>match F.exec base rnd a e ds h with
      |some (.normal,e',ds',h')=>F.exec base rnd b e' ds' h'
      |r=>r
    | .cond c a b=>match ev h e c with
      |some (.bool true)=>F.exec base rnd a e ds h
      |some (.bool false)=>F.exec base rnd b e ds h
      |_=>none
    | .block id b=>match F.exec base rnd b e ds h with
      |some (.exit i,e',ds',h')=>bif Nat.beq i id then some (.normal,e',ds',h')else some (.exit i,e',ds',h')
      |r=>r
    | .loop b=>match F.exec base rnd b e ds h with
      |some (.normal,e',ds',h')=>F.exec base rnd (.loop b) e' ds' h'
      |r=>r
    | .scope b=>F.exec base rnd b e ds h
    | .rangeFunc f ps asg body=>bif mJ h rnd then match ev h e f with
      |some (.func (.func g) first cap)=>bif fS (T g)then none else
       match F.call g (dI first.toList (dI [.func (.yield h.next) #[] #[]] cap.toList)) {h.push (.loop e ps asg body 0 .normal)with log:=[]}with
       |some (.ret _,h2)=>match h2.get h.next with
        |some (.loop _ _ _ _ st gV)=>bif Nat.beq st 1 then none else
         some (gV,e,ds,Heap.wr {h2 with log:=aC base h.log h2.log} base h.next .dead)
        |_=>none
       |some (.panic v,h2)=>some (.panic v,e,ds,{h2 with log:=aC base h.log h2.log})
       |none=>none
      |_=>none
      else none
    | .rangeMap ops it x keep out nxt pr ops2 k2 body=>match F.ops base rnd ops e ds h with
      |some (.normal,e0,ds0,h0)=>match ds0 with
       |_::_=>none
       |[]=>match ev h0 e0 x with
        |some (.map none)=>some (.normal,bE e0 keep,[],h0)
        |some (.map (some m))=>match h0.get m with
         |some (.map es)=>Da out (bE e0 keep) h0 (mW (fun e h=>F.ops (h0.next+1) rnd ops2 e [] h) (fun e h=>F.exec (h0.next+1) rnd body e [] h) nxt pr k2 (itE it h0 (bE e0 keep)) (bE e0 keep) ((roM h0 m es).push .dead) es)
         |_=>none
        |_=>none
      |r=>r
    | .exit id=>some (.exit id,e,ds,h)
    | .ret=>some (.ret,e,ds,h)
def NX(T:Nat→Option af)(F:Fam):Nat→Option Nat→List aW→Env→Dfs→Heap→Option (bw×Env×Dfs×Heap):=fun base rnd ops e ds h=>
    match ops with
    |[]=>some (.normal,e,ds,h)
    |o::os=>match bC e o.guard with
     |some false=>F.ops base rnd os (bM e o.dst (.tuple #[])) ds h
     |some true=>match aop h base e o.op with
      |some (.val v h')=>F.ops base rnd os (bM e o.dst v) ds h'
      |some (.call fn args h')=>match F.iy fn args {h' with log:=[]}with
       |some (.ret v,h2)=>F.ops base rnd os (bM e o.dst v) ds {h2 with log:=aC base h'.log h2.log}
       |some (.panic v,h2)=>some (.panic v,e,ds,{h2 with log:=aC base h'.log h2.log})
       |none=>none
      |some (.jo f args)=>match rnd with|some _=>none|none=>F.ops base rnd os (bM e o.dst (.tuple #[])) ((f,args)::ds) h
      |some (.panic v h')=>some (.panic v,e,ds,h')
      |_=>none
     |none=>none
def LW(T:Nat→Option af)(F:Fam):Nat→List aW→List Nat→List Nat→List Rec→Env→Heap→Option (bw×Env×Heap):=fun base ops order before rs e h=>
    match order with
    |[]=>some (.normal,e,h)
    |i::is=>match bH ops i,bH before i with
     |some o,some mask=>
      match bC (bE e (bS o)) o.guard with
      |some false=>F.draw base ops is before (⟨i,o,bE e (bS o), .tuple #[], .skip⟩::rs) (bM e o.dst (.tuple #[])) h
      |some true=>
       bif jc o.op then
        match aop h base (bE e (bS o)) o.op with
        |some (.val v h')=>
         bif dn o.op then
          bif lY h' base rs then F.draw base ops is before (⟨i,o,bE e (bS o),v, .made h.next⟩::rs) (bM e o.dst v) h' else none
         else bif Nat.beq h'.next h.next then F.draw base ops is before (⟨i,o,bE e (bS o),v, .quiet⟩::rs) (bM e o.dst v) h
         else bif vn before i is then
          match aop {h with log:=[]} h.next (bE e (bS o)) o.op with
          |some (.val v h2)=>match aZ {h2 with log:=aC base h.log h2.log} base h2.log mask rs with
           |some rs'=>F.draw base ops is before rs' (bM e o.dst v) {h2 with log:=aC base h.log h2.log}
           |none=>none
          |_=>none
         else none
        |_=>none
       else
        match aop {h with log:=[]} h.next (bE e (bS o)) o.op with
        |some (.val v h2)=>match aZ {h2 with log:=aC base h.log h2.log} base h2.log mask rs with
         |some rs'=>F.draw base ops is before rs' (bM e o.dst v) {h2 with log:=aC base h.log h2.log}
         |none=>none
        |some (.call fn args _)=>match F.iy fn args {h with log:=[]}with
         |some (.ret v,h2)=>match aZ {h2 with log:=aC base h.log h2.log} base h2.log mask rs with
          |some rs'=>F.draw base ops is before rs' (bM e o.dst v) {h2 with log:=aC base h.log h2.log}
          |none=>none
         |some (.panic v,h2)=>some (.panic v,[],{h2 with log:=aC base h.log h2.log})
         |none=>none
        |_=>none
      |none=>none
     |_,_=>none
def Jc(T:Nat→Option af)(F:Fam):Fn→List Value→Heap→Option (Res×Heap):=fun fn args h=>
    match fn with
    | .func f=>F.call f args h
    | .yield l=>match h.get l with
      |some (.loop e ps asg body 0 .normal)=>match ir e ps args with
       |some e1=>match F.exec h.next (some l) asg e1 [] h with
        |some (.normal,e2,ds2,h2)=>bif notReady (h2.get l)then none else match F.exec h.next (some l) body e2 ds2 {h2 with bR:=gZ h2.bR l (.loop e ps asg body 1 .normal)}with
         |some (.normal,_,_,h3)=>match h3.get l with
          |some (.loop _ _ _ _ 1 _)=>some (.ret (.bool true),gcA h {h3 with bR:=gZ h3.bR l (.loop e ps asg body 0 .normal)} (.bool true))
          |_=>none
         |some (.exit i,_,_,h3)=>match h3.get l with
          |some (.loop _ _ _ _ 1 _)=>some (.ret (.bool false),h3.wr h.next l (.loop e ps asg body 2 (.exit i)))
          |_=>none
         |some (.ret,_,_,h3)=>match h3.get l with
          |some (.loop _ _ _ _ 1 _)=>some (.ret (.bool false),h3.wr h.next l (.loop e ps asg body 2 .ret))
          |_=>none
         |_=>none
        |_=>none
       |none=>none
      |_=>none
    |_=>none
def LV(T:Nat→Option af)(F:Fam):Nat→List Value→Heap→Option (Res×Heap):=fun f args h=>
    match T f with
    |none=>none
    |some (.jW p)=>match p args h with
     |some (v,h')=>some (.ret v,h')
     |none=>none
    |some (.code code results)=>match F.exec h.next none code (dV 0 args) [] h with
     |some (.panic v,e,ds,h1)=>F.unw results ds (some v) e h h1
     |some (.exit _,_,_,_)=>none
     |some (_,e,ds,h1)=>F.unw results ds none e h h1
     |none=>none
def NY(T:Nat→Option af)(F:Fam):List (Nat×Option (Option Nat))→Dfs→Option Value→Env→Heap→Heap→Option (Res×Heap):=fun results ds pan e h h1=>
    match ds with
    |[]=>match pan with
     |some v=>some (.panic v,h1)
     |none=>match bY h1 e results with
      |some vs=>some (.ret (eS vs),gcA h h1 (eS vs))
      |none=>none
    |(.func (.func g) first cap,args)::ds=>match F.defer g (dI first.toList (dI args cap.toList)) pan {h1 with log:=[]}with
     |some (pan',h2)=>F.unw results ds pan' e h {h2 with log:=aC h.next h1.log h2.log}
     |none=>none
    |_=>none
def Jd(T:Nat→Option af)(F:Fam):Nat→List Value→Option Value→Heap→Option (Option Value×Heap):=fun g args pan h=>
    match T g with
    |some (.code code [])=>match F.fI h.next code (dV 0 args) pan h with
     |some (.normal,_,pan',h')=>some (pan',h')
     |some (.ret,_,pan',h')=>some (pan',h')
     |_=>none
    |_=>none
def Je(T:Nat→Option af)(F:Fam):Nat→aY→Env→Option Value→Heap→Option (bw×Env×Option Value×Heap):=fun base c e pan h=>
    match c with
    | .skip=>some (.normal,e,pan,h)
    | .region ops keep=>match F.jF base ops e pan h with
      |some (.normal,e',pan',h')=>some (.normal,bE e' keep,pan',h')
      |r=>r
    | .seq a b=>match F.fI base a e pan h with
      |some (.normal,e',pan',h')=>F.fI base b e' pan' h'
      |r=>r
    | .cond c a b=>match ev h e c with
      |some (.bool true)=>F.fI base a e pan h
      |some (.bool false)=>F.fI base b e pan h
      |_=>none
    | .ret=>some (.ret,e,pan,h)
    |_=>none
def L4(T:Nat→Option af)(F:Fam):Nat→List aW→Env→Option Value→Heap→Option (bw×Env×Option Value×Heap):=fun base ops e pan h=>
    match ops with
    |[]=>some (.normal,e,pan,h)
    |o::os=>match bC e o.guard with
     |some false=>F.jF base os (bM e o.dst (.tuple #[])) pan h
     |some true=>match aop h base e o.op with
      |some (.val v h')=>F.jF base os (bM e o.dst v) pan h'
      |some .recover=>match pan with
       |some v=>F.jF base os (bM e o.dst v) none h
       |none=>F.jF base os (bM e o.dst .nilIface) none h
      |_=>none
     |none=>none
def Fam.succ(T:Nat→Option af)(F:Fam):Fam where
 exec:=LY T F
 ops:=NX T F
 draw:=LW T F
 iy:=Jc T F
 call:=LV T F
 unw:=NY T F
 defer:=Jd T F
 fI:=Je T F
 jF:=L4 T F
def fam(T:Nat→Option af)(n:Nat):Fam:=Nat.rec Fam.none (fun _ F=>Fam.succ T F) n
theorem Fy(T:Nat→Option af):∀n,fam T n={exec:=cu T n,ops:=gh T n,draw:=ew T n,iy:=fT T n,call:=iE T n,unw:=mY T n,defer:=jU T n,fI:=iA T n,jF:=jq T n}
 |0=>by
  show Fam.none=_
  unfold Fam.none
  simp only[Fam.mk.injEq]
  refine⟨?_,?_,?_,?_,?_,?_,?_,?_,?_⟩
  ·funext x0 x1 x2 x3 x4 x5;simp only[cu]
  ·funext x0 x1 x2 x3 x4 x5;simp only[gh]
  ·funext x0 x1 x2 x3 x4 x5 x6;simp only[ew]
  ·funext x0 x1 x2;simp only[fT]
  ·funext x0 x1 x2;simp only[iE]
  ·funext x0 x1 x2 x3 x4 x5;simp only[mY]
  ·funext x0 x1 x2 x3;simp only[jU]
  ·funext x0 x1 x2 x3 x4;simp only[iA]
  ·funext x0 x1 x2 x3 x4;simp only[jq]
 |n+1=>by
  show Fam.succ T (fam T n)=_
  rw[Fy T n]
  unfold Fam.succ
  simp only[Fam.mk.injEq]
  refine⟨?_,?_,?_,?_,?_,?_,?_,?_,?_⟩
  ·funext x0 x1 x2 x3 x4 x5;refine Eq.trans ?_ (cu.eq_def T (n+1) x0 x1 x2 x3 x4 x5).symm;rfl
  ·funext x0 x1 x2 x3 x4 x5;refine Eq.trans ?_ (gh.eq_def T (n+1) x0 x1 x2 x3 x4 x5).symm;rfl
  ·funext x0 x1 x2 x3 x4 x5 x6;refine Eq.trans ?_ (ew.eq_def T (n+1) x0 x1 x2 x3 x4 x5 x6).symm;rfl
  ·funext x0 x1 x2;refine Eq.trans ?_ (fT.eq_def T (n+1) x0 x1 x2).symm;rfl
  ·funext x0 x1 x2;refine Eq.trans ?_ (iE.eq_def T (n+1) x0 x1 x2).symm;rfl
  ·funext x0 x1 x2 x3 x4 x5;refine Eq.trans ?_ (mY.eq_def T (n+1) x0 x1 x2 x3 x4 x5).symm;rfl
  ·funext x0 x1 x2 x3;refine Eq.trans ?_ (jU.eq_def T (n+1) x0 x1 x2 x3).symm;rfl
  ·funext x0 x1 x2 x3 x4;refine Eq.trans ?_ (iA.eq_def T (n+1) x0 x1 x2 x3 x4).symm;rfl
  ·funext x0 x1 x2 x3 x4;refine Eq.trans ?_ (jq.eq_def T (n+1) x0 x1 x2 x3 x4).symm;rfl
noncomputable def Pa(k:IntKind):Nat:=IntKind.rec (motive:=fun _=>Nat) 0 1 2 3 4 5 6 7 k
noncomputable def kEq(a b:IntKind):Bool:=Nat.beq (Pa a) (Pa b)
theorem wW(a b:IntKind):kEq a b=decide (a=b):=by cases a<;>cases b<;>rfl
noncomputable def FI(m:Nat)(b:Int):Bool:=Int.rec (motive:=fun _=>Bool) (fun n=>Nat.beq m n) (fun _=>false) b
noncomputable def FH(m:Nat)(b:Int):Bool:=Int.rec (motive:=fun _=>Bool) (fun _=>false) (fun n=>Nat.beq m n) b
noncomputable def iEq(a b:Int):Bool:=Int.rec (motive:=fun _=>Int→Bool) FI FH a b
theorem AJ(a b:Int):iEq a b=(a==b):=by
 rw[Bool.eq_iff_iff]
 simp only[beq_iff_eq]
 cases a<;>cases b<;>simp[iEq,FI,FH,Nat.beq_eq]<;>omega
noncomputable def FK(m:Nat)(b:Int):Bool:=Int.rec (motive:=fun _=>Bool) (fun n=>Nat.blt m n) (fun _=>false) b
noncomputable def FJ(m:Nat)(b:Int):Bool:=Int.rec (motive:=fun _=>Bool) (fun _=>true) (fun n=>Nat.blt n m) b
noncomputable def iLt(a b:Int):Bool:=Int.rec (motive:=fun _=>Int→Bool) FK FJ a b
theorem Ml(a b:Int):iLt a b=decide (a<b):=by
 rw[Bool.eq_iff_iff]
 simp only[decide_eq_true_eq]
 cases a<;>cases b<;>simp[iLt,FK,FJ,Nat.blt_eq]<;>omega
noncomputable def topP(k:IntKind):Nat:=IntKind.rec (motive:=fun _=>Nat) 128 32768 2147483648 9223372036854775808 256 65536 4294967296 18446744073709551616 k
noncomputable def topN(k:IntKind):Nat:=IntKind.rec (motive:=fun _=>Nat) 128 32768 2147483648 9223372036854775808 0 0 0 0 k
noncomputable def LO(k:IntKind)(n:Int):Int:=Int.rec (motive:=fun _=>Int) (fun m=>bif Nat.blt m (topP k)then .ofNat m else k.wrap (.ofNat m)) (fun m=>bif Nat.blt m (topN k)then .negSucc m else k.wrap (.negSucc m)) n
theorem IZ(k:IntKind)(n:Int):LO k n=fM k n:=by cases n<;>cases k<;>rfl
noncomputable def MC{α:Type}(m:Nat)(f:Nat→α):α:=Nat.rec (motive:=fun _=>α) (f 0) (fun n _=>f (Nat.succ n)) m
theorem JM{α:Type}(m:Nat)(f:Nat→α):MC m f=f m:=by cases m<;>rfl
noncomputable def Mm{α:Type}(m:Int)(f:Int→α):α:=Int.rec (motive:=fun _=>α) (fun n=>MC n fun n=>f (.ofNat n)) (fun n=>MC n fun n=>f (.negSucc n)) m
theorem Jw{α:Type}(m:Int)(f:Int→α):Mm m f=f m:=by cases m<;>simp[Mm,JM]
noncomputable def mkI(k:IntKind)(n:Int):Option Value:=Mm (LO k n) fun n=>some (.int k n)
noncomputable def ER(k:IntKind)(x y:Int):Option Value:=mkI k (x+y)
noncomputable def E4(k:IntKind)(x y:Int):Option Value:=mkI k (x-y)
noncomputable def EY(k:IntKind)(x y:Int):Option Value:=mkI k (x*y)
noncomputable def ET(_:IntKind)(x y:Int):Option Value:=some (.bool (iEq x y))
noncomputable def EZ(_:IntKind)(x y:Int):Option Value:=some (.bool (Bool.rec true false (iEq x y)))
noncomputable def EX(_:IntKind)(x y:Int):Option Value:=some (.bool (iLt x y))
noncomputable def EW(_:IntKind)(x y:Int):Option Value:=some (.bool (Bool.rec true false (iLt y x)))
noncomputable def EV(_:IntKind)(x y:Int):Option Value:=some (.bool (iLt y x))
noncomputable def EU(_:IntKind)(x y:Int):Option Value:=some (.bool (Bool.rec true false (iLt x y)))
def E2(k:IntKind)(x y:Int):Option Value:=arith .quo k x y
def E3(k:IntKind)(x y:Int):Option Value:=arith .rem k x y
def ES(k:IntKind)(x y:Int):Option Value:=arith .and k x y
def Lv(k:IntKind)(x y:Int):Option Value:=arith .or k x y
def E6(k:IntKind)(x y:Int):Option Value:=arith .xor k x y
def vq(k:IntKind)(x y:Int):Option Value:=arith .andNot k x y
noncomputable def Gm(k:IntKind)(x:Int)(k':IntKind)(y:Int):Option Value:=Bool.rec none (ER k x y) (kEq k k')
noncomputable def GC(k:IntKind)(x:Int)(k':IntKind)(y:Int):Option Value:=Bool.rec none (E4 k x y) (kEq k k')
noncomputable def Gw(k:IntKind)(x:Int)(k':IntKind)(y:Int):Option Value:=Bool.rec none (EY k x y) (kEq k k')
noncomputable def Gy(k:IntKind)(x:Int)(k':IntKind)(y:Int):Option Value:=Bool.rec none (E2 k x y) (kEq k k')
noncomputable def Gz(k:IntKind)(x:Int)(k':IntKind)(y:Int):Option Value:=Bool.rec none (E3 k x y) (kEq k k')
noncomputable def Gn(k:IntKind)(x:Int)(k':IntKind)(y:Int):Option Value:=Bool.rec none (ES k x y) (kEq k k')
noncomputable def MB(k:IntKind)(x:Int)(k':IntKind)(y:Int):Option Value:=Bool.rec none (Lv k x y) (kEq k k')
noncomputable def GD(k:IntKind)(x:Int)(k':IntKind)(y:Int):Option Value:=Bool.rec none (E6 k x y) (kEq k k')
def GA(k:IntKind)(x:Int)(_:IntKind)(y:Int):Option Value:=mK .shl k x y
def GB(k:IntKind)(x:Int)(_:IntKind)(y:Int):Option Value:=mK .shr k x y
noncomputable def tY(k:IntKind)(x:Int)(k':IntKind)(y:Int):Option Value:=Bool.rec none (vq k x y) (kEq k k')
noncomputable def Gp(k:IntKind)(x:Int)(k':IntKind)(y:Int):Option Value:=Bool.rec none (ET k x y) (kEq k k')
noncomputable def Gx(k:IntKind)(x:Int)(k':IntKind)(y:Int):Option Value:=Bool.rec none (EZ k x y) (kEq k k')
noncomputable def Gv(k:IntKind)(x:Int)(k':IntKind)(y:Int):Option Value:=Bool.rec none (EX k x y) (kEq k k')
noncomputable def Gu(k:IntKind)(x:Int)(k':IntKind)(y:Int):Option Value:=Bool.rec none (EW k x y) (kEq k k')
noncomputable def Gt(k:IntKind)(x:Int)(k':IntKind)(y:Int):Option Value:=Bool.rec none (EV k x y) (kEq k k')
noncomputable def Gq(k:IntKind)(x:Int)(k':IntKind)(y:Int):Option Value:=Bool.rec none (EU k x y) (kEq k k')
noncomputable def GI(op:BinOp):IntKind→Int→IntKind→Int→Option Value:=BinOp.rec (motive:=fun _=>IntKind→Int→IntKind→Int→Option Value) Gm GC Gw Gy Gz Gn MB GD GA GB tY Gp Gx Gv Gu Gt Gq op
noncomputable def MD(op:BinOp)(x y:Value):Option Value:=
 match x with
 | .int k a=>match y with
   | .int k' b=>GI op k a k' b
   |_=>none
 | .string a=>match y with
   | .string b=>An op a b
   |_=>none
 |_=>none
theorem Fa{α:Type}(x y:α)(b:Bool):(Bool.rec x y b:α)=bif b then y else x:=by cases b<;>rfl
theorem Mz(k:IntKind)(n:Int):mkI k n=some (.int k (fM k n)):=by simp[mkI,Jw,IZ]
theorem bI:MD=aA:=by
 funext op x y
 unfold MD
 split
 ·rename_i k a
  split
  ·rename_i k' b
   by_cases hk:k=k'
   ·subst hk
    cases op<;>simp[GI,aA,Gm,GC,Gw,Gy,Gz,Gn,MB,GD,GA,GB,tY,Gp,Gx,Gv,Gu,Gt,Gq,ER,E4,EY,E2,E3,ES,Lv,E6,vq,ET,EZ,EX,EW,EV,EU,wW,Fa,Mz,arith,lu,AJ,Ml]
    all_goals first
     |(simp[bne];done)
     |(rw[Bool.eq_iff_iff];simp;done)
     |(rw[Bool.eq_iff_iff];simp;omega)
   ·cases op<;>simp[GI,aA,Gm,GC,Gw,Gy,Gz,Gn,MB,GD,GA,GB,tY,Gp,Gx,Gv,Gu,Gt,Gq,wW,Fa,hk]
  ·rename_i hy
   cases op<;>cases y<;>first|rfl|exact(hy _ _ rfl).elim
 ·split
  ·cases op<;>rfl
  ·rename_i hy
   cases op<;>cases y<;>first|rfl|exact(hy _ rfl).elim
 ·rename_i h1 h2
  cases op<;>cases x<;>first|rfl|exact(h1 _ _ rfl).elim|exact(h2 _ rfl).elim
noncomputable def Rj(_:Nat):Option Value:=none
noncomputable def Ri(p:Nat×Value)(_:Env)(ih:Nat→Option Value)(t:Nat):Option Value:=Bool.rec (ih t) (some p.2) (Nat.beq p.1 t)
noncomputable def geQ(e:Env)(t:Nat):Option Value:=List.rec (motive:=fun _=>Nat→Option Value) Rj Ri e t
theorem jA:geQ=geT:=by
 funext e t
 induction e with
 |nil=>rfl
 |cons p e ih=>
  obtain⟨k,v⟩:=p
  show(Bool.rec (geQ e t) (some v) (Nat.beq k t):Option Value)=_
  rw[Fa,ih];rfl
noncomputable def Pd(t:Nat)(l:Env)(v:Value):Env:=(t,v)::l
noncomputable def Rq(_:Env):Env:=[]
noncomputable def Ro(t:Nat)(_:List Nat)(ih:Env→Env)(e:Env):Env:=Option.rec (motive:=fun _=>Env) (ih e) (Pd t (ih e)) (geQ e t)
noncomputable def jQ(e:Env)(l:List Nat):Env:=List.rec (motive:=fun _=>Env→Env) Rq Ro l e
theorem jf:jQ=bE:=by
 funext e l
 induction l with
 |nil=>rfl
 |cons t l ih=>
  show(Option.rec (jQ e l) (Pd t (jQ e l)) (geQ e t):Env)=_
  rw[jA,ih]
  simp only[bE]
  cases geT e t<;>rfl
noncomputable def Rm(_:Nat):Option bJ:=none
noncomputable def Rl(p:Nat×bJ)(_:List (Nat×bJ))(ih:Nat→Option bJ)(t:Nat):Option bJ:=Bool.rec (ih t) (some p.2) (Nat.beq p.1 t)
noncomputable def goQ(e:List (Nat×bJ))(t:Nat):Option bJ:=List.rec (motive:=fun _=>Nat→Option bJ) Rm Rl e t
theorem Mj:goQ=eR:=by
 funext e t
 induction e with
 |nil=>rfl
 |cons p e ih=>
  obtain⟨k,v⟩:=p
  show(Bool.rec (goQ e t) (some v) (Nat.beq k t):Option bJ)=_
  rw[Fa,ih];rfl
noncomputable def lB(h:Heap)(b:Nat):Option bJ:=goQ h.bR b
theorem br:lB=Heap.get:=by funext h b;simp[lB,Heap.get,Mj]
noncomputable def RA(_:Nat)(_:bJ):List (Nat×bJ):=[]
noncomputable def Rz(p:Nat×bJ)(l:List (Nat×bJ))(ih:Nat→bJ→List (Nat×bJ))(t:Nat)(o:bJ):List (Nat×bJ):=Bool.rec (p::ih t o) ((p.1,o)::l) (Nat.beq p.1 t)
noncomputable def soQ(e:List (Nat×bJ))(t:Nat)(o:bJ):List (Nat×bJ):=List.rec (motive:=fun _=>Nat→bJ→List (Nat×bJ)) RA Rz e t o
theorem lE:soQ=gZ:=by
 funext e t o
 induction e with
 |nil=>rfl
 |cons p e ih=>
  obtain⟨k,v⟩:=p
  show(Bool.rec ((k,v)::soQ e t o) ((k,o)::e) (Nat.beq k t):List (Nat×bJ))=_
  rw[Fa,ih];rfl
noncomputable def wrQ(h:Heap)(base b:Nat)(o:bJ):Heap:={h with bR:=soQ h.bR b o,log:=bif Nat.blt b base then(bif fh h.log b then h.log else b::h.log)else h.log}
theorem bP:wrQ=Heap.wr:=by funext h base b o;simp[wrQ,Heap.wr,lE]
noncomputable def evQ(h:Heap)(e:Env)(x:Operand):Option Value:=Operand.rec (motive:=fun _=>Env→Heap→Option Value) (fun t e _=>geQ e t) (fun v _ _=>some v) (fun g _ h=>ev h [] (.global g)) (fun f _ _=>some (.func (.func f) #[] #[])) x e h
theorem bL:evQ=ev:=by
 funext h e x
 cases x<;>first|rfl|(show geQ e _=_;rw[jA];rfl)
noncomputable def zg(h:Heap)(e:Env):List Operand→Option (List Value)
 |[]=>some []
 |x::xs=>match evQ h e x with
  |some v=>match zg h e xs with
   |some vs=>some (v::vs)
   |none=>none
  |none=>none
theorem bq:zg=evs:=by
 funext h e l
 induction l with
 |nil=>rfl
 |cons x l ih=>(simp only[zg,evs,bL,ih];rfl)
noncomputable def zh(h:Heap)(e:Env)(z:List Value):List (Nat×Nat×Operand)→Option (List Value)
 |[]=>some z
 |(off,size,x)::ps=>match evQ h e x with
  |some v=>bif Nat.beq (bZ (cellsOf v)) size&&Nat.ble (off+size) (bZ z)then zh h e (cO z off (cellsOf v)) ps else none
  |none=>none
theorem bk:zh=iF:=by
 funext h e z l
 induction l generalizing z with
 |nil=>rfl
 |cons p l ih=>obtain⟨a,b,x⟩:=p;(simp only[zh,iF,bL,ih];rfl)
noncomputable def qD(e:Env)(g:Option (Nat×Bool)):Option Bool:=
 match g with
 |none=>some true
 |some (t,b)=>match geQ e t with
  |some (.bool x)=>some (x==b)
  |some _=>some false
  |none=>none
theorem gI:qD=bC:=by
 funext e g
 cases g with
 |none=>rfl
 |some p=>obtain⟨t,b⟩:=p;(simp only[qD,bC,jA];rfl)
noncomputable def HR(h:Heap)(e:Env):List (Nat×Option (Option Nat))→Option (List Value)
 |[]=>some []
 |(t,none)::rs=>match geQ e t with
  |some v=>match HR h e rs with
   |some vs=>some (v::vs)
   |none=>none
  |none=>none
 |(t,some n)::rs=>match geQ e t with
  |some a=>match nD h n a with
   |some v=>match HR h e rs with
    |some vs=>some (v::vs)
    |none=>none
   |none=>none
  |none=>none
theorem j5:HR=bY:=by
 funext h e l
 induction l with
 |nil=>rfl
 |cons p l ih=>
  obtain⟨t,n⟩:=p
  cases n<;>(simp only[HR,bY,jA,ih];rfl)
noncomputable def F0(l:dM)(x y:Value):Option Bool:=
 match l with
 | .i q=>match x with
   | .int k a=>match y with
     | .int k' b=>bif kEq k q&&kEq k' q then some (iEq a b)else none
     |_=>none
   |_=>none
 |l=>iD l x y
theorem F1:F0=iD:=by
 funext l x y
 unfold F0
 split
 ·rename_i q
  split
  ·rename_i k a
   split
   ·rename_i k' b
    simp only[iD,wW,AJ,cond_eq_ite,Bool.and_eq_true,decide_eq_true_eq]
    by_cases h1:k=q<;>by_cases h2:k'=q<;>simp[h1,h2]
   ·rename_i hy
    cases y<;>first|rfl|exact(hy _ _ rfl).elim
  ·rename_i hx
   cases x<;>first|rfl|exact(hx _ _ rfl).elim
 ·rfl
noncomputable def mC:List dM→List Value→List Value→Option Bool
 |[],[],[]=>some true
 |l::ls,x::xs,y::ys=>match F0 l x y with
  |some true=>mC ls xs ys
  |some false=>match mC ls xs ys with
   |some _=>some false
   |none=>none
  |none=>none
 |_,_,_=>none
theorem aL:mC=bG:=by
 funext ls
 induction ls with
 |nil=>funext xs ys;cases xs<;>cases ys<;>rfl
 |cons l ls ih=>
  funext xs ys
  cases xs<;>cases ys<;>first|rfl|(simp only[mC,bG,F1,ih];rfl)
noncomputable def oZ(ag:Bool)(ls:List dM)(k:Value):Bool:=
 match oW k==ag,mC ls (cellsOf k) (cellsOf k)with
 |true,some _=>true
 |_,_=>false
theorem aR:oZ=jr:=by funext ag ls k;(simp only[oZ,jr,aL];rfl)
noncomputable def AM(ag:Bool)(ls:List dM)(k k':Value):Option Bool:=
 match oW k'==ag with
 |true=>mC ls (cellsOf k) (cellsOf k')
 |false=>none
theorem Dp:AM=nu:=by funext ag ls k k';(simp only[AM,nu,aL];rfl)
noncomputable def vG(ag:Bool)(ls:List dM)(k:Value):Nat→List (Value×Value)→Option (Option (Nat×Value))
 |_,[]=>some none
 |i,(k',v)::es=>match AM ag ls k k' with
  |some true=>some (some (i,v))
  |some false=>vG ag ls k (i+1) es
  |none=>none
theorem bn:vG=mR:=by
 funext ag ls k i es
 induction es generalizing i with
 |nil=>rfl
 |cons p es ih=>obtain⟨a,b⟩:=p;(simp only[vG,mR,Dp,ih];rfl)
noncomputable def xZ(x y:Value):Bool:=
 match x with
 | .int k a=>match y with
   | .int k' b=>kEq k k'&&iEq a b
   |_=>false
 |x=>kJ x y
theorem we:xZ=kJ:=by
 funext x y
 unfold xZ
 split
 ·rename_i k a
  split
  ·rename_i k' b
   simp only[kJ,wW,AJ]
   by_cases h:k=k'<;>simp[h]
  ·rename_i hy
   cases y<;>first|rfl|exact(hy _ _ rfl).elim
 ·rfl
noncomputable def F4(h:Heap)(n:Option Nat):Value→Option Value
 | .pointer (some ⟨b,o,none⟩)=>match lB h b with
   |some (.cells vs _ _)=>match n with
    |none=>bH vs o
    |some n=>let l:=cH n (bW o vs);bif Nat.beq (bZ l) n then some (.agg l.toArray)else none
   |_=>none
 |_=>none
noncomputable def BE(h:Heap)(base n:Nat)(v:Value):Value→Option Heap
 | .pointer (some ⟨b,o,none⟩)=>match lB h b with
   |some (.cells vs true sz)=>bif Nat.beq (bZ (cellsOf v)) n&&Nat.ble (o+n) (bZ vs)&&dR (cellsOf v)then some (wrQ h base b (.cells (cO vs o (cellsOf v)) true sz))else none
   |_=>none
 |_=>none
noncomputable def AA(h:Heap)(e:Env)(dflt:Nat):Option Operand→Option Nat
 |none=>some dflt
 |some x=>match evQ h e x with
  |some v=>nH v
  |none=>none
noncomputable def yb(h:Heap)(e:Env)(size:Nat)(a:Option Addr)(len cap:Nat)(lo hi mx:Option Operand):Option (Value×Heap):=
 match AA h e 0 lo,AA h e len hi with
 |some l,some u=>
  match mx with
  |some _=>match AA h e 0 mx with
   |some m=>bif Nat.ble l u&&Nat.ble u m&&Nat.ble m (bif Nat.beq cap UNK then len else cap)&&Nat.blt m UNK then
    some (.slice (bif Nat.beq m l then a else match a with|some ⟨b,o,none⟩=>some ⟨b,o+l*size,none⟩|a=>a) (u-l) (m-l),h)
    else none
   |none=>none
  |none=>
   bif Nat.beq cap UNK then
    match a with
    |some ⟨b,o,none⟩=>match lB h b with
     |some (.cells vs _ sz)=>
      bif Nat.beq sz size&&Nat.ble l u&&(Nat.ble u len||Nat.ble (o+u*size) (bZ vs))then
       bif Nat.blt l len||Nat.blt l u then some (.slice (some ⟨b,o+l*size,none⟩) (u-l) UNK,h)
       else bif Nat.beq l 0 then some (.slice (some ⟨b,o,none⟩) 0 UNK,h)
       else some (.slice (some ⟨h.next,0,none⟩) 0 UNK,h.push (.cells [] false size))
      else none
     |_=>none
    |_=>none
   else bif Nat.ble l u&&Nat.ble u cap then
    some (.slice (bif Nat.beq cap l then a else match a with|some ⟨b,o,none⟩=>some ⟨b,o+l*size,none⟩|a=>a) (u-l) (cap-l),h)
    else none
 |_,_=>none
noncomputable def KG(h:Heap)(size:Nat):Value→Option (List Value×Nat)
 | .slice none n _=>bif Nat.beq n 0 then some ([],0)else none
 | .slice (some ⟨b,o,none⟩) n _=>match lB h b with
   |some (.cells vs _ _)=>let l:=cH (n*size) (bW o vs);bif Nat.beq (bZ l) (n*size)then some (l,n)else none
   |_=>none
 | .string s=>bif Nat.beq size 1 then some (s.data.toList.map fun b=> .int .u8 b.toNat,s.size)else none
 |_=>none
noncomputable def sJ(h:Heap)(base size bytes:Nat)(s:Value)(new:List Value)(n:Nat):Option (Value×Heap):=
 match s with
 | .slice a len cap=>
   bif Nat.beq n 0 then(bif Nat.ble len cap then some (s,h)else none)else
   bif Nat.ble ((2*(len+n)+768)*bytes) 281474976710656 then
    match a with
    |none=>bif Nat.beq len 0&&Nat.beq cap 0 then some (.slice (some ⟨h.next,0,none⟩) n UNK,h.push (.cells new true size))else none
    |some ⟨b,o,none⟩=>match lB h b with
     |some (.cells vs own sz)=>
      bif Nat.beq cap UNK then
       bif own&&Nat.beq sz size then
        bif Nat.ble (o+(len+n)*size) (bZ vs)&&dR new then
         some (.slice (some ⟨b,o,none⟩) (len+n) UNK,wrQ h base b (.cells (cO vs (o+len*size) new) true sz))
        else bif Nat.beq o 0&&Nat.beq (len*size) (bZ vs)&&dR new then
         some (.slice (some ⟨h.next,0,none⟩) (len+n) UNK,(wrQ h base b .dead).push (.cells (dI vs new) true size))
        else none
       else none
      else bif Nat.ble (len+n) cap then
       bif own&&Nat.ble (o+(len+n)*size) (bZ vs)&&dR new then
        some (.slice (some ⟨b,o,none⟩) (len+n) cap,wrQ h base b (.cells (cO vs (o+len*size) new) true sz))
       else none
      else bif Nat.ble (o+len*size) (bZ vs)then
       some (.slice (some ⟨h.next,0,none⟩) (len+n) UNK,h.push (.cells (dI (cH (len*size) (bW o vs)) new) true size))
      else none
     |_=>none
    |_=>none
   else none
 |_=>none
theorem aX:F4=nD:=by
 funext h n v
 unfold F4 nD
 simp only[bL,bq,bk,bI,bn,aR,aL,br,bP];rfl
theorem bh:BE=pL:=by
 funext h base n v x
 unfold BE pL
 simp only[bL,bq,bk,bI,bn,aR,aL,br,bP];rfl
theorem bU:AA=bnd:=by
 funext h e d x
 unfold AA bnd
 simp only[bL,bq,bk,bI,bn,aR,aL,br,bP];rfl
theorem bg:yb=iu:=by
 funext h e size a len cap lo hi mx
 unfold yb iu
 simp only[bL,bq,bk,bI,bn,aR,aL,br,bP,bU];rfl
theorem bX:KG=cW:=by
 funext h size v
 unfold KG cW
 simp only[bL,bq,bk,bI,bn,aR,aL,br,bP];rfl
theorem aQ:sJ=iJ:=by
 funext h base size bytes s new n
 unfold sJ iJ
 simp only[bL,bq,bk,bI,bn,aR,aL,br,bP];rfl
noncomputable def Hz(h:Heap)(base:Nat)(e:Env)(x:Operand):Option cI:=cF (evQ h e x) fun v=>some (.val v h)
noncomputable def Bs(h:Heap)(base:Nat)(e:Env)(c:Operand)(a:Operand)(b:Operand):Option cI:=match evQ h e c with
 |some (.bool true)=>cF (evQ h e a) fun v=>some (.val v h)
 |some (.bool false)=>cF (evQ h e b) fun v=>some (.val v h)
 |_=>none
noncomputable def HA(h:Heap)(base:Nat)(e:Env)(z:List Value):Option cI:=some (.val (.pointer (some ⟨h.next,0,none⟩)) (h.push (.cells z true 1)))
noncomputable def Hx(h:Heap)(base:Nat)(e:Env)(x:Operand):Option cI:=cF (evQ h e x) fun v=>some (.val (.pointer (some ⟨h.next,0,none⟩)) (h.push (.cells (cellsOf v) true 1)))
noncomputable def xJ(h:Heap)(base:Nat)(e:Env)(z:List Value)(ps:List (Nat×Nat×Operand)):Option cI:=match zh h e z ps with
 |some cs=>some (.val (.agg cs.toArray) h)
 |none=>none
noncomputable def uw(h:Heap)(base:Nat)(e:Env)(z:List Value)(n:Nat)(ps:List (Nat×Nat×Operand)):Option cI:=match zh h e (eE n z) ps with
 |some cs=>some (.val (.slice (some ⟨h.next,0,none⟩) n n) (h.push (.cells cs true (bZ z))))
 |none=>none
noncomputable def Bq(h:Heap)(base:Nat)(e:Env)(n:Option Nat)(a:Operand):Option cI:=cF (evQ h e a) fun a=>cF (F4 h n a) fun v=>some (.val v h)
noncomputable def xS(h:Heap)(base:Nat)(e:Env)(n:Nat)(a:Operand)(v:Operand):Option cI:=cF (evQ h e a) fun a=>cF (evQ h e v) fun v=>match BE h base n v a with
 |some h'=>some (.val (.tuple #[]) h')
 |none=>none
noncomputable def uF(h:Heap)(base:Nat)(e:Env)(x:Operand):Option cI:=cF (evQ h e x) fun v=>match v with
 | .pointer none| .nilIface| .nilFunc=>none
 | .func (.method _) _ _=>none
 |v=>some (.val v h)
noncomputable def Hw(h:Heap)(base:Nat)(e:Env):CQ→Operand→Operand→Option cI
 |(.num op),x,y=>cF (evQ h e x) fun x=>cF (evQ h e y) fun y=>cF (MD op x y) fun v=>some (.val v h)
 |(.beq neq),x,y=>match evQ h e x,evQ h e y with
  |some (.bool a),some (.bool b)=>some (.val (.bool (bif neq then !(a==b)else a==b)) h)
  |_,_=>none
 |(.nil k neq),x,y=>cF (evQ h e x) fun x=>cF (evQ h e y) fun y=>match nI k x y with
  |some b=>some (.val (.bool (bif neq then !b else b)) h)
  |none=>none
 |(.agg neq ls),x,y=>cF (evQ h e x) fun x=>cF (evQ h e y) fun y=>match x,y with
  | .agg xs, .agg ys=>match mC ls xs.toList ys.toList with
    |some b=>some (.val (.bool (bif neq then !b else b)) h)
    |none=>none
  |_,_=>none
noncomputable def M4(h:Heap)(base:Nat)(e:Env)(op:UnOp)(x:Operand):Option cI:=cF (evQ h e x) fun x=>cF (uR op x) fun v=>some (.val v h)
noncomputable def Bk(h:Heap)(base:Nat)(e:Env)(c:Cv)(x:Operand):Option cI:=cF (evQ h e x) fun x=>fD (oK h c x)
noncomputable def rI(h:Heap)(base:Nat)(e:Env)(t:TypeId)(x:Operand):Option cI:=cF (evQ h e x) fun v=>some (.val (.iface t v) h)
noncomputable def uE(h:Heap)(base:Nat)(e:Env)(fn:Fn)(fs:List Operand)(cs:List Operand):Option cI:=match zg h e fs,zg h e cs with
 |some fs,some cs=>some (.val (.func fn fs.toArray cs.toArray) h)
 |_,_=>none
noncomputable def xP(h:Heap)(base:Nat)(e:Env):Option cI:=some (.val (.map (some h.next)) (h.push (.map [])))
noncomputable def rJ(h:Heap)(base:Nat)(e:Env)(z:List Value)(bytes:Nat)(l:Operand)(c:Operand):Option cI:=match evQ h e l,evQ h e c with
 |some l,some c=>match nH l,nH c with
  |some l,some c=>bif Nat.ble l c&&Nat.ble (bytes*c) 281474976710656&&Nat.blt c UNK then
   some (.val (.slice (some ⟨h.next,0,none⟩) l c) (h.push (.cells (eE c z) true (bZ z))))
   else none
  |_,_=>none
 |_,_=>none
noncomputable def xR(h:Heap)(base:Nat)(e:Env):ASl→Operand→Option Operand→Option Operand→Option Operand→Option cI
 | .str,x,lo,hi,none=>match evQ h e x with
   |some (.string s)=>match AA h e 0 lo,AA h e s.size hi with
    |some l,some u=>bif Nat.ble l u&&Nat.ble u s.size then some (.val (.string (s.extract l u)) h)else none
    |_,_=>none
   |_=>none
 |(.sl size),x,lo,hi,mx=>match evQ h e x with
  |some (.slice a len cap)=>fD (yb h e size a len cap lo hi mx)
  |_=>none
 |(.arr n size),x,lo,hi,mx=>match evQ h e x with
  |some (.pointer (some a))=>fD (yb h e size (some a) n n lo hi mx)
  |_=>none
 | .str,_,_,_,(some _)=>none
noncomputable def xM(h:Heap)(base:Nat)(e:Env)(off:Nat)(x:Operand):Option cI:=match evQ h e x with
 |some (.pointer (some ⟨b,o,none⟩))=>some (.val (.pointer (some ⟨b,o+off,none⟩)) h)
 |_=>none
noncomputable def xN(h:Heap)(base:Nat)(e:Env)(off:Nat)(n:Option Nat)(x:Operand):Option cI:=match evQ h e x with
 |some (.agg cs)=>match n with
  |none=>cF (bH cs.toList off) fun v=>some (.val v h)
  |some n=>let l:=cH n (bW off cs.toList);bif Nat.beq (bZ l) n then some (.val (.agg l.toArray) h)else none
 |_=>none
noncomputable def uy(h:Heap)(base:Nat)(e:Env)(len:Nat)(size:Nat)(x:Operand)(i:Operand):Option cI:=match evQ h e x,evQ h e i with
 |some (.pointer (some ⟨b,o,none⟩)),some (.int _ (.ofNat i))=>bif Nat.blt i len then some (.val (.pointer (some ⟨b,o+i*size,none⟩)) h)else none
 |_,_=>none
noncomputable def uz(h:Heap)(base:Nat)(e:Env)(size:Nat)(x:Operand)(i:Operand):Option cI:=match evQ h e x,evQ h e i with
 |some (.slice (some ⟨b,o,none⟩) len _),some (.int _ (.ofNat i))=>bif Nat.blt i len then some (.val (.pointer (some ⟨b,o+i*size,none⟩)) h)else none
 |_,_=>none
noncomputable def Bn(h:Heap)(base:Nat)(e:Env)(len:Nat)(size:Nat)(n:Option Nat)(x:Operand)(i:Operand):Option cI:=match evQ h e x,evQ h e i with
 |some (.agg cs),some (.int _ (.ofNat i))=>bif Nat.blt i len then
  match n with
  |none=>cF (bH cs.toList (i*size)) fun v=>some (.val v h)
  |some n=>let l:=cH n (bW (i*size) cs.toList);bif Nat.beq (bZ l) n then some (.val (.agg l.toArray) h)else none
  else none
 |_,_=>none
noncomputable def Bp(h:Heap)(base:Nat)(e:Env)(x:Operand)(i:Operand):Option cI:=match evQ h e x,evQ h e i with
 |some (.string s),some (.int _ (.ofNat i))=>match bH s.data.toList i with
  |some b=>some (.val (.int .u8 b.toNat) h)
  |none=>none
 |_,_=>none
noncomputable def uC(h:Heap)(base:Nat)(e:Env)(ag:Bool)(ls:List dM)(z:Value)(ok:Bool)(m:Operand)(k:Operand):Option cI:=match evQ h e m,evQ h e k with
 |some (.map none),some k=>bif oZ ag ls k then some (.val (bif ok then .tuple #[z, .bool false]else z) h)else none
 |some (.map (some r)),some k=>match u9 (lB h r)with
  |some es=>bif oZ ag ls k then match vG ag ls k 0 es with
   |some (some (_,v))=>some (.val (bif ok then .tuple #[v, .bool true]else v) h)
   |some none=>some (.val (bif ok then .tuple #[z, .bool false]else z) h)
   |none=>none else none
  |none=>none
 |_,_=>none
noncomputable def xO(h:Heap)(base:Nat)(e:Env)(ag:Bool)(ls:List dM)(m:Operand)(k:Operand)(v:Operand):Option cI:=match evQ h e m,evQ h e k,evQ h e v with
 |some (.map (some r)),some k,some v=>match lB h r with
  |some (.map es)=>bif oZ ag ls k then match vG ag ls k 0 es with
   |some (some (i,_))=>some (.val (.tuple #[]) (wrQ h base r (.map (pg es i (k,v)))))
   |some none=>some (.val (.tuple #[]) (wrQ h base r (.map (dI es [(k,v)]))))
   |none=>none else none
  |_=>none
 |_,_,_=>none
noncomputable def rL(h:Heap)(base:Nat)(e:Env)(t:TypeId)(ok:Bool)(z:Value)(x:Operand):Option cI:=match evQ h e x with
 |some .nilIface=>bif ok then some (.val (.tuple #[z, .bool false]) h)else none
 |some (.iface t' v)=>if t'=t then some (.val (bif ok then .tuple #[v, .bool true]else v) h)
  else bif ok then some (.val (.tuple #[z, .bool false]) h)else none
 |_=>none
noncomputable def rH(h:Heap)(base:Nat)(e:Env)(t:Operand)(i:Nat):Option cI:=match evQ h e t with
 |some (.tuple vs)=>cF (bH vs.toList i) fun v=>some (.val v h)
 |_=>none
noncomputable def Bj(h:Heap)(base:Nat)(e:Env)(f:Operand)(args:List Operand):Option cI:=match evQ h e f,zg h e args with
 |some f,some args=>nj f args h
 |_,_=>none
noncomputable def uA(h:Heap)(base:Nat)(e:Env):Nat→Operand→Option cI
 |0,x=>match evQ h e x with
  |some (.string s)=>some (.val (.int .i64 s.size) h)
  |_=>none
 |1,x=>match evQ h e x with
  |some (.slice _ n _)=>some (.val (.int .i64 n) h)
  |_=>none
 |_,x=>match evQ h e x with
  |some (.map none)=>some (.val (.int .i64 0) h)
  |some (.map (some r))=>match u9 (lB h r)with
   |some es=>some (.val (.int .i64 (bZ es)) h)
   |none=>none
  |_=>none
noncomputable def uB(h:Heap)(base:Nat)(e:Env)(n:Nat):Option cI:=some (.val (.int .i64 n) h)
noncomputable def Hy(h:Heap)(base:Nat)(e:Env)(x:Operand):Option cI:=match evQ h e x with
 |some (.slice _ _ c)=>bif Nat.beq c UNK then none else some (.val (.int .i64 c) h)
 |_=>none
noncomputable def uv(h:Heap)(base:Nat)(e:Env)(size:Nat)(bytes:Nat)(s:Operand)(x:Operand):Option cI:=match evQ h e s,evQ h e x with
 |some s,some x=>match KG h size x with
  |some (l,n)=>fD (sJ h base size bytes s l n)
  |none=>none
 |_,_=>none
noncomputable def rG(h:Heap)(base:Nat)(e:Env)(z:List Value)(bytes:Nat)(s:Operand)(n:Operand):Option cI:=match evQ h e s,evQ h e n with
 |some s,some n=>match nH n with
  |some n=>bif Nat.blt n 9223372036854775808&&Nat.ble (n*bytes) 281474976710656 then fD (sJ h base (bZ z) bytes s (eE n z) n)else none
  |none=>none
 |_,_=>none
noncomputable def Bl(h:Heap)(base:Nat)(e:Env)(size:Nat)(d:Operand)(s:Operand):Option cI:=match evQ h e d,evQ h e s with
 |some (.slice a dl _),some s=>match KG h size s with
  |some (l,n)=>
   let m:=Nat.min n dl
   match a with
   |none=>some (.val (.int .i64 m) h)
   |some ⟨b,o,none⟩=>match lB h b with
    |some (.cells vs true sz)=>bif Nat.ble (o+m*size) (bZ vs)&&dR (cH (m*size) l)then
     some (.val (.int .i64 m) (wrQ h base b (.cells (cO vs o (cH (m*size) l)) true sz)))
     else none
    |_=>none
   |_=>none
  |none=>none
 |_,_=>none
noncomputable def xK(h:Heap)(base:Nat)(e:Env)(z:List Value)(x:Operand):Option cI:=match evQ h e x with
 |some (.slice a n _)=>
  bif Nat.beq n 0 then some (.val (.tuple #[]) h)else
  match a with
  |none=>some (.val (.tuple #[]) h)
  |some ⟨b,o,none⟩=>match lB h b with
   |some (.cells vs true sz)=>bif Nat.ble (o+bZ (eE n z)) (bZ vs)&&dR (eE n z)then some (.val (.tuple #[]) (wrQ h base b (.cells (cO vs o (eE n z)) true sz)))else none
   |_=>none
  |_=>none
 |_=>none
noncomputable def uD(h:Heap)(base:Nat)(e:Env)(mx:Bool)(args:List Operand):Option cI:=match zg h e args with
 |some (x::l)=>cF (mmA mx x l) fun v=>some (.val v h)
 |_=>none
noncomputable def ux(h:Heap)(base:Nat)(e:Env)(ag:Bool)(ls:List dM)(m:Operand)(k:Operand):Option cI:=match evQ h e m,evQ h e k with
 |some (.map (some r)),some k=>match lB h r with
  |some (.map es)=>bif oZ ag ls k then match vG ag ls k 0 es with
   |some (some (i,_))=>some (.val (.tuple #[]) (wrQ h base r (.map (zC es i))))
   |some none=>some (.val (.tuple #[]) (wrQ h base r (.map es)))
   |none=>none else none
  |_=>none
 |some (.map none),some k=>bif oZ ag ls k then some (.val (.tuple #[]) h)else none
 |_,_=>none
noncomputable def Bm(h:Heap)(base:Nat)(e:Env)(f:Operand)(args:List Operand):Option cI:=match evQ h e f,zg h e args with
 |some (.func (.func g) first cap),some args=>some (.jo (.func (.func g) first cap) args)
 |_,_=>none
noncomputable def rK(h:Heap)(base:Nat)(e:Env):Option cI:=some .recover
noncomputable def Bt(h:Heap)(base:Nat)(e:Env)(x:Operand):Option cI:=cF (evQ h e x) fun v=>match v with
 | .iface _ _=>some (.panic v h)
 |_=>none
noncomputable def xQ(h:Heap)(base:Nat)(e:Env)(x:Operand):Option cI:=match evQ h e x with
 |some (.string s)=>some (.val (.pointer (some ⟨h.next,0,none⟩)) (h.push (.jZ s 0)))
 |_=>none
noncomputable def Br(h:Heap)(base:Nat)(e:Env):Operand→Bool→Option cI
 |x,true=>match evQ h e x with
  |some (.pointer (some ⟨r,0,none⟩))=>match lB h r with
   |some (.jZ s pos)=>bif Nat.blt pos s.size then
    let d:=Utf8.decode s pos
    some (.val (.tuple #[.bool true, .int .i64 pos, .int .i32 d.1]) (wrQ h base r (.jZ s (pos+d.2))))
    else some (.val (.tuple #[.bool false]) h)
   |_=>none
  |_=>none
 |_,false=>none
noncomputable def uG(h:Heap)(base:Nat)(e:Env)(_:Operand):Option cI:=none
noncomputable def xL(h:Heap)(base:Nat)(e:Env)(_:Operand):Option cI:=none
noncomputable def PI(x0:Operand)(h:Heap)(base:Nat)(e:Env):Option cI:=Hz h base e x0
noncomputable def Nd(x0:Operand)(x1:Operand)(x2:Operand)(h:Heap)(base:Nat)(e:Env):Option cI:=Bs h base e x0 x1 x2
noncomputable def PJ(x0:List Value)(h:Heap)(base:Nat)(e:Env):Option cI:=HA h base e x0
noncomputable def PE(x0:Operand)(h:Heap)(base:Nat)(e:Env):Option cI:=Hx h base e x0
noncomputable def Kj(x0:List Value)(x1:List (Nat×Nat×Operand))(h:Heap)(base:Nat)(e:Env):Option cI:=xJ h base e x0 x1
noncomputable def HE(x0:List Value)(x1:Nat)(x2:List (Nat×Nat×Operand))(h:Heap)(base:Nat)(e:Env):Option cI:=uw h base e x0 x1 x2
noncomputable def Nb(x0:Option Nat)(x1:Operand)(h:Heap)(base:Nat)(e:Env):Option cI:=Bq h base e x0 x1
noncomputable def Ks(x0:Nat)(x1:Operand)(x2:Operand)(h:Heap)(base:Nat)(e:Env):Option cI:=xS h base e x0 x1 x2
noncomputable def HN(x0:Operand)(h:Heap)(base:Nat)(e:Env):Option cI:=uF h base e x0
noncomputable def PD(x0:CQ)(x1:Operand)(x2:Operand)(h:Heap)(base:Nat)(e:Env):Option cI:=Hw h base e x0 x1 x2
noncomputable def Rx(x0:UnOp)(x1:Operand)(h:Heap)(base:Nat)(e:Env):Option cI:=M4 h base e x0 x1
noncomputable def M6(x0:Cv)(x1:Operand)(h:Heap)(base:Nat)(e:Env):Option cI:=Bk h base e x0 x1
noncomputable def DY(x0:TypeId)(x1:Operand)(h:Heap)(base:Nat)(e:Env):Option cI:=rI h base e x0 x1
noncomputable def HM(x0:Fn)(x1:List Operand)(x2:List Operand)(h:Heap)(base:Nat)(e:Env):Option cI:=uE h base e x0 x1 x2
noncomputable def Kp(h:Heap)(base:Nat)(e:Env):Option cI:=xP h base e
noncomputable def DZ(x0:List Value)(x1:Nat)(x2:Operand)(x3:Operand)(h:Heap)(base:Nat)(e:Env):Option cI:=rJ h base e x0 x1 x2 x3
noncomputable def Kr(x0:ASl)(x1:Operand)(x2:Option Operand)(x3:Option Operand)(x4:Option Operand)(h:Heap)(base:Nat)(e:Env):Option cI:=xR h base e x0 x1 x2 x3 x4
noncomputable def Km(x0:Nat)(x1:Operand)(h:Heap)(base:Nat)(e:Env):Option cI:=xM h base e x0 x1
noncomputable def Kn(x0:Nat)(x1:Option Nat)(x2:Operand)(h:Heap)(base:Nat)(e:Env):Option cI:=xN h base e x0 x1 x2
noncomputable def HH(x0:Nat)(x1:Nat)(x2:Operand)(x3:Operand)(h:Heap)(base:Nat)(e:Env):Option cI:=uy h base e x0 x1 x2 x3
noncomputable def HI(x0:Nat)(x1:Operand)(x2:Operand)(h:Heap)(base:Nat)(e:Env):Option cI:=uz h base e x0 x1 x2
noncomputable def M9(x0:Nat)(x1:Nat)(x2:Option Nat)(x3:Operand)(x4:Operand)(h:Heap)(base:Nat)(e:Env):Option cI:=Bn h base e x0 x1 x2 x3 x4
noncomputable def Na(x0:Operand)(x1:Operand)(h:Heap)(base:Nat)(e:Env):Option cI:=Bp h base e x0 x1
noncomputable def HK(x0:Bool)(x1:List dM)(x2:Value)(x3:Bool)(x4:Operand)(x5:Operand)(h:Heap)(base:Nat)(e:Env):Option cI:=uC h base e x0 x1 x2 x3 x4 x5
noncomputable def Ko(x0:Bool)(x1:List dM)(x2:Operand)(x3:Operand)(x4:Operand)(h:Heap)(base:Nat)(e:Env):Option cI:=xO h base e x0 x1 x2 x3 x4
noncomputable def D4(x0:TypeId)(x1:Bool)(x2:Value)(x3:Operand)(h:Heap)(base:Nat)(e:Env):Option cI:=rL h base e x0 x1 x2 x3
noncomputable def DX(x0:Operand)(x1:Nat)(h:Heap)(base:Nat)(e:Env):Option cI:=rH h base e x0 x1
noncomputable def M5(x0:Operand)(x1:List Operand)(h:Heap)(base:Nat)(e:Env):Option cI:=Bj h base e x0 x1
noncomputable def PG(x0:Nat)(x1:Operand)(h:Heap)(base:Nat)(e:Env):Option cI:=uA h base e x0 x1
noncomputable def HJ(x0:Nat)(h:Heap)(base:Nat)(e:Env):Option cI:=uB h base e x0
noncomputable def PF(x0:Operand)(h:Heap)(base:Nat)(e:Env):Option cI:=Hy h base e x0
noncomputable def HD(x0:Nat)(x1:Nat)(x2:Operand)(x3:Operand)(h:Heap)(base:Nat)(e:Env):Option cI:=uv h base e x0 x1 x2 x3
noncomputable def DW(x0:List Value)(x1:Nat)(x2:Operand)(x3:Operand)(h:Heap)(base:Nat)(e:Env):Option cI:=rG h base e x0 x1 x2 x3
noncomputable def M7(x0:Nat)(x1:Operand)(x2:Operand)(h:Heap)(base:Nat)(e:Env):Option cI:=Bl h base e x0 x1 x2
noncomputable def Kk(x0:List Value)(x1:Operand)(h:Heap)(base:Nat)(e:Env):Option cI:=xK h base e x0 x1
noncomputable def HL(x0:Bool)(x1:List Operand)(h:Heap)(base:Nat)(e:Env):Option cI:=uD h base e x0 x1
noncomputable def HF(x0:Bool)(x1:List dM)(x2:Operand)(x3:Operand)(h:Heap)(base:Nat)(e:Env):Option cI:=ux h base e x0 x1 x2 x3
noncomputable def M8(x0:Operand)(x1:List Operand)(h:Heap)(base:Nat)(e:Env):Option cI:=Bm h base e x0 x1
noncomputable def D0(h:Heap)(base:Nat)(e:Env):Option cI:=rK h base e
noncomputable def Nf(x0:Operand)(h:Heap)(base:Nat)(e:Env):Option cI:=Bt h base e x0
noncomputable def Kq(x0:Operand)(h:Heap)(base:Nat)(e:Env):Option cI:=xQ h base e x0
noncomputable def Nc(x0:Operand)(x1:Bool)(h:Heap)(base:Nat)(e:Env):Option cI:=Br h base e x0 x1
noncomputable def HO(x0:Operand)(h:Heap)(base:Nat)(e:Env):Option cI:=uG h base e x0
noncomputable def Kl(x0:Operand)(h:Heap)(base:Nat)(e:Env):Option cI:=xL h base e x0
noncomputable def Qn(o:AOp):Heap→Nat→Env→Option cI:=AOp.rec (motive:=fun _=>Heap→Nat→Env→Option cI) PI Nd PJ PE Kj HE Nb Ks HN PD Rx M6 DY HM Kp DZ Kr Km Kn HH HI M9 Na HK Ko D4 DX M5 PG HJ PF HD DW M7 Kk HL HF M8 D0 Nf Kq Nc HO Kl o
noncomputable def Ay(h:Heap)(base:Nat)(e:Env)(o:AOp):Option cI:=Qn o h base e
theorem jH:Ay=aop:=by
 funext h base e o
 cases o
 case mov x0=>show Hz h base e x0=_;first|rfl|(unfold Hz;simp only[bL,bq,bk,bI,bn,aR,aL,br,bP,bU,aX,bh,bg,bX,aQ];rfl)
 case pick x0 x1 x2=>show Bs h base e x0 x1 x2=_;first|rfl|(unfold Bs;simp only[bL,bq,bk,bI,bn,aR,aL,br,bP,bU,aX,bh,bg,bX,aQ];rfl)
 case new x0=>show HA h base e x0=_;first|rfl|(unfold HA;simp only[bL,bq,bk,bI,bn,aR,aL,br,bP,bU,aX,bh,bg,bX,aQ];rfl)
 case box x0=>show Hx h base e x0=_;first|rfl|(unfold Hx;simp only[bL,bq,bk,bI,bn,aR,aL,br,bP,bU,aX,bh,bg,bX,aQ];rfl)
 case build x0 x1=>show xJ h base e x0 x1=_;first|rfl|(unfold xJ;simp only[bL,bq,bk,bI,bn,aR,aL,br,bP,bU,aX,bh,bg,bX,aQ];rfl)
 case cU x0 x1 x2=>show uw h base e x0 x1 x2=_;first|rfl|(unfold uw;simp only[bL,bq,bk,bI,bn,aR,aL,br,bP,bU,aX,bh,bg,bX,aQ];rfl)
 case load x0 x1=>show Bq h base e x0 x1=_;first|rfl|(unfold Bq;simp only[bL,bq,bk,bI,bn,aR,aL,br,bP,bU,aX,bh,bg,bX,aQ];rfl)
 case store x0 x1 x2=>show xS h base e x0 x1 x2=_;first|rfl|(unfold xS;simp only[bL,bq,bk,bI,bn,aR,aL,br,bP,bU,aX,bh,bg,bX,aQ];rfl)
 case cg x0=>show uF h base e x0=_;first|rfl|(unfold uF;simp only[bL,bq,bk,bI,bn,aR,aL,br,bP,bU,aX,bh,bg,bX,aQ];rfl)
 case un x0 x1=>show M4 h base e x0 x1=_;first|rfl|(unfold M4;simp only[bL,bq,bk,bI,bn,aR,aL,br,bP,bU,aX,bh,bg,bX,aQ];rfl)
 case conv x0 x1=>show Bk h base e x0 x1=_;first|rfl|(unfold Bk;simp only[bL,bq,bk,bI,bn,aR,aL,br,bP,bU,aX,bh,bg,bX,aQ];rfl)
 case ig x0 x1=>show rI h base e x0 x1=_;first|rfl|(unfold rI;simp only[bL,bq,bk,bI,bn,aR,aL,br,bP,bU,aX,bh,bg,bX,aQ];rfl)
 case dY x0 x1 x2=>show uE h base e x0 x1 x2=_;first|rfl|(unfold uE;simp only[bL,bq,bk,bI,bn,aR,aL,br,bP,bU,aX,bh,bg,bX,aQ];rfl)
 case mkMap=>show xP h base e=_;first|rfl|(unfold xP;simp only[bL,bq,bk,bI,bn,aR,aL,br,bP,bU,aX,bh,bg,bX,aQ];rfl)
 case mkSlice x0 x1 x2 x3=>show rJ h base e x0 x1 x2 x3=_;first|rfl|(unfold rJ;simp only[bL,bq,bk,bI,bn,aR,aL,br,bP,bU,aX,bh,bg,bX,aQ];rfl)
 case dh x0 x1=>show xM h base e x0 x1=_;first|rfl|(unfold xM;simp only[bL,bq,bk,bI,bn,aR,aL,br,bP,bU,aX,bh,bg,bX,aQ];rfl)
 case field x0 x1 x2=>show xN h base e x0 x1 x2=_;first|rfl|(unfold xN;simp only[bL,bq,bk,bI,bn,aR,aL,br,bP,bU,aX,bh,bg,bX,aQ];rfl)
 case cZ x0 x1 x2 x3=>show uy h base e x0 x1 x2 x3=_;first|rfl|(unfold uy;simp only[bL,bq,bk,bI,bn,aR,aL,br,bP,bU,aX,bh,bg,bX,aQ];rfl)
 case aU x0 x1 x2=>show uz h base e x0 x1 x2=_;first|rfl|(unfold uz;simp only[bL,bq,bk,bI,bn,aR,aL,br,bP,bU,aX,bh,bg,bX,aQ];rfl)
 case rq x0 x1 x2 x3 x4=>show Bn h base e x0 x1 x2 x3 x4=_;first|rfl|(unfold Bn;simp only[bL,bq,bk,bI,bn,aR,aL,br,bP,bU,aX,bh,bg,bX,aQ];rfl)
 case iX x0 x1=>show Bp h base e x0 x1=_;first|rfl|(unfold Bp;simp only[bL,bq,bk,bI,bn,aR,aL,br,bP,bU,aX,bh,bg,bX,aQ];rfl)
 case lookup x0 x1 x2 x3 x4 x5=>show uC h base e x0 x1 x2 x3 x4 x5=_;first|rfl|(unfold uC;simp only[bL,bq,bk,bI,bn,aR,aL,br,bP,bU,aX,bh,bg,bX,aQ];rfl)
 case kT x0 x1 x2 x3 x4=>show xO h base e x0 x1 x2 x3 x4=_;first|rfl|(unfold xO;simp only[bL,bq,bk,bI,bn,aR,aL,br,bP,bU,aX,bh,bg,bX,aQ];rfl)
 case jL x0 x1 x2 x3=>show rL h base e x0 x1 x2 x3=_;first|rfl|(unfold rL;simp only[bL,bq,bk,bI,bn,aR,aL,br,bP,bU,aX,bh,bg,bX,aQ];rfl)
 case extract x0 x1=>show rH h base e x0 x1=_;first|rfl|(unfold rH;simp only[bL,bq,bk,bI,bn,aR,aL,br,bP,bU,aX,bh,bg,bX,aQ];rfl)
 case call x0 x1=>show Bj h base e x0 x1=_;first|rfl|(unfold Bj;simp only[bL,bq,bk,bI,bn,aR,aL,br,bP,bU,aX,bh,bg,bX,aQ];rfl)
 case jC x0=>show uB h base e x0=_;first|rfl|(unfold uB;simp only[bL,bq,bk,bI,bn,aR,aL,br,bP,bU,aX,bh,bg,bX,aQ];rfl)
 case cap x0=>show Hy h base e x0=_;first|rfl|(unfold Hy;simp only[bL,bq,bk,bI,bn,aR,aL,br,bP,bU,aX,bh,bg,bX,aQ];rfl)
 case append x0 x1 x2 x3=>show uv h base e x0 x1 x2 x3=_;first|rfl|(unfold uv;simp only[bL,bq,bk,bI,bn,aR,aL,br,bP,bU,aX,bh,bg,bX,aQ];rfl)
 case jI x0 x1 x2 x3=>show rG h base e x0 x1 x2 x3=_;first|rfl|(unfold rG;simp only[bL,bq,bk,bI,bn,aR,aL,br,bP,bU,aX,bh,bg,bX,aQ];rfl)
 case copy x0 x1 x2=>show Bl h base e x0 x1 x2=_;first|rfl|(unfold Bl;simp only[bL,bq,bk,bI,bn,aR,aL,br,bP,bU,aX,bh,bg,bX,aQ];rfl)
 case clear x0 x1=>show xK h base e x0 x1=_;first|rfl|(unfold xK;simp only[bL,bq,bk,bI,bn,aR,aL,br,bP,bU,aX,bh,bg,bX,aQ];rfl)
 case ei x0 x1=>show uD h base e x0 x1=_;first|rfl|(unfold uD;simp only[bL,bq,bk,bI,bn,aR,aL,br,bP,bU,aX,bh,bg,bX,aQ];rfl)
 case delete x0 x1 x2 x3=>show ux h base e x0 x1 x2 x3=_;first|rfl|(unfold ux;simp only[bL,bq,bk,bI,bn,aR,aL,br,bP,bU,aX,bh,bg,bX,aQ];rfl)
 case jo x0 x1=>show Bm h base e x0 x1=_;first|rfl|(unfold Bm;simp only[bL,bq,bk,bI,bn,aR,aL,br,bP,bU,aX,bh,bg,bX,aQ];rfl)
 case recover=>show rK h base e=_;first|rfl|(unfold rK;simp only[bL,bq,bk,bI,bn,aR,aL,br,bP,bU,aX,bh,bg,bX,aQ];rfl)
 case rF x0=>show Bt h base e x0=_;first|rfl|(unfold Bt;simp only[bL,bq,bk,bI,bn,aR,aL,br,bP,bU,aX,bh,bg,bX,aQ];rfl)
 case range x0=>show xQ h base e x0=_;first|rfl|(unfold xQ;simp only[bL,bq,bk,bI,bn,aR,aL,br,bP,bU,aX,bh,bg,bX,aQ];rfl)
 case lC x0=>show uG h base e x0=_;first|rfl|(unfold uG;simp only[bL,bq,bk,bI,bn,aR,aL,br,bP,bU,aX,bh,bg,bX,aQ];rfl)
 case entry x0=>show xL h base e x0=_;first|rfl|(unfold xL;simp only[bL,bq,bk,bI,bn,aR,aL,br,bP,bU,aX,bh,bg,bX,aQ];rfl)
 case bin op x y=>show Hw h base e op x y=_;cases op<;>(simp only[Hw,aop,bL,bq,bk,bI,bn,aR,aL,br,bP,bU,aX,bh,bg,bX,aQ];first|done|rfl)
 case slice k x lo hi mx=>show xR h base e k x lo hi mx=_;cases k<;>cases mx<;>(simp only[xR,aop,bL,bq,bk,bI,bn,aR,aL,br,bP,bU,aX,bh,bg,bX,aQ];first|done|rfl)
 case len k x=>
  match k with
  |0=>show uA h base e 0 x=_;simp only[uA,aop,bL,bq,bk,bI,bn,aR,aL,br,bP,bU,aX,bh,bg,bX,aQ];first|done|rfl
  |1=>show uA h base e 1 x=_;simp only[uA,aop,bL,bq,bk,bI,bn,aR,aL,br,bP,bU,aX,bh,bg,bX,aQ];first|done|rfl
  |k+2=>show uA h base e (k+2) x=_;simp only[uA,aop,bL,bq,bk,bI,bn,aR,aL,br,bP,bU,aX,bh,bg,bX,aQ];first|done|rfl
 case next x s=>show Br h base e x s=_;cases s<;>(simp only[Br,aop,bL,bq,bk,bI,bn,aR,aL,br,bP,bU,aX,bh,bg,bX,aQ];first|done|rfl)
def Pr(x0:Operand):List Operand:=cN (.mov x0)
def MM(x0:Operand)(x1:Operand)(x2:Operand):List Operand:=cN (.pick x0 x1 x2)
def Pt(x0:List Value):List Operand:=cN (.new x0)
def Po(x0:Operand):List Operand:=cN (.box x0)
def JO(x0:List Value)(x1:List (Nat×Nat×Operand)):List Operand:=cN (.build x0 x1)
def GL(x0:List Value)(x1:Nat)(x2:List (Nat×Nat×Operand)):List Operand:=cN (.cU x0 x1 x2)
def MK(x0:Option Nat)(x1:Operand):List Operand:=cN (.load x0 x1)
def JY(x0:Nat)(x1:Operand)(x2:Operand):List Operand:=cN (.store x0 x1 x2)
def GU(x0:Operand):List Operand:=cN (.cg x0)
def Pn(x0:CQ)(x1:Operand)(x2:Operand):List Operand:=cN (.bin x0 x1 x2)
def Rs(x0:UnOp)(x1:Operand):List Operand:=cN (.un x0 x1)
def MF(x0:Cv)(x1:Operand):List Operand:=cN (.conv x0 x1)
def DF(x0:TypeId)(x1:Operand):List Operand:=cN (.ig x0 x1)
def GS(x0:Fn)(x1:List Operand)(x2:List Operand):List Operand:=cN (.dY x0 x1 x2)
def JV:List Operand:=cN (.mkMap)
def DG(x0:List Value)(x1:Nat)(x2:Operand)(x3:Operand):List Operand:=cN (.mkSlice x0 x1 x2 x3)
def JX(x0:ASl)(x1:Operand)(x2:Option Operand)(x3:Option Operand)(x4:Option Operand):List Operand:=cN (.slice x0 x1 x2 x3 x4)
def JS(x0:Nat)(x1:Operand):List Operand:=cN (.dh x0 x1)
def JT(x0:Nat)(x1:Option Nat)(x2:Operand):List Operand:=cN (.field x0 x1 x2)
def GN(x0:Nat)(x1:Nat)(x2:Operand)(x3:Operand):List Operand:=cN (.cZ x0 x1 x2 x3)
def GO(x0:Nat)(x1:Operand)(x2:Operand):List Operand:=cN (.aU x0 x1 x2)
def MI(x0:Nat)(x1:Nat)(x2:Option Nat)(x3:Operand)(x4:Operand):List Operand:=cN (.rq x0 x1 x2 x3 x4)
def MJ(x0:Operand)(x1:Operand):List Operand:=cN (.iX x0 x1)
def GQ(x0:Bool)(x1:List dM)(x2:Value)(x3:Bool)(x4:Operand)(x5:Operand):List Operand:=cN (.lookup x0 x1 x2 x3 x4 x5)
def JU(x0:Bool)(x1:List dM)(x2:Operand)(x3:Operand)(x4:Operand):List Operand:=cN (.kT x0 x1 x2 x3 x4)
def DI(x0:TypeId)(x1:Bool)(x2:Value)(x3:Operand):List Operand:=cN (.jL x0 x1 x2 x3)
def DE(x0:Operand)(x1:Nat):List Operand:=cN (.extract x0 x1)
def ME(x0:Operand)(x1:List Operand):List Operand:=cN (.call x0 x1)
def Pq(x0:Nat)(x1:Operand):List Operand:=cN (.len x0 x1)
def GP(x0:Nat):List Operand:=cN (.jC x0)
def Pp(x0:Operand):List Operand:=cN (.cap x0)
def GK(x0:Nat)(x1:Nat)(x2:Operand)(x3:Operand):List Operand:=cN (.append x0 x1 x2 x3)
def DD(x0:List Value)(x1:Nat)(x2:Operand)(x3:Operand):List Operand:=cN (.jI x0 x1 x2 x3)
def MG(x0:Nat)(x1:Operand)(x2:Operand):List Operand:=cN (.copy x0 x1 x2)
def JP(x0:List Value)(x1:Operand):List Operand:=cN (.clear x0 x1)
def GR(x0:Bool)(x1:List Operand):List Operand:=cN (.ei x0 x1)
def GM(x0:Bool)(x1:List dM)(x2:Operand)(x3:Operand):List Operand:=cN (.delete x0 x1 x2 x3)
def MH(x0:Operand)(x1:List Operand):List Operand:=cN (.jo x0 x1)
def DH:List Operand:=cN (.recover)
def MN(x0:Operand):List Operand:=cN (.rF x0)
def JW(x0:Operand):List Operand:=cN (.range x0)
def ML(x0:Operand)(x1:Bool):List Operand:=cN (.next x0 x1)
def GV(x0:Operand):List Operand:=cN (.lC x0)
def JQ(x0:Operand):List Operand:=cN (.entry x0)
noncomputable def xE(o:AOp):List Operand:=AOp.rec (motive:=fun _=>List Operand) Pr MM Pt Po JO GL MK JY GU Pn Rs MF DF GS JV DG JX JS JT GN GO MI MJ GQ JU DI DE ME Pq GP Pp GK DD MG JP GR GM MH DH MN JW ML GV JQ o
theorem Bg:xE=cN:=by funext o;cases o<;>rfl
def P0(x0:Operand):Bool:=cE (.mov x0)
def Nr(x0:Operand)(x1:Operand)(x2:Operand):Bool:=cE (.pick x0 x1 x2)
def P3(x0:List Value):Bool:=cE (.new x0)
def PX(x0:Operand):Bool:=cE (.box x0)
def KI(x0:List Value)(x1:List (Nat×Nat×Operand)):Bool:=cE (.build x0 x1)
def Ik(x0:List Value)(x1:Nat)(x2:List (Nat×Nat×Operand)):Bool:=cE (.cU x0 x1 x2)
def Np(x0:Option Nat)(x1:Operand):Bool:=cE (.load x0 x1)
def KU(x0:Nat)(x1:Operand)(x2:Operand):Bool:=cE (.store x0 x1 x2)
def It(x0:Operand):Bool:=cE (.cg x0)
def PV(x0:CQ)(x1:Operand)(x2:Operand):Bool:=cE (.bin x0 x1 x2)
def RB(x0:UnOp)(x1:Operand):Bool:=cE (.un x0 x1)
def Nj(x0:Cv)(x1:Operand):Bool:=cE (.conv x0 x1)
def El(x0:TypeId)(x1:Operand):Bool:=cE (.ig x0 x1)
def Is(x0:Fn)(x1:List Operand)(x2:List Operand):Bool:=cE (.dY x0 x1 x2)
def KP:Bool:=cE (.mkMap)
def Em(x0:List Value)(x1:Nat)(x2:Operand)(x3:Operand):Bool:=cE (.mkSlice x0 x1 x2 x3)
def KT(x0:ASl)(x1:Operand)(x2:Option Operand)(x3:Option Operand)(x4:Option Operand):Bool:=cE (.slice x0 x1 x2 x3 x4)
def KL(x0:Nat)(x1:Operand):Bool:=cE (.dh x0 x1)
def KM(x0:Nat)(x1:Option Nat)(x2:Operand):Bool:=cE (.field x0 x1 x2)
def Im(x0:Nat)(x1:Nat)(x2:Operand)(x3:Operand):Bool:=cE (.cZ x0 x1 x2 x3)
def Io(x0:Nat)(x1:Operand)(x2:Operand):Bool:=cE (.aU x0 x1 x2)
def Nn(x0:Nat)(x1:Nat)(x2:Option Nat)(x3:Operand)(x4:Operand):Bool:=cE (.rq x0 x1 x2 x3 x4)
def No(x0:Operand)(x1:Operand):Bool:=cE (.iX x0 x1)
def Iq(x0:Bool)(x1:List dM)(x2:Value)(x3:Bool)(x4:Operand)(x5:Operand):Bool:=cE (.lookup x0 x1 x2 x3 x4 x5)
def KN(x0:Bool)(x1:List dM)(x2:Operand)(x3:Operand)(x4:Operand):Bool:=cE (.kT x0 x1 x2 x3 x4)
def Eo(x0:TypeId)(x1:Bool)(x2:Value)(x3:Operand):Bool:=cE (.jL x0 x1 x2 x3)
def Ek(x0:Operand)(x1:Nat):Bool:=cE (.extract x0 x1)
def Ni(x0:Operand)(x1:List Operand):Bool:=cE (.call x0 x1)
def PZ(x0:Nat)(x1:Operand):Bool:=cE (.len x0 x1)
def Ip(x0:Nat):Bool:=cE (.jC x0)
def PY(x0:Operand):Bool:=cE (.cap x0)
def Ij(x0:Nat)(x1:Nat)(x2:Operand)(x3:Operand):Bool:=cE (.append x0 x1 x2 x3)
def Ej(x0:List Value)(x1:Nat)(x2:Operand)(x3:Operand):Bool:=cE (.jI x0 x1 x2 x3)
def Nk(x0:Nat)(x1:Operand)(x2:Operand):Bool:=cE (.copy x0 x1 x2)
def KJ(x0:List Value)(x1:Operand):Bool:=cE (.clear x0 x1)
def Ir(x0:Bool)(x1:List Operand):Bool:=cE (.ei x0 x1)
def Il(x0:Bool)(x1:List dM)(x2:Operand)(x3:Operand):Bool:=cE (.delete x0 x1 x2 x3)
def Nl(x0:Operand)(x1:List Operand):Bool:=cE (.jo x0 x1)
def En:Bool:=cE (.recover)
def Ns(x0:Operand):Bool:=cE (.rF x0)
def KQ(x0:Operand):Bool:=cE (.range x0)
def Nq(x0:Operand)(x1:Bool):Bool:=cE (.next x0 x1)
def Iu(x0:Operand):Bool:=cE (.lC x0)
def KK(x0:Operand):Bool:=cE (.entry x0)
noncomputable def Cw(o:AOp):Bool:=AOp.rec (motive:=fun _=>Bool) P0 Nr P3 PX KI Ik Np KU It PV RB Nj El Is KP Em KT KL KM Im Io Nn No Iq KN Eo Ek Ni PZ Ip PY Ij Ej Nk KJ Ir Il Nl En Ns KQ Nq Iu KK o
theorem Bv:Cw=cE:=by funext o;cases o<;>rfl
def Qa(x0:Operand):Bool:=dn (.mov x0)
def NG(x0:Operand)(x1:Operand)(x2:Operand):Bool:=dn (.pick x0 x1 x2)
def Qb(x0:List Value):Bool:=dn (.new x0)
def P7(x0:Operand):Bool:=dn (.box x0)
def K5(x0:List Value)(x1:List (Nat×Nat×Operand)):Bool:=dn (.build x0 x1)
def IN(x0:List Value)(x1:Nat)(x2:List (Nat×Nat×Operand)):Bool:=dn (.cU x0 x1 x2)
def ND(x0:Option Nat)(x1:Operand):Bool:=dn (.load x0 x1)
def Le(x0:Nat)(x1:Operand)(x2:Operand):Bool:=dn (.store x0 x1 x2)
def IX(x0:Operand):Bool:=dn (.cg x0)
def P6(x0:CQ)(x1:Operand)(x2:Operand):Bool:=dn (.bin x0 x1 x2)
def RF(x0:UnOp)(x1:Operand):Bool:=dn (.un x0 x1)
def Ny(x0:Cv)(x1:Operand):Bool:=dn (.conv x0 x1)
def Ey(x0:TypeId)(x1:Operand):Bool:=dn (.ig x0 x1)
def IW(x0:Fn)(x1:List Operand)(x2:List Operand):Bool:=dn (.dY x0 x1 x2)
def Lb:Bool:=dn (.mkMap)
def Ez(x0:List Value)(x1:Nat)(x2:Operand)(x3:Operand):Bool:=dn (.mkSlice x0 x1 x2 x3)
def Ld(x0:ASl)(x1:Operand)(x2:Option Operand)(x3:Option Operand)(x4:Option Operand):Bool:=dn (.slice x0 x1 x2 x3 x4)
def K8(x0:Nat)(x1:Operand):Bool:=dn (.dh x0 x1)
def K9(x0:Nat)(x1:Option Nat)(x2:Operand):Bool:=dn (.field x0 x1 x2)
def IQ(x0:Nat)(x1:Nat)(x2:Operand)(x3:Operand):Bool:=dn (.cZ x0 x1 x2 x3)
def IS(x0:Nat)(x1:Operand)(x2:Operand):Bool:=dn (.aU x0 x1 x2)
def NB(x0:Nat)(x1:Nat)(x2:Option Nat)(x3:Operand)(x4:Operand):Bool:=dn (.rq x0 x1 x2 x3 x4)
def NC(x0:Operand)(x1:Operand):Bool:=dn (.iX x0 x1)
def IU(x0:Bool)(x1:List dM)(x2:Value)(x3:Bool)(x4:Operand)(x5:Operand):Bool:=dn (.lookup x0 x1 x2 x3 x4 x5)
def La(x0:Bool)(x1:List dM)(x2:Operand)(x3:Operand)(x4:Operand):Bool:=dn (.kT x0 x1 x2 x3 x4)
def EB(x0:TypeId)(x1:Bool)(x2:Value)(x3:Operand):Bool:=dn (.jL x0 x1 x2 x3)
def Ex(x0:Operand)(x1:Nat):Bool:=dn (.extract x0 x1)
def Nx(x0:Operand)(x1:List Operand):Bool:=dn (.call x0 x1)
def P9(x0:Nat)(x1:Operand):Bool:=dn (.len x0 x1)
def IT(x0:Nat):Bool:=dn (.jC x0)
def P8(x0:Operand):Bool:=dn (.cap x0)
def IM(x0:Nat)(x1:Nat)(x2:Operand)(x3:Operand):Bool:=dn (.append x0 x1 x2 x3)
def Ew(x0:List Value)(x1:Nat)(x2:Operand)(x3:Operand):Bool:=dn (.jI x0 x1 x2 x3)
def Nz(x0:Nat)(x1:Operand)(x2:Operand):Bool:=dn (.copy x0 x1 x2)
def K6(x0:List Value)(x1:Operand):Bool:=dn (.clear x0 x1)
def IV(x0:Bool)(x1:List Operand):Bool:=dn (.ei x0 x1)
def IP(x0:Bool)(x1:List dM)(x2:Operand)(x3:Operand):Bool:=dn (.delete x0 x1 x2 x3)
def NA(x0:Operand)(x1:List Operand):Bool:=dn (.jo x0 x1)
def EA:Bool:=dn (.recover)
def NH(x0:Operand):Bool:=dn (.rF x0)
def Lc(x0:Operand):Bool:=dn (.range x0)
def NF(x0:Operand)(x1:Bool):Bool:=dn (.next x0 x1)
def IY(x0:Operand):Bool:=dn (.lC x0)
def K7(x0:Operand):Bool:=dn (.entry x0)
noncomputable def AL(o:AOp):Bool:=AOp.rec (motive:=fun _=>Bool) Qa NG Qb P7 K5 IN ND Le IX P6 RF Ny Ey IW Lb Ez Ld K8 K9 IQ IS NB NC IU La EB Ex Nx P9 IT P8 IM Ew Nz K6 IV IP NA EA NH Lc NF IY K7 o
theorem gO:AL=dn:=by funext o;cases o<;>rfl
noncomputable def wK(o:AOp):Bool:=Cw o||AL o
theorem gp:wK=jc:=by funext o;simp only[wK,jc,Bv,gO]
noncomputable def j6(o:aW):List Nat:=
 match o.guard with
 |some (t,_)=>t::wq (xE o.op)
 |none=>wq (xE o.op)
theorem gH:j6=bS:=by funext o;unfold j6 bS;simp only[Bg];rfl
noncomputable def pK:List Value→List Value→Bool
 |[],[]=>true
 |x::xs,y::ys=>bif xZ x y then pK xs ys else false
 |_,_=>false
noncomputable def BA:Value→Value→Bool
 | .agg a, .agg b=>pK a.toList b.toList
 | .tuple a, .tuple b=>pK a.toList b.toList
 | .func (.func f) a' a, .func (.func g) b' b=>f==g&&(pK a'.toList b'.toList&&pK a.toList b.toList)
 |x,y=>xZ x y
noncomputable def Cx(h:Heap)(base:Nat)(r:Rec):Bool:=
 match r.k with
 | .quiet=>match Ay h base r.e r.o.op with
   |some (.val v' h2)=>BA r.v v'&&Nat.beq h2.next h.next
   |_=>false
 |_=>true
noncomputable def xU(h:Heap)(base:Nat):List Rec→Bool
 |[]=>true
 |r::rs=>bif Cx h base r then xU h base rs else false
noncomputable def iO(h:Heap)(base:Nat)(log:List Nat)(mask:Nat):List Rec→Option (List Rec)
 |[]=>some []
 |r::rs=>bif Nat.testBit mask r.i then iO h base log mask rs else
  bif Cx h base r&&D6 log r then match iO h base log mask rs with
   |some rs'=>some (r::rs')
   |none=>none
  else none
theorem Ea:pK=jt:=by
 funext a
 induction a with
 |nil=>funext b;cases b<;>rfl
 |cons x a ih=>funext b;cases b<;>first|rfl|(simp only[pK,jt,we,ih])
theorem Eb:BA=iz:=by
 funext a b
 unfold BA iz
 simp only[Ea,we]
 first|done|rfl
theorem Ab:Cx=pG:=by
 funext h base r
 unfold Cx pG
 simp only[jH,Eb]
 first|done|rfl
theorem iq:xU=lY:=by
 funext h base rs
 induction rs with
 |nil=>rfl
 |cons r rs ih=>simp only[xU,lY,Ab,ih]
theorem eC:iO=aZ:=by
 funext h base log mask rs
 induction rs with
 |nil=>rfl
 |cons r rs ih=>simp only[iO,aZ,Ab,ih];first|done|rfl
noncomputable def HC(T:Nat→Option af)(F:Fam)(base:Nat)(rnd:Option Nat)(ops:List aW)(it:Nat)(x:Operand)(keep:List Nat)(out nxt pr:Nat)(ops2:List aW)(k2:List Nat)(body:aY)(e:Env)(ds:Dfs)(h:Heap):Option (bw×Env×Dfs×Heap):=match F.ops base rnd ops e ds h with
 |some (.normal,e0,ds0,h0)=>match ds0 with
  |_::_=>none
  |[]=>match evQ h0 e0 x with
   |some (.map none)=>some (.normal,jQ e0 keep,[],h0)
   |some (.map (some m))=>match lB h0 m with
    |some (.map es)=>Da out (jQ e0 keep) h0 (mW (fun e h=>F.ops (h0.next+1) rnd ops2 e [] h) (fun e h=>F.exec (h0.next+1) rnd body e [] h) nxt pr k2 (itE it h0 (jQ e0 keep)) (jQ e0 keep) ((roM h0 m es).push .dead) es)
    |_=>none
   |_=>none
 |r=>r
noncomputable def zX(T:Nat→Option af)(F:Fam)(base:Nat)(rnd:Option Nat)(f:Operand)(ps:List Nat)(asg body:aY)(e:Env)(ds:Dfs)(h:Heap):Option (bw×Env×Dfs×Heap):=bif mJ h rnd then match evQ h e f with
 |some (.func (.func g) first cap)=>bif fS (T g)then none else
  match F.call g (dI first.toList (dI [.func (.yield h.next) #[] #[]] cap.toList)) {h.push (.loop e ps asg body 0 .normal)with log:=[]}with
  |some (.ret _,h2)=>match lB h2 h.next with
   |some (.loop _ _ _ _ st gV)=>bif Nat.beq st 1 then none else
    some (gV,e,ds,Heap.wr {h2 with log:=aC base h.log h2.log} base h.next .dead)
   |_=>none
  |some (.panic v,h2)=>some (.panic v,e,ds,{h2 with log:=aC base h.log h2.log})
  |none=>none
 |_=>none
 else none
noncomputable def zY(F:Fam)(l:Nat)(args:List Value)(h:Heap):Option (Res×Heap):=match lB h l with
 |some (.loop e ps asg body 0 .normal)=>match ir e ps args with
  |some e1=>match F.exec h.next (some l) asg e1 [] h with
   |some (.normal,e2,ds2,h2)=>bif notReady (lB h2 l)then none else match F.exec h.next (some l) body e2 ds2 {h2 with bR:=soQ h2.bR l (.loop e ps asg body 1 .normal)}with
    |some (.normal,_,_,h3)=>match lB h3 l with
     |some (.loop _ _ _ _ 1 _)=>some (.ret (.bool true),gcA h {h3 with bR:=soQ h3.bR l (.loop e ps asg body 0 .normal)} (.bool true))
     |_=>none
    |some (.exit i,_,_,h3)=>match lB h3 l with
     |some (.loop _ _ _ _ 1 _)=>some (.ret (.bool false),h3.wr h.next l (.loop e ps asg body 2 (.exit i)))
     |_=>none
    |some (.ret,_,_,h3)=>match lB h3 l with
     |some (.loop _ _ _ _ 1 _)=>some (.ret (.bool false),h3.wr h.next l (.loop e ps asg body 2 .ret))
     |_=>none
    |_=>none
   |_=>none
  |none=>none
 |_=>none
noncomputable def EN(T:Nat→Option af)(F:Fam):Nat→Option Nat→aY→Env→Dfs→Heap→Option (bw×Env×Dfs×Heap):=fun base rnd c e ds h=>
 match c with
 | .skip=>some (.normal,e,ds,h)
 | .region ops keep=>match F.ops base rnd ops e ds h with
   |some (.normal,e',ds',h')=>some (.normal,jQ e' keep,ds',h')
   |r=>r
 | .draw ops order before keep=>match F.draw base ops order before [] e h with
   |some (.normal,e',h')=>some (.normal,jQ e' keep,ds,h')
   |some (x,e',h')=>some (x,e',ds,h')
   |none=>none
 | .seq a b=>match F.exec base rnd a e ds h with
   |some (.normal,e',ds',h')=>F.exec base rnd b e' ds' h'
   |r=>r
 | .cond c a b=>match evQ h e c with
   |some (.bool true)=>F.exec base rnd a e ds h
   |some (.bool false)=>F.exec base rnd b e ds h
   |_=>none
 | .block id b=>match F.exec base rnd b e ds h with
   |some (.exit i,e',ds',h')=>bif Nat.beq i id then some (.normal,e',ds',h')else some (.exit i,e',ds',h')
   |r=>r
 | .loop b=>match F.exec base rnd b e ds h with
   |some (.normal,e',ds',h')=>F.exec base rnd (.loop b) e' ds' h'
   |r=>r
 | .scope b=>F.exec base rnd b e ds h
 | .rangeFunc f ps asg body=>zX T F base rnd f ps asg body e ds h
 | .rangeMap ops it x keep out nxt pr ops2 k2 body=>HC T F base rnd ops it x keep out nxt pr ops2 k2 body e ds h
 | .exit id=>some (.exit id,e,ds,h)
 | .ret=>some (.ret,e,ds,h)
noncomputable def Lu(T:Nat→Option af)(F:Fam):Nat→Option Nat→List aW→Env→Dfs→Heap→Option (bw×Env×Dfs×Heap):=fun base rnd ops e ds h=>
 match ops with
 |[]=>some (.normal,e,ds,h)
 |o::os=>match qD e o.guard with
  |some false=>F.ops base rnd os (bM e o.dst (.tuple #[])) ds h
  |some true=>match Ay h base e o.op with
   |some (.val v h')=>F.ops base rnd os (bM e o.dst v) ds h'
   |some (.call fn args h')=>match F.iy fn args {h' with log:=[]}with
    |some (.ret v,h2)=>F.ops base rnd os (bM e o.dst v) ds {h2 with log:=aC base h'.log h2.log}
    |some (.panic v,h2)=>some (.panic v,e,ds,{h2 with log:=aC base h'.log h2.log})
    |none=>none
   |some (.jo f args)=>match rnd with|some _=>none|none=>F.ops base rnd os (bM e o.dst (.tuple #[])) ((f,args)::ds) h
   |some (.panic v h')=>some (.panic v,e,ds,h')
   |_=>none
  |none=>none
noncomputable def EM(T:Nat→Option af)(F:Fam):Nat→List aW→List Nat→List Nat→List Rec→Env→Heap→Option (bw×Env×Heap):=fun base ops order before rs e h=>
 match order with
 |[]=>some (.normal,e,h)
 |i::is=>match bH ops i,bH before i with
  |some o,some mask=>
   match qD (jQ e (j6 o)) o.guard with
   |some false=>F.draw base ops is before (⟨i,o,jQ e (j6 o), .tuple #[], .skip⟩::rs) (bM e o.dst (.tuple #[])) h
   |some true=>
    bif wK o.op then
     match Ay h base (jQ e (j6 o)) o.op with
     |some (.val v h')=>
      bif AL o.op then
       bif xU h' base rs then F.draw base ops is before (⟨i,o,jQ e (j6 o),v, .made h.next⟩::rs) (bM e o.dst v) h' else none
      else bif Nat.beq h'.next h.next then F.draw base ops is before (⟨i,o,jQ e (j6 o),v, .quiet⟩::rs) (bM e o.dst v) h
      else bif vn before i is then
       match Ay {h with log:=[]} h.next (jQ e (j6 o)) o.op with
       |some (.val v h2)=>match iO {h2 with log:=aC base h.log h2.log} base h2.log mask rs with
        |some rs'=>F.draw base ops is before rs' (bM e o.dst v) {h2 with log:=aC base h.log h2.log}
        |none=>none
       |_=>none
      else none
     |_=>none
    else
     match Ay {h with log:=[]} h.next (jQ e (j6 o)) o.op with
     |some (.val v h2)=>match iO {h2 with log:=aC base h.log h2.log} base h2.log mask rs with
      |some rs'=>F.draw base ops is before rs' (bM e o.dst v) {h2 with log:=aC base h.log h2.log}
      |none=>none
     |some (.call fn args _)=>match F.iy fn args {h with log:=[]}with
      |some (.ret v,h2)=>match iO {h2 with log:=aC base h.log h2.log} base h2.log mask rs with
       |some rs'=>F.draw base ops is before rs' (bM e o.dst v) {h2 with log:=aC base h.log h2.log}
       |none=>none
      |some (.panic v,h2)=>some (.panic v,[],{h2 with log:=aC base h.log h2.log})
      |none=>none
     |_=>none
   |none=>none
  |_,_=>none
noncomputable def BV(T:Nat→Option af)(F:Fam):Fn→List Value→Heap→Option (Res×Heap):=fun fn args h=>
 match fn with
 | .func f=>F.call f args h
 | .yield l=>zY F l args h
 |_=>none
noncomputable def EL(T:Nat→Option af)(F:Fam):Nat→List Value→Heap→Option (Res×Heap):=fun f args h=>
 match T f with
 |none=>none
 |some (.jW p)=>match p args h with
  |some (v,h')=>some (.ret v,h')
  |none=>none
 |some (.code code results)=>match F.exec h.next none code (dV 0 args) [] h with
  |some (.panic v,e,ds,h1)=>F.unw results ds (some v) e h h1
  |some (.exit _,_,_,_)=>none
  |some (_,e,ds,h1)=>F.unw results ds none e h h1
  |none=>none
noncomputable def Lw(T:Nat→Option af)(F:Fam):List (Nat×Option (Option Nat))→Dfs→Option Value→Env→Heap→Heap→Option (Res×Heap):=fun results ds pan e h h1=>
 match ds with
 |[]=>match pan with
  |some v=>some (.panic v,h1)
  |none=>match HR h1 e results with
   |some vs=>some (.ret (eS vs),gcA h h1 (eS vs))
   |none=>none
 |(.func (.func g) first cap,args)::ds=>match F.defer g (dI first.toList (dI args cap.toList)) pan {h1 with log:=[]}with
  |some (pan',h2)=>F.unw results ds pan' e h {h2 with log:=aC h.next h1.log h2.log}
  |none=>none
 |_=>none
noncomputable def BW(T:Nat→Option af)(F:Fam):Nat→List Value→Option Value→Heap→Option (Option Value×Heap):=fun g args pan h=>
 match T g with
 |some (.code code [])=>match F.fI h.next code (dV 0 args) pan h with
  |some (.normal,_,pan',h')=>some (pan',h')
  |some (.ret,_,pan',h')=>some (pan',h')
  |_=>none
 |_=>none
noncomputable def BX(T:Nat→Option af)(F:Fam):Nat→aY→Env→Option Value→Heap→Option (bw×Env×Option Value×Heap):=fun base c e pan h=>
 match c with
 | .skip=>some (.normal,e,pan,h)
 | .region ops keep=>match F.jF base ops e pan h with
   |some (.normal,e',pan',h')=>some (.normal,jQ e' keep,pan',h')
   |r=>r
 | .seq a b=>match F.fI base a e pan h with
   |some (.normal,e',pan',h')=>F.fI base b e' pan' h'
   |r=>r
 | .cond c a b=>match evQ h e c with
   |some (.bool true)=>F.fI base a e pan h
   |some (.bool false)=>F.fI base b e pan h
   |_=>none
 | .ret=>some (.ret,e,pan,h)
 |_=>none
noncomputable def EP(T:Nat→Option af)(F:Fam):Nat→List aW→Env→Option Value→Heap→Option (bw×Env×Option Value×Heap):=fun base ops e pan h=>
 match ops with
 |[]=>some (.normal,e,pan,h)
 |o::os=>match qD e o.guard with
  |some false=>F.jF base os (bM e o.dst (.tuple #[])) pan h
  |some true=>match Ay h base e o.op with
   |some (.val v h')=>F.jF base os (bM e o.dst v) pan h'
   |some .recover=>match pan with
    |some v=>F.jF base os (bM e o.dst v) none h
    |none=>F.jF base os (bM e o.dst .nilIface) none h
   |_=>none
  |none=>none
noncomputable def Fam.CI(T:Nat→Option af)(F:Fam):Fam where
 exec:=EN T F
 ops:=Lu T F
 draw:=EM T F
 iy:=BV T F
 call:=EL T F
 unw:=Lw T F
 defer:=BW T F
 fI:=BX T F
 jF:=EP T F
noncomputable def ni(T:Nat→Option af)(n:Nat):Fam:=Nat.rec Fam.none (fun _ F=>Fam.CI T F) n
theorem Ii:Fam.CI=Fam.succ:=by
 funext T F
 unfold Fam.CI Fam.succ
 simp only[Fam.mk.injEq]
 refine⟨?_,?_,?_,?_,?_,?_,?_,?_,?_⟩
 ·funext x0 x1 x2 x3 x4 x5;unfold EN zX HC;first|rfl|(simp only[bL,bq,br,bP,lE,jf,gI,j5,jA,jH,iq,eC,aX,gH,gp,gO];rfl)
 ·funext x0 x1 x2 x3 x4 x5;unfold Lu;first|rfl|(simp only[bL,bq,br,bP,lE,jf,gI,j5,jA,jH,iq,eC,aX,gH,gp,gO];rfl)
 ·funext x0 x1 x2 x3 x4 x5 x6;unfold EM;first|rfl|(simp only[bL,bq,br,bP,lE,jf,gI,j5,jA,jH,iq,eC,aX,gH,gp,gO];rfl)
 ·funext x0 x1 x2;unfold BV zY;first|rfl|(simp only[bL,bq,br,bP,lE,jf,gI,j5,jA,jH,iq,eC,aX,gH,gp,gO];rfl)
 ·funext x0 x1 x2;unfold EL;first|rfl|(simp only[bL,bq,br,bP,lE,jf,gI,j5,jA,jH,iq,eC,aX,gH,gp,gO];rfl)
 ·funext x0 x1 x2 x3 x4 x5;unfold Lw;first|rfl|(simp only[bL,bq,br,bP,lE,jf,gI,j5,jA,jH,iq,eC,aX,gH,gp,gO];rfl)
 ·funext x0 x1 x2 x3;unfold BW;first|rfl|(simp only[bL,bq,br,bP,lE,jf,gI,j5,jA,jH,iq,eC,aX,gH,gp,gO];rfl)
 ·funext x0 x1 x2 x3 x4;unfold BX;first|rfl|(simp only[bL,bq,br,bP,lE,jf,gI,j5,jA,jH,iq,eC,aX,gH,gp,gO];rfl)
 ·funext x0 x1 x2 x3 x4;unfold EP;first|rfl|(simp only[bL,bq,br,bP,lE,jf,gI,j5,jA,jH,iq,eC,aX,gH,gp,gO];rfl)
theorem B6(T:Nat→Option af):∀n,ni T n=fam T n
 |0=>rfl
 |n+1=>by
  show Fam.CI T (ni T n)=Fam.succ T (fam T n)
  rw[B6 T n,Ii]
end Go.A
