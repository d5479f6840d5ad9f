/- The runs once more, for the kernel. -/
import Derived.Test.YteafdpbjocdbbaaGreatDoorHA
set_option linter.all false
section
namespace Go.A
structure Fam where
 exec:Nat→Option Nat→aJ→Env→Dfs→Heap→Option (bQ×Env×Dfs×Heap)
 ops:Nat→Option Nat→List aQ→Env→Dfs→Heap→Option (bQ×Env×Dfs×Heap)
 draw:Nat→List aQ→List Nat→List Nat→List Rec→Env→Heap→Option (bQ×Env×Heap)
 gQ:Fn→List Value→Heap→Option (Res×Heap)
 call:Nat→List Value→Heap→Option (Res×Heap)
 unw:List (Nat×Option (Option Nat))→Dfs→Option Value→Env→Heap→Heap→Option (Res×Heap)
 defer:Nat→List Value→Option Value→Heap→Option (Option Value×Heap)
 fh:Nat→aJ→Env→Option Value→Heap→Option (bQ×Env×Option Value×Heap)
 ja:Nat→List aQ→Env→Option Value→Heap→Option (bQ×Env×Option Value×Heap)
def Fam.none:Fam where
 exec:=fun _ _ _ _ _ _=> .none
 ops:=fun _ _ _ _ _ _=> .none
 draw:=fun _ _ _ _ _ _ _=> .none
 gQ:=fun _ _ _=> .none
 call:=fun _ _ _=> .none
 unw:=fun _ _ _ _ _ _=> .none
 defer:=fun _ _ _ _=> .none
 fh:=fun _ _ _ _ _=> .none
 ja:=fun _ _ _ _ _=> .none
def Ka(T:Nat→Option ah)(F:Fam):Nat→Option Nat→aJ→Env→Dfs→Heap→Option (bQ×Env×Dfs×Heap):=fun base rnd c e ds h=>
    match c with
    | .skip=>some (.normal,e,ds,h)
    | .region ops keep=>match F.ops base rnd ops e ds h with
      |some (.normal,e',ds',h')=>some (.normal,bS e' keep,ds',h')
      |r=>r
    | .draw ops order before keep=>match F.draw base ops order before [] e h with
      |some (.normal,e',h')=>some (.normal,bS e' keep,ds,h')
      |some (x,e',h')=>some (x,e',ds,h')
      |none=>none
    | .seq a b=>match F.exec base rnd a e ds h with
      |some (.normal,e',ds',h')=>F.exec base rnd b e' ds' h'
      |r=>r
    | .cond c a b=>match ev h e c with
      |some (.bool true)=>F.exec base rnd a e ds h
      |some (.bool false)=>F.exec base rnd b e ds h
      |_=>none
    | .block id b=>match F.exec base rnd b e ds h with
      |some (.exit i,e',ds',h')=>bif Nat.beq i id then some (.normal,e',ds',h')else some (.exit i,e',ds',h')
      |r=>r
    | .loop b=>match F.exec base rnd b e ds h with
      |some (.normal,e',ds',h')=>F.exec base rnd (.loop b) e' ds' h'
      |r=>r
    | .rangeFunc f ps asg body=>bif jy h rnd then match ev h e f with
      |some (.func (.func g) first cap)=>bif fL (T g)then none else
       match F.call g (dg first.toList (dg [.func (.yield h.next) #[] #[]] cap.toList)) {h.push (.loop e ps asg body 0 .normal)with log:=[]}with
       |some (.ret _,h2)=>match h2.get h.next with
        |some (.loop _ _ _ _ st gu)=>bif Nat.beq st 1 then none else
         some (gu,e,ds,Heap.wr {h2 with log:=ax base h.log h2.log} base h.next .dead)
        |_=>none
       |some (.panic v,h2)=>some (.panic v,e,ds,{h2 with log:=ax base h.log h2.log})
       |none=>none
      |_=>none
      else none
    | .exit id=>some (.exit id,e,ds,h)
    | .ret=>some (.ret,e,ds,h)
def KK(T:Nat→Option ah)(F:Fam):Nat→Option Nat→List aQ→Env→Dfs→Heap→Option (bQ×Env×Dfs×Heap):=fun base rnd ops e ds h=>
    match ops with
    |[]=>some (.normal,e,ds,h)
    |o::os=>match bA e o.guard with
     |some false=>F.ops base rnd os (bK e o.dst (.tuple #[])) ds h
     |some true=>match aop h base e o.op with
      |some (.val v h')=>F.ops base rnd os (bK e o.dst v) ds h'
      |some (.call fn args h')=>match F.gQ fn args {h' with log:=[]}with
       |some (.ret v,h2)=>F.ops base rnd os (bK e o.dst v) ds {h2 with log:=ax base h'.log h2.log}
       |some (.panic v,h2)=>some (.panic v,e,ds,{h2 with log:=ax base h'.log h2.log})
       |none=>none
      |some (.iN f args)=>match rnd with|some _=>none|none=>F.ops base rnd os (bK e o.dst (.tuple #[])) ((f,args)::ds) h
      |some (.panic v h')=>some (.panic v,e,ds,h')
      |_=>none
     |none=>none
def Jb(T:Nat→Option ah)(F:Fam):Nat→List aQ→List Nat→List Nat→List Rec→Env→Heap→Option (bQ×Env×Heap):=fun base ops order before rs e h=>
    match order with
    |[]=>some (.normal,e,h)
    |i::is=>match bG ops i,bG before i with
     |some o,some mask=>
      match bA (bS e (bR o)) o.guard with
      |some false=>F.draw base ops is before (⟨i,o,bS e (bR o), .tuple #[], .skip⟩::rs) (bK e o.dst (.tuple #[])) h
      |some true=>
       bif gU o.op then
        match aop h base (bS e (bR o)) o.op with
        |some (.val v h')=>
         bif cO o.op then
          bif kq h' base rs then F.draw base ops is before (⟨i,o,bS e (bR o),v, .made h.next⟩::rs) (bK e o.dst v) h' else none
         else bif Nat.beq h'.next h.next then F.draw base ops is before (⟨i,o,bS e (bR o),v, .quiet⟩::rs) (bK e o.dst v) h
         else bif mF before i is then
          match aop {h with log:=[]} h.next (bS e (bR o)) o.op with
          |some (.val v h2)=>match bg {h2 with log:=ax base h.log h2.log} base h2.log mask rs with
           |some rs'=>F.draw base ops is before rs' (bK e o.dst v) {h2 with log:=ax base h.log h2.log}
           |none=>none
          |_=>none
         else none
        |_=>none
       else
        match aop {h with log:=[]} h.next (bS e (bR o)) o.op with
        |some (.val v h2)=>match bg {h2 with log:=ax base h.log h2.log} base h2.log mask rs with
         |some rs'=>F.draw base ops is before rs' (bK e o.dst v) {h2 with log:=ax base h.log h2.log}
         |none=>none
        |some (.call fn args _)=>match F.gQ fn args {h with log:=[]}with
         |some (.ret v,h2)=>match bg {h2 with log:=ax base h.log h2.log} base h2.log mask rs with
          |some rs'=>F.draw base ops is before rs' (bK e o.dst v) {h2 with log:=ax base h.log h2.log}
          |none=>none
         |some (.panic v,h2)=>some (.panic v,[],{h2 with log:=ax base h.log h2.log})
         |none=>none
        |_=>none
      |none=>none
     |_,_=>none
def Gz(T:Nat→Option ah)(F:Fam):Fn→List Value→Heap→Option (Res×Heap):=fun fn args h=>
    match fn with
    | .func f=>F.call f args h
    | .yield l=>match h.get l with
      |some (.loop e ps asg body 0 .normal)=>match gN e ps args with
       |some e1=>match F.exec h.next (some l) asg e1 [] h with
        |some (.normal,e2,ds2,h2)=>bif notReady (h2.get l)then none else match F.exec h.next (some l) body e2 ds2 {h2 with bM:=gM h2.bM l (.loop e ps asg body 1 .normal)}with
         |some (.normal,_,_,h3)=>match h3.get l with
          |some (.loop _ _ _ _ 1 _)=>some (.ret (.bool true),gcA h {h3 with bM:=gM h3.bM l (.loop e ps asg body 0 .normal)} (.bool true))
          |_=>none
         |some (.exit i,_,_,h3)=>match h3.get l with
          |some (.loop _ _ _ _ 1 _)=>some (.ret (.bool false),h3.wr h.next l (.loop e ps asg body 2 (.exit i)))
          |_=>none
         |some (.ret,_,_,h3)=>match h3.get l with
          |some (.loop _ _ _ _ 1 _)=>some (.ret (.bool false),h3.wr h.next l (.loop e ps asg body 2 .ret))
          |_=>none
         |_=>none
        |_=>none
       |none=>none
      |_=>none
    |_=>none
def J4(T:Nat→Option ah)(F:Fam):Nat→List Value→Heap→Option (Res×Heap):=fun f args h=>
    match T f with
    |none=>none
    |some (.jd p)=>match p args h with
     |some (v,h')=>some (.ret v,h')
     |none=>none
    |some (.code code results)=>match F.exec h.next none code (dA 0 args) [] h with
     |some (.panic v,e,ds,h1)=>F.unw results ds (some v) e h h1
     |some (.exit _,_,_,_)=>none
     |some (_,e,ds,h1)=>F.unw results ds none e h h1
     |none=>none
def Lt(T:Nat→Option ah)(F:Fam):List (Nat×Option (Option Nat))→Dfs→Option Value→Env→Heap→Heap→Option (Res×Heap):=fun results ds pan e h h1=>
    match ds with
    |[]=>match pan with
     |some v=>some (.panic v,h1)
     |none=>match bW h1 e results with
      |some vs=>some (.ret (dZ vs),gcA h h1 (dZ vs))
      |none=>none
    |(.func (.func g) first cap,args)::ds=>match F.defer g (dg first.toList (dg args cap.toList)) pan {h1 with log:=[]}with
     |some (pan',h2)=>F.unw results ds pan' e h {h2 with log:=ax h.next h1.log h2.log}
     |none=>none
    |_=>none
def GJ(T:Nat→Option ah)(F:Fam):Nat→List Value→Option Value→Heap→Option (Option Value×Heap):=fun g args pan h=>
    match T g with
    |some (.code code [])=>match F.fh h.next code (dA 0 args) pan h with
     |some (.normal,_,pan',h')=>some (pan',h')
     |some (.ret,_,pan',h')=>some (pan',h')
     |_=>none
    |_=>none
def GC(T:Nat→Option ah)(F:Fam):Nat→aJ→Env→Option Value→Heap→Option (bQ×Env×Option Value×Heap):=fun base c e pan h=>
    match c with
    | .skip=>some (.normal,e,pan,h)
    | .region ops keep=>match F.ja base ops e pan h with
      |some (.normal,e',pan',h')=>some (.normal,bS e' keep,pan',h')
      |r=>r
    | .seq a b=>match F.fh base a e pan h with
      |some (.normal,e',pan',h')=>F.fh base b e' pan' h'
      |r=>r
    | .cond c a b=>match ev h e c with
      |some (.bool true)=>F.fh base a e pan h
      |some (.bool false)=>F.fh base b e pan h
      |_=>none
    | .ret=>some (.ret,e,pan,h)
    |_=>none
def IY(T:Nat→Option ah)(F:Fam):Nat→List aQ→Env→Option Value→Heap→Option (bQ×Env×Option Value×Heap):=fun base ops e pan h=>
    match ops with
    |[]=>some (.normal,e,pan,h)
    |o::os=>match bA e o.guard with
     |some false=>F.ja base os (bK e o.dst (.tuple #[])) pan h
     |some true=>match aop h base e o.op with
      |some (.val v h')=>F.ja base os (bK e o.dst v) pan h'
      |some .recover=>match pan with
       |some v=>F.ja base os (bK e o.dst v) none h
       |none=>F.ja base os (bK e o.dst .nilIface) none h
      |_=>none
     |none=>none
def Fam.succ(T:Nat→Option ah)(F:Fam):Fam where
 exec:=Ka T F
 ops:=KK T F
 draw:=Jb T F
 gQ:=Gz T F
 call:=J4 T F
 unw:=Lt T F
 defer:=GJ T F
 fh:=GC T F
 ja:=IY T F
def fam(T:Nat→Option ah)(n:Nat):Fam:=Nat.rec Fam.none (fun _ F=>Fam.succ T F) n
theorem Du(T:Nat→Option ah):∀n,fam T n={exec:=b9 T n,ops:=gL T n,draw:=di T n,gQ:=fE T n,call:=gT T n,unw:=lz T n,defer:=iP T n,fh:=fm T n,ja:=gG T n}
 |0=>by
  show Fam.none=_
  unfold Fam.none
  simp only[Fam.mk.injEq]
  refine⟨?_,?_,?_,?_,?_,?_,?_,?_,?_⟩
  ·funext x0 x1 x2 x3 x4 x5;simp only[b9]
  ·funext x0 x1 x2 x3 x4 x5;simp only[gL]
  ·funext x0 x1 x2 x3 x4 x5 x6;simp only[di]
  ·funext x0 x1 x2;simp only[fE]
  ·funext x0 x1 x2;simp only[gT]
  ·funext x0 x1 x2 x3 x4 x5;simp only[lz]
  ·funext x0 x1 x2 x3;simp only[iP]
  ·funext x0 x1 x2 x3 x4;simp only[fm]
  ·funext x0 x1 x2 x3 x4;simp only[gG]
 |n+1=>by
  show Fam.succ T (fam T n)=_
  rw[Du T n]
  unfold Fam.succ
  simp only[Fam.mk.injEq]
  refine⟨?_,?_,?_,?_,?_,?_,?_,?_,?_⟩
  ·funext x0 x1 x2 x3 x4 x5;refine Eq.trans ?_ (b9.eq_def T (n+1) x0 x1 x2 x3 x4 x5).symm;rfl
  ·funext x0 x1 x2 x3 x4 x5;refine Eq.trans ?_ (gL.eq_def T (n+1) x0 x1 x2 x3 x4 x5).symm;rfl
  ·funext x0 x1 x2 x3 x4 x5 x6;refine Eq.trans ?_ (di.eq_def T (n+1) x0 x1 x2 x3 x4 x5 x6).symm;rfl
  ·funext x0 x1 x2;refine Eq.trans ?_ (fE.eq_def T (n+1) x0 x1 x2).symm;rfl
  ·funext x0 x1 x2;refine Eq.trans ?_ (gT.eq_def T (n+1) x0 x1 x2).symm;rfl
  ·funext x0 x1 x2 x3 x4 x5;refine Eq.trans ?_ (lz.eq_def T (n+1) x0 x1 x2 x3 x4 x5).symm;rfl
  ·funext x0 x1 x2 x3;refine Eq.trans ?_ (iP.eq_def T (n+1) x0 x1 x2 x3).symm;rfl
  ·funext x0 x1 x2 x3 x4;refine Eq.trans ?_ (fm.eq_def T (n+1) x0 x1 x2 x3 x4).symm;rfl
  ·funext x0 x1 x2 x3 x4;refine Eq.trans ?_ (gG.eq_def T (n+1) x0 x1 x2 x3 x4).symm;rfl
end Go.A
end
section
namespace Go.A
noncomputable def LA(k:IntKind):Nat:=IntKind.rec (motive:=fun _=>Nat) 0 1 2 3 4 5 6 7 k
noncomputable def kEq(a b:IntKind):Bool:=Nat.beq (LA a) (LA b)
theorem uP(a b:IntKind):kEq a b=decide (a=b):=by cases a<;>cases b<;>rfl
noncomputable def FX(m:Nat)(b:Int):Bool:=Int.rec (motive:=fun _=>Bool) (fun n=>Nat.beq m n) (fun _=>false) b
noncomputable def Fc(m:Nat)(b:Int):Bool:=Int.rec (motive:=fun _=>Bool) (fun _=>false) (fun n=>Nat.beq m n) b
noncomputable def iEq(a b:Int):Bool:=Int.rec (motive:=fun _=>Int→Bool) FX Fc a b
theorem xK(a b:Int):iEq a b=(a==b):=by
 rw[Bool.eq_iff_iff]
 simp only[beq_iff_eq]
 cases a<;>cases b<;>simp[iEq,FX,Fc,Nat.beq_eq]<;>omega
noncomputable def CK(m:Nat)(b:Int):Bool:=Int.rec (motive:=fun _=>Bool) (fun n=>Nat.blt m n) (fun _=>false) b
noncomputable def ED(m:Nat)(b:Int):Bool:=Int.rec (motive:=fun _=>Bool) (fun _=>true) (fun n=>Nat.blt n m) b
noncomputable def iLt(a b:Int):Bool:=Int.rec (motive:=fun _=>Int→Bool) CK ED a b
theorem JQ(a b:Int):iLt a b=decide (a<b):=by
 rw[Bool.eq_iff_iff]
 simp only[decide_eq_true_eq]
 cases a<;>cases b<;>simp[iLt,CK,ED,Nat.blt_eq]<;>omega
noncomputable def topP(k:IntKind):Nat:=IntKind.rec (motive:=fun _=>Nat) 128 32768 2147483648 9223372036854775808 256 65536 4294967296 18446744073709551616 k
noncomputable def topN(k:IntKind):Nat:=IntKind.rec (motive:=fun _=>Nat) 128 32768 2147483648 9223372036854775808 0 0 0 0 k
noncomputable def IN(k:IntKind)(n:Int):Int:=Int.rec (motive:=fun _=>Int) (fun m=>bif Nat.blt m (topP k)then .ofNat m else k.wrap (.ofNat m)) (fun m=>bif Nat.blt m (topN k)then .negSucc m else k.wrap (.negSucc m)) n
theorem Fg(k:IntKind)(n:Int):IN k n=jD k n:=by cases n<;>cases k<;>rfl
noncomputable def JG{α:Type}(m:Nat)(f:Nat→α):α:=Nat.rec (motive:=fun _=>α) (f 0) (fun n _=>f (Nat.succ n)) m
theorem Hp{α:Type}(m:Nat)(f:Nat→α):JG m f=f m:=by cases m<;>rfl
noncomputable def JJ{α:Type}(m:Int)(f:Int→α):α:=Int.rec (motive:=fun _=>α) (fun n=>JG n fun n=>f (.ofNat n)) (fun n=>JG n fun n=>f (.negSucc n)) m
theorem Ii{α:Type}(m:Int)(f:Int→α):JJ m f=f m:=by cases m<;>simp[JJ,Hp]
noncomputable def mkI(k:IntKind)(n:Int):Option Value:=JJ (IN k n) fun n=>some (.int k n)
noncomputable def D7(k:IntKind)(x y:Int):Option Value:=mkI k (x+y)
noncomputable def Fl(k:IntKind)(x y:Int):Option Value:=mkI k (x-y)
noncomputable def Fb(k:IntKind)(x y:Int):Option Value:=mkI k (x*y)
noncomputable def Gg(_:IntKind)(x y:Int):Option Value:=some (.bool (iEq x y))
noncomputable def FD(_:IntKind)(x y:Int):Option Value:=some (.bool (Bool.rec true false (iEq x y)))
noncomputable def Fh(_:IntKind)(x y:Int):Option Value:=some (.bool (iLt x y))
noncomputable def DG(_:IntKind)(x y:Int):Option Value:=some (.bool (Bool.rec true false (iLt y x)))
noncomputable def Ft(_:IntKind)(x y:Int):Option Value:=some (.bool (iLt y x))
noncomputable def DE(_:IntKind)(x y:Int):Option Value:=some (.bool (Bool.rec true false (iLt x y)))
def Dz(k:IntKind)(x y:Int):Option Value:=arith .quo k x y
def EE(k:IntKind)(x y:Int):Option Value:=arith .rem k x y
def Fv(k:IntKind)(x y:Int):Option Value:=arith .and k x y
def Iy(k:IntKind)(x y:Int):Option Value:=arith .or k x y
def EK(k:IntKind)(x y:Int):Option Value:=arith .xor k x y
def uC(k:IntKind)(x y:Int):Option Value:=arith .andNot k x y
noncomputable def Fi(k:IntKind)(x:Int)(k':IntKind)(y:Int):Option Value:=Bool.rec none (D7 k x y) (kEq k k')
noncomputable def Dh(k:IntKind)(x:Int)(k':IntKind)(y:Int):Option Value:=Bool.rec none (Fl k x y) (kEq k k')
noncomputable def F0(k:IntKind)(x:Int)(k':IntKind)(y:Int):Option Value:=Bool.rec none (Fb k x y) (kEq k k')
noncomputable def FH(k:IntKind)(x:Int)(k':IntKind)(y:Int):Option Value:=Bool.rec none (Dz k x y) (kEq k k')
noncomputable def CU(k:IntKind)(x:Int)(k':IntKind)(y:Int):Option Value:=Bool.rec none (EE k x y) (kEq k k')
noncomputable def EV(k:IntKind)(x:Int)(k':IntKind)(y:Int):Option Value:=Bool.rec none (Fv k x y) (kEq k k')
noncomputable def JK(k:IntKind)(x:Int)(k':IntKind)(y:Int):Option Value:=Bool.rec none (Iy k x y) (kEq k k')
noncomputable def CL(k:IntKind)(x:Int)(k':IntKind)(y:Int):Option Value:=Bool.rec none (EK k x y) (kEq k k')
def CO(k:IntKind)(x:Int)(_:IntKind)(y:Int):Option Value:=mK .shl k x y
def DC(k:IntKind)(x:Int)(_:IntKind)(y:Int):Option Value:=mK .shr k x y
noncomputable def tq(k:IntKind)(x:Int)(k':IntKind)(y:Int):Option Value:=Bool.rec none (uC k x y) (kEq k k')
noncomputable def Ek(k:IntKind)(x:Int)(k':IntKind)(y:Int):Option Value:=Bool.rec none (Gg k x y) (kEq k k')
noncomputable def CQ(k:IntKind)(x:Int)(k':IntKind)(y:Int):Option Value:=Bool.rec none (FD k x y) (kEq k k')
noncomputable def DH(k:IntKind)(x:Int)(k':IntKind)(y:Int):Option Value:=Bool.rec none (Fh k x y) (kEq k k')
noncomputable def D8(k:IntKind)(x:Int)(k':IntKind)(y:Int):Option Value:=Bool.rec none (DG k x y) (kEq k k')
noncomputable def Df(k:IntKind)(x:Int)(k':IntKind)(y:Int):Option Value:=Bool.rec none (Ft k x y) (kEq k k')
noncomputable def Fz(k:IntKind)(x:Int)(k':IntKind)(y:Int):Option Value:=Bool.rec none (DE k x y) (kEq k k')
noncomputable def DQ(op:BinOp):IntKind→Int→IntKind→Int→Option Value:=BinOp.rec (motive:=fun _=>IntKind→Int→IntKind→Int→Option Value) Fi Dh F0 FH CU EV JK CL CO DC tq Ek CQ DH D8 Df Fz op
noncomputable def JY(op:BinOp)(x y:Value):Option Value:=
 match x with
 | .int k a=>match y with
   | .int k' b=>DQ op k a k' b
   |_=>none
 | .string a=>match y with
   | .string b=>vR op a b
   |_=>none
 |_=>none
theorem F4{α:Type}(x y:α)(b:Bool):(Bool.rec x y b:α)=bif b then y else x:=by cases b<;>rfl
theorem I5(k:IntKind)(n:Int):mkI k n=some (.int k (jD k n)):=by simp[mkI,Ii,Fg]
theorem bD:JY=cV:=by
 funext op x y
 unfold JY
 split
 ·rename_i k a
  split
  ·rename_i k' b
   by_cases hk:k=k'
   ·subst hk
    cases op<;>simp[DQ,cV,Fi,Dh,F0,FH,CU,EV,JK,CL,CO,DC,tq,Ek,CQ,DH,D8,Df,Fz,D7,Fl,Fb,Dz,EE,Fv,Iy,EK,uC,Gg,FD,Fh,DG,Ft,DE,uP,F4,I5,arith,kG,xK,JQ]
    all_goals first
     |(simp[bne];done)
     |(rw[Bool.eq_iff_iff];simp;done)
     |(rw[Bool.eq_iff_iff];simp;omega)
   ·cases op<;>simp[DQ,cV,Fi,Dh,F0,FH,CU,EV,JK,CL,CO,DC,tq,Ek,CQ,DH,D8,Df,Fz,uP,F4,hk]
  ·rename_i hy
   cases op<;>cases y<;>first|rfl|exact(hy _ _ rfl).elim
 ·split
  ·cases op<;>rfl
  ·rename_i hy
   cases op<;>cases y<;>first|rfl|exact(hy _ rfl).elim
 ·rename_i h1 h2
  cases op<;>cases x<;>first|rfl|exact(h1 _ _ rfl).elim|exact(h2 _ rfl).elim
noncomputable def MB(_:Nat):Option Value:=none
noncomputable def My(p:Nat×Value)(_:Env)(ih:Nat→Option Value)(t:Nat):Option Value:=Bool.rec (ih t) (some p.2) (Nat.beq p.1 t)
noncomputable def geQ(e:Env)(t:Nat):Option Value:=List.rec (motive:=fun _=>Nat→Option Value) MB My e t
theorem jf:geQ=geT:=by
 funext e t
 induction e with
 |nil=>rfl
 |cons p e ih=>
  obtain⟨k,v⟩:=p
  show(Bool.rec (geQ e t) (some v) (Nat.beq k t):Option Value)=_
  rw[F4,ih];rfl
noncomputable def Li(t:Nat)(l:Env)(v:Value):Env:=(t,v)::l
noncomputable def Mf(_:Env):Env:=[]
noncomputable def Mx(t:Nat)(_:List Nat)(ih:Env→Env)(e:Env):Env:=Option.rec (motive:=fun _=>Env) (ih e) (Li t (ih e)) (geQ e t)
noncomputable def lu(e:Env)(l:List Nat):Env:=List.rec (motive:=fun _=>Env→Env) Mf Mx l e
theorem iL:lu=bS:=by
 funext e l
 induction l with
 |nil=>rfl
 |cons t l ih=>
  show(Option.rec (lu e l) (Li t (lu e l)) (geQ e t):Env)=_
  rw[jf,ih]
  simp only[bS]
  cases geT e t<;>rfl
noncomputable def MM(_:Nat):Option bE:=none
noncomputable def Mo(p:Nat×bE)(_:List (Nat×bE))(ih:Nat→Option bE)(t:Nat):Option bE:=Bool.rec (ih t) (some p.2) (Nat.beq p.1 t)
noncomputable def goQ(e:List (Nat×bE))(t:Nat):Option bE:=List.rec (motive:=fun _=>Nat→Option bE) MM Mo e t
theorem Jl:goQ=fS:=by
 funext e t
 induction e with
 |nil=>rfl
 |cons p e ih=>
  obtain⟨k,v⟩:=p
  show(Bool.rec (goQ e t) (some v) (Nat.beq k t):Option bE)=_
  rw[F4,ih];rfl
noncomputable def kP(h:Heap)(b:Nat):Option bE:=goQ h.bM b
theorem br:kP=Heap.get:=by funext h b;simp[kP,Heap.get,Jl]
noncomputable def Mm(_:Nat)(_:bE):List (Nat×bE):=[]
noncomputable def Ma(p:Nat×bE)(l:List (Nat×bE))(ih:Nat→bE→List (Nat×bE))(t:Nat)(o:bE):List (Nat×bE):=Bool.rec (p::ih t o) ((p.1,o)::l) (Nat.beq p.1 t)
noncomputable def soQ(e:List (Nat×bE))(t:Nat)(o:bE):List (Nat×bE):=List.rec (motive:=fun _=>Nat→bE→List (Nat×bE)) Mm Ma e t o
theorem kC:soQ=gM:=by
 funext e t o
 induction e with
 |nil=>rfl
 |cons p e ih=>
  obtain⟨k,v⟩:=p
  show(Bool.rec ((k,v)::soQ e t o) ((k,o)::e) (Nat.beq k t):List (Nat×bE))=_
  rw[F4,ih];rfl
noncomputable def wrQ(h:Heap)(base b:Nat)(o:bE):Heap:={h with bM:=soQ h.bM b o,log:=bif Nat.blt b base then(bif eE h.log b then h.log else b::h.log)else h.log}
theorem bI:wrQ=Heap.wr:=by funext h base b o;simp[wrQ,Heap.wr,kC]
noncomputable def evQ(h:Heap)(e:Env)(x:Operand):Option Value:=Operand.rec (motive:=fun _=>Env→Heap→Option Value) (fun t e _=>geQ e t) (fun v _ _=>some v) (fun g _ h=>ev h [] (.global g)) (fun f _ _=>some (.func (.func f) #[] #[])) x e h
theorem bH:evQ=ev:=by
 funext h e x
 cases x<;>first|rfl|(show geQ e _=_;rw[jf];rfl)
noncomputable def xD(h:Heap)(e:Env):List Operand→Option (List Value)
 |[]=>some []
 |x::xs=>match evQ h e x with
  |some v=>match xD h e xs with
   |some vs=>some (v::vs)
   |none=>none
  |none=>none
theorem bn:xD=evs:=by
 funext h e l
 induction l with
 |nil=>rfl
 |cons x l ih=>(simp only[xD,evs,bH,ih];rfl)
noncomputable def wZ(h:Heap)(e:Env)(z:List Value):List (Nat×Nat×Operand)→Option (List Value)
 |[]=>some z
 |(off,size,x)::ps=>match evQ h e x with
  |some v=>bif Nat.beq (cI (cellsOf v)) size&&Nat.ble (off+size) (cI z)then wZ h e (cW z off (cellsOf v)) ps else none
  |none=>none
theorem aX:wZ=kY:=by
 funext h e z l
 induction l generalizing z with
 |nil=>rfl
 |cons p l ih=>obtain⟨a,b,x⟩:=p;(simp only[wZ,kY,bH,ih];rfl)
noncomputable def oV(e:Env)(g:Option (Nat×Bool)):Option Bool:=
 match g with
 |none=>some true
 |some (t,b)=>match geQ e t with
  |some (.bool x)=>some (x==b)
  |some _=>some false
  |none=>none
theorem fH:oV=bA:=by
 funext e g
 cases g with
 |none=>rfl
 |some p=>obtain⟨t,b⟩:=p;(simp only[oV,bA,jf];rfl)
noncomputable def DI(h:Heap)(e:Env):List (Nat×Option (Option Nat))→Option (List Value)
 |[]=>some []
 |(t,none)::rs=>match geQ e t with
  |some v=>match DI h e rs with
   |some vs=>some (v::vs)
   |none=>none
  |none=>none
 |(t,some n)::rs=>match geQ e t with
  |some a=>match mH h n a with
   |some v=>match DI h e rs with
    |some vs=>some (v::vs)
    |none=>none
   |none=>none
  |none=>none
theorem jL:DI=bW:=by
 funext h e l
 induction l with
 |nil=>rfl
 |cons p l ih=>
  obtain⟨t,n⟩:=p
  cases n<;>(simp only[DI,bW,jf,ih];rfl)
noncomputable def Gj(l:dw)(x y:Value):Option Bool:=
 match l with
 | .i q=>match x with
   | .int k a=>match y with
     | .int k' b=>bif kEq k q&&kEq k' q then some (iEq a b)else none
     |_=>none
   |_=>none
 |l=>fZ l x y
theorem CY:Gj=fZ:=by
 funext l x y
 unfold Gj
 split
 ·rename_i q
  split
  ·rename_i k a
   split
   ·rename_i k' b
    simp only[fZ,uP,xK,cond_eq_ite,Bool.and_eq_true,decide_eq_true_eq]
    by_cases h1:k=q<;>by_cases h2:k'=q<;>simp[h1,h2]
   ·rename_i hy
    cases y<;>first|rfl|exact(hy _ _ rfl).elim
  ·rename_i hx
   cases x<;>first|rfl|exact(hx _ _ rfl).elim
 ·rfl
noncomputable def lV:List dw→List Value→List Value→Option Bool
 |[],[],[]=>some true
 |l::ls,x::xs,y::ys=>match Gj l x y with
  |some true=>lV ls xs ys
  |some false=>match lV ls xs ys with
   |some _=>some false
   |none=>none
  |none=>none
 |_,_,_=>none
theorem aE:lV=aO:=by
 funext ls
 induction ls with
 |nil=>funext xs ys;cases xs<;>cases ys<;>rfl
 |cons l ls ih=>
  funext xs ys
  cases xs<;>cases ys<;>first|rfl|(simp only[lV,aO,CY,ih];rfl)
noncomputable def nU(ag:Bool)(ls:List dw)(k:Value):Bool:=
 match mQ k==ag,lV ls (cellsOf k) (cellsOf k)with
 |true,some _=>true
 |_,_=>false
theorem aL:nU=iU:=by funext ag ls k;(simp only[nU,iU,aE];rfl)
noncomputable def zi(ag:Bool)(ls:List dw)(k k':Value):Option Bool:=
 match mQ k'==ag with
 |true=>lV ls (cellsOf k) (cellsOf k')
 |false=>none
theorem BC:zi=mG:=by funext ag ls k k';(simp only[zi,mG,aE];rfl)
noncomputable def tV(ag:Bool)(ls:List dw)(k:Value):Nat→List (Value×Value)→Option (Option (Nat×Value))
 |_,[]=>some none
 |i,(k',v)::es=>match zi ag ls k k' with
  |some true=>some (some (i,v))
  |some false=>tV ag ls k (i+1) es
  |none=>none
theorem aY:tV=j5:=by
 funext ag ls k i es
 induction es generalizing i with
 |nil=>rfl
 |cons p es ih=>obtain⟨a,b⟩:=p;(simp only[tV,j5,BC,ih];rfl)
noncomputable def vf(x y:Value):Bool:=
 match x with
 | .int k a=>match y with
   | .int k' b=>kEq k k'&&iEq a b
   |_=>false
 |x=>jv x y
theorem tN:vf=jv:=by
 funext x y
 unfold vf
 split
 ·rename_i k a
  split
  ·rename_i k' b
   simp only[jv,uP,xK]
   by_cases h:k=k'<;>simp[h]
  ·rename_i hy
   cases y<;>first|rfl|exact(hy _ _ rfl).elim
 ·rfl
end Go.A
end
section
namespace Go.A
noncomputable def Fk(h:Heap)(n:Option Nat):Value→Option Value
 | .pointer (some ⟨b,o,none⟩)=>match kP h b with
   |some (.cells vs _ _)=>match n with
    |none=>bG vs o
    |some n=>let l:=dM n (dN o vs);bif Nat.beq (cI l) n then some (.agg l.toArray)else none
   |_=>none
 |_=>none
noncomputable def x9(h:Heap)(base n:Nat)(v:Value):Value→Option Heap
 | .pointer (some ⟨b,o,none⟩)=>match kP h b with
   |some (.cells vs true sz)=>bif Nat.beq (cI (cellsOf v)) n&&Nat.ble (o+n) (cI vs)&&fB (cellsOf v)then some (wrQ h base b (.cells (cW vs o (cellsOf v)) true sz))else none
   |_=>none
 |_=>none
noncomputable def zb(h:Heap)(e:Env)(dflt:Nat):Option Operand→Option Nat
 |none=>some dflt
 |some x=>match evQ h e x with
  |some v=>kU v
  |none=>none
noncomputable def vw(h:Heap)(e:Env)(size:Nat)(a:Option Addr)(len cap:Nat)(lo hi mx:Option Operand):Option (Value×Heap):=
 match zb h e 0 lo,zb h e len hi with
 |some l,some u=>
  match mx with
  |some _=>match zb h e 0 mx with
   |some m=>bif Nat.ble l u&&Nat.ble u m&&Nat.ble m (bif Nat.beq cap UNK then len else cap)&&Nat.blt m UNK then
    some (.slice (bif Nat.beq m l then a else match a with|some ⟨b,o,none⟩=>some ⟨b,o+l*size,none⟩|a=>a) (u-l) (m-l),h)
    else none
   |none=>none
  |none=>
   bif Nat.beq cap UNK then
    match a with
    |some ⟨b,o,none⟩=>match kP h b with
     |some (.cells vs _ sz)=>
      bif Nat.beq sz size&&Nat.ble l u&&(Nat.ble u len||Nat.ble (o+u*size) (cI vs))then
       bif Nat.blt l len||Nat.blt l u then some (.slice (some ⟨b,o+l*size,none⟩) (u-l) UNK,h)
       else bif Nat.beq l 0 then some (.slice (some ⟨b,o,none⟩) 0 UNK,h)
       else some (.slice (some ⟨h.next,0,none⟩) 0 UNK,h.push (.cells [] false size))
      else none
     |_=>none
    |_=>none
   else bif Nat.ble l u&&Nat.ble u cap then
    some (.slice (bif Nat.beq cap l then a else match a with|some ⟨b,o,none⟩=>some ⟨b,o+l*size,none⟩|a=>a) (u-l) (cap-l),h)
    else none
 |_,_=>none
noncomputable def HD(h:Heap)(size:Nat):Value→Option (List Value×Nat)
 | .slice none n _=>bif Nat.beq n 0 then some ([],0)else none
 | .slice (some ⟨b,o,none⟩) n _=>match kP h b with
   |some (.cells vs _ _)=>let l:=dM (n*size) (dN o vs);bif Nat.beq (cI l) (n*size)then some (l,n)else none
   |_=>none
 | .string s=>bif Nat.beq size 1 then some (s.data.toList.map fun b=> .int .u8 b.toNat,s.size)else none
 |_=>none
noncomputable def qV(h:Heap)(base size bytes:Nat)(s:Value)(new:List Value)(n:Nat):Option (Value×Heap):=
 match s with
 | .slice a len cap=>
   bif Nat.beq n 0 then(bif Nat.ble len cap then some (s,h)else none)else
   bif Nat.ble ((2*(len+n)+768)*bytes) 281474976710656 then
    match a with
    |none=>bif Nat.beq len 0&&Nat.beq cap 0 then some (.slice (some ⟨h.next,0,none⟩) n UNK,h.push (.cells new true size))else none
    |some ⟨b,o,none⟩=>match kP h b with
     |some (.cells vs own sz)=>
      bif Nat.beq cap UNK then
       bif own&&Nat.beq sz size then
        bif Nat.ble (o+(len+n)*size) (cI vs)&&fB new then
         some (.slice (some ⟨b,o,none⟩) (len+n) UNK,wrQ h base b (.cells (cW vs (o+len*size) new) true sz))
        else bif Nat.beq o 0&&Nat.beq (len*size) (cI vs)&&fB new then
         some (.slice (some ⟨h.next,0,none⟩) (len+n) UNK,(wrQ h base b .dead).push (.cells (dg vs new) true size))
        else none
       else none
      else bif Nat.ble (len+n) cap then
       bif own&&Nat.ble (o+(len+n)*size) (cI vs)&&fB new then
        some (.slice (some ⟨b,o,none⟩) (len+n) cap,wrQ h base b (.cells (cW vs (o+len*size) new) true sz))
       else none
      else bif Nat.ble (o+len*size) (cI vs)then
       some (.slice (some ⟨h.next,0,none⟩) (len+n) UNK,h.push (.cells (dg (dM (len*size) (dN o vs)) new) true size))
      else none
     |_=>none
    |_=>none
   else none
 |_=>none
theorem aR:Fk=mH:=by
 funext h n v
 unfold Fk mH
 simp only[bH,bn,aX,bD,aY,aL,aE,br,bI];rfl
theorem aW:x9=oe:=by
 funext h base n v x
 unfold x9 oe
 simp only[bH,bn,aX,bD,aY,aL,aE,br,bI];rfl
theorem bL:zb=bnd:=by
 funext h e d x
 unfold zb bnd
 simp only[bH,bn,aX,bD,aY,aL,aE,br,bI];rfl
theorem aV:vw=eY:=by
 funext h e size a len cap lo hi mx
 unfold vw eY
 simp only[bH,bn,aX,bD,aY,aL,aE,br,bI,bL];rfl
theorem bO:HD=cK:=by
 funext h size v
 unfold HD cK
 simp only[bH,bn,aX,bD,aY,aL,aE,br,bI];rfl
theorem aK:qV=gi:=by
 funext h base size bytes s new n
 unfold qV gi
 simp only[bH,bn,aX,bD,aY,aL,aE,br,bI];rfl
noncomputable def Gc(h:Heap)(base:Nat)(e:Env)(x:Operand):Option cj:=bV (evQ h e x) fun v=>some (.val v h)
noncomputable def yd(h:Heap)(base:Nat)(e:Env)(c:Operand)(a:Operand)(b:Operand):Option cj:=match evQ h e c with
 |some (.bool true)=>bV (evQ h e a) fun v=>some (.val v h)
 |some (.bool false)=>bV (evQ h e b) fun v=>some (.val v h)
 |_=>none
noncomputable def EN(h:Heap)(base:Nat)(e:Env)(z:List Value):Option cj:=some (.val (.pointer (some ⟨h.next,0,none⟩)) (h.push (.cells z true 1)))
noncomputable def Fs(h:Heap)(base:Nat)(e:Env)(x:Operand):Option cj:=bV (evQ h e x) fun v=>some (.val (.pointer (some ⟨h.next,0,none⟩)) (h.push (.cells (cellsOf v) true 1)))
noncomputable def vg(h:Heap)(base:Nat)(e:Env)(z:List Value)(ps:List (Nat×Nat×Operand)):Option cj:=match wZ h e z ps with
 |some cs=>some (.val (.agg cs.toArray) h)
 |none=>none
noncomputable def sn(h:Heap)(base:Nat)(e:Env)(z:List Value)(n:Nat)(ps:List (Nat×Nat×Operand)):Option cj:=match wZ h e (dx n z) ps with
 |some cs=>some (.val (.slice (some ⟨h.next,0,none⟩) n n) (h.push (.cells cs true (cI z))))
 |none=>none
noncomputable def zw(h:Heap)(base:Nat)(e:Env)(n:Option Nat)(a:Operand):Option cj:=bV (evQ h e a) fun a=>bV (Fk h n a) fun v=>some (.val v h)
noncomputable def uI(h:Heap)(base:Nat)(e:Env)(n:Nat)(a:Operand)(v:Operand):Option cj:=bV (evQ h e a) fun a=>bV (evQ h e v) fun v=>match x9 h base n v a with
 |some h'=>some (.val (.tuple #[]) h')
 |none=>none
noncomputable def sF(h:Heap)(base:Nat)(e:Env)(x:Operand):Option cj:=bV (evQ h e x) fun v=>match v with
 | .pointer none| .nilIface| .nilFunc=>none
 | .func (.method _) _ _=>none
 |v=>some (.val v h)
noncomputable def FE(h:Heap)(base:Nat)(e:Env):Bi→Operand→Operand→Option cj
 |(.num op),x,y=>bV (evQ h e x) fun x=>bV (evQ h e y) fun y=>bV (JY op x y) fun v=>some (.val v h)
 |(.beq neq),x,y=>match evQ h e x,evQ h e y with
  |some (.bool a),some (.bool b)=>some (.val (.bool (bif neq then !(a==b)else a==b)) h)
  |_,_=>none
 |(.nil k neq),x,y=>bV (evQ h e x) fun x=>bV (evQ h e y) fun y=>match nC k x y with
  |some b=>some (.val (.bool (bif neq then !b else b)) h)
  |none=>none
 |(.agg neq ls),x,y=>bV (evQ h e x) fun x=>bV (evQ h e y) fun y=>match x,y with
  | .agg xs, .agg ys=>match lV ls xs.toList ys.toList with
    |some b=>some (.val (.bool (bif neq then !b else b)) h)
    |none=>none
  |_,_=>none
noncomputable def Kk(h:Heap)(base:Nat)(e:Env)(op:UnOp)(x:Operand):Option cj:=bV (evQ h e x) fun x=>bV (zU op x) fun v=>some (.val v h)
noncomputable def zN(h:Heap)(base:Nat)(e:Env)(c:Cv)(x:Operand):Option cj:=bV (evQ h e x) fun x=>dU (nJ h c x)
noncomputable def qf(h:Heap)(base:Nat)(e:Env)(t:TypeId)(x:Operand):Option cj:=bV (evQ h e x) fun v=>some (.val (.iface t v) h)
noncomputable def so(h:Heap)(base:Nat)(e:Env)(fn:Fn)(fs:List Operand)(cs:List Operand):Option cj:=match xD h e fs,xD h e cs with
 |some fs,some cs=>some (.val (.func fn fs.toArray cs.toArray) h)
 |_,_=>none
noncomputable def vo(h:Heap)(base:Nat)(e:Env):Option cj:=some (.val (.map (some h.next)) (h.push (.map [])))
noncomputable def pV(h:Heap)(base:Nat)(e:Env)(z:List Value)(bytes:Nat)(l:Operand)(c:Operand):Option cj:=match evQ h e l,evQ h e c with
 |some l,some c=>match kU l,kU c with
  |some l,some c=>bif Nat.ble l c&&Nat.ble (bytes*c) 281474976710656&&Nat.blt c UNK then
   some (.val (.slice (some ⟨h.next,0,none⟩) l c) (h.push (.cells (dx c z) true (cI z))))
   else none
  |_,_=>none
 |_,_=>none
noncomputable def uT(h:Heap)(base:Nat)(e:Env):ASl→Operand→Option Operand→Option Operand→Option Operand→Option cj
 | .str,x,lo,hi,none=>match evQ h e x with
   |some (.string s)=>match zb h e 0 lo,zb h e s.size hi with
    |some l,some u=>bif Nat.ble l u&&Nat.ble u s.size then some (.val (.string (s.extract l u)) h)else none
    |_,_=>none
   |_=>none
 |(.sl size),x,lo,hi,mx=>match evQ h e x with
  |some (.slice a len cap)=>dU (vw h e size a len cap lo hi mx)
  |_=>none
 |(.arr n size),x,lo,hi,mx=>match evQ h e x with
  |some (.pointer (some a))=>dU (vw h e size (some a) n n lo hi mx)
  |_=>none
 | .str,_,_,_,(some _)=>none
noncomputable def vD(h:Heap)(base:Nat)(e:Env)(off:Nat)(x:Operand):Option cj:=match evQ h e x with
 |some (.pointer (some ⟨b,o,none⟩))=>some (.val (.pointer (some ⟨b,o+off,none⟩)) h)
 |_=>none
noncomputable def ve(h:Heap)(base:Nat)(e:Env)(off:Nat)(n:Option Nat)(x:Operand):Option cj:=match evQ h e x with
 |some (.agg cs)=>match n with
  |none=>bV (bG cs.toList off) fun v=>some (.val v h)
  |some n=>let l:=dM n (dN off cs.toList);bif Nat.beq (cI l) n then some (.val (.agg l.toArray) h)else none
 |_=>none
noncomputable def rT(h:Heap)(base:Nat)(e:Env)(len:Nat)(size:Nat)(x:Operand)(i:Operand):Option cj:=match evQ h e x,evQ h e i with
 |some (.pointer (some ⟨b,o,none⟩)),some (.int _ (.ofNat i))=>bif Nat.blt i len then some (.val (.pointer (some ⟨b,o+i*size,none⟩)) h)else none
 |_,_=>none
noncomputable def sW(h:Heap)(base:Nat)(e:Env)(size:Nat)(x:Operand)(i:Operand):Option cj:=match evQ h e x,evQ h e i with
 |some (.slice (some ⟨b,o,none⟩) len _),some (.int _ (.ofNat i))=>bif Nat.blt i len then some (.val (.pointer (some ⟨b,o+i*size,none⟩)) h)else none
 |_,_=>none
noncomputable def yp(h:Heap)(base:Nat)(e:Env)(len:Nat)(size:Nat)(n:Option Nat)(x:Operand)(i:Operand):Option cj:=match evQ h e x,evQ h e i with
 |some (.agg cs),some (.int _ (.ofNat i))=>bif Nat.blt i len then
  match n with
  |none=>bV (bG cs.toList (i*size)) fun v=>some (.val v h)
  |some n=>let l:=dM n (dN (i*size) cs.toList);bif Nat.beq (cI l) n then some (.val (.agg l.toArray) h)else none
  else none
 |_,_=>none
noncomputable def zh(h:Heap)(base:Nat)(e:Env)(x:Operand)(i:Operand):Option cj:=match evQ h e x,evQ h e i with
 |some (.string s),some (.int _ (.ofNat i))=>match bG s.data.toList i with
  |some b=>some (.val (.int .u8 b.toNat) h)
  |none=>none
 |_,_=>none
noncomputable def sg(h:Heap)(base:Nat)(e:Env)(ag:Bool)(ls:List dw)(z:Value)(ok:Bool)(m:Operand)(k:Operand):Option cj:=match evQ h e m,evQ h e k with
 |some (.map none),some k=>bif nU ag ls k then some (.val (bif ok then .tuple #[z, .bool false]else z) h)else none
 |some (.map (some r)),some k=>match kP h r with
  |some (.map es)=>bif nU ag ls k then match tV ag ls k 0 es with
   |some (some (_,v))=>some (.val (bif ok then .tuple #[v, .bool true]else v) h)
   |some none=>some (.val (bif ok then .tuple #[z, .bool false]else z) h)
   |none=>none else none
  |_=>none
 |_,_=>none
noncomputable def vq(h:Heap)(base:Nat)(e:Env)(ag:Bool)(ls:List dw)(m:Operand)(k:Operand)(v:Operand):Option cj:=match evQ h e m,evQ h e k,evQ h e v with
 |some (.map (some r)),some k,some v=>match kP h r with
  |some (.map es)=>bif nU ag ls k then match tV ag ls k 0 es with
   |some (some (i,_))=>some (.val (.tuple #[]) (wrQ h base r (.map (oB es i (k,v)))))
   |some none=>some (.val (.tuple #[]) (wrQ h base r (.map (dg es [(k,v)]))))
   |none=>none else none
  |_=>none
 |_,_,_=>none
noncomputable def pN(h:Heap)(base:Nat)(e:Env)(t:TypeId)(ok:Bool)(z:Value)(x:Operand):Option cj:=match evQ h e x with
 |some .nilIface=>bif ok then some (.val (.tuple #[z, .bool false]) h)else none
 |some (.iface t' v)=>if t'=t then some (.val (bif ok then .tuple #[v, .bool true]else v) h)
  else bif ok then some (.val (.tuple #[z, .bool false]) h)else none
 |_=>none
noncomputable def pY(h:Heap)(base:Nat)(e:Env)(t:Operand)(i:Nat):Option cj:=match evQ h e t with
 |some (.tuple vs)=>bV (bG vs.toList i) fun v=>some (.val v h)
 |_=>none
noncomputable def zL(h:Heap)(base:Nat)(e:Env)(f:Operand)(args:List Operand):Option cj:=match evQ h e f,xD h e args with
 |some f,some args=>m6 f args h
 |_,_=>none
noncomputable def rH(h:Heap)(base:Nat)(e:Env):Nat→Operand→Option cj
 |0,x=>match evQ h e x with
  |some (.string s)=>some (.val (.int .i64 s.size) h)
  |_=>none
 |1,x=>match evQ h e x with
  |some (.slice _ n _)=>some (.val (.int .i64 n) h)
  |_=>none
 |_,x=>match evQ h e x with
  |some (.map none)=>some (.val (.int .i64 0) h)
  |some (.map (some r))=>match kP h r with
   |some (.map es)=>some (.val (.int .i64 (cI es)) h)
   |_=>none
  |_=>none
noncomputable def rW(h:Heap)(base:Nat)(e:Env)(n:Nat):Option cj:=some (.val (.int .i64 n) h)
noncomputable def EI(h:Heap)(base:Nat)(e:Env)(x:Operand):Option cj:=match evQ h e x with
 |some (.slice _ _ c)=>bif Nat.beq c UNK then none else some (.val (.int .i64 c) h)
 |_=>none
noncomputable def sd(h:Heap)(base:Nat)(e:Env)(size:Nat)(bytes:Nat)(s:Operand)(x:Operand):Option cj:=match evQ h e s,evQ h e x with
 |some s,some x=>match HD h size x with
  |some (l,n)=>dU (qV h base size bytes s l n)
  |none=>none
 |_,_=>none
noncomputable def pW(h:Heap)(base:Nat)(e:Env)(z:List Value)(bytes:Nat)(s:Operand)(n:Operand):Option cj:=match evQ h e s,evQ h e n with
 |some s,some n=>match kU n with
  |some n=>bif Nat.blt n 9223372036854775808&&Nat.ble (n*bytes) 281474976710656 then dU (qV h base (cI z) bytes s (dx n z) n)else none
  |none=>none
 |_,_=>none
noncomputable def y8(h:Heap)(base:Nat)(e:Env)(size:Nat)(d:Operand)(s:Operand):Option cj:=match evQ h e d,evQ h e s with
 |some (.slice a dl _),some s=>match HD h size s with
  |some (l,n)=>
   let m:=Nat.min n dl
   match a with
   |none=>some (.val (.int .i64 m) h)
   |some ⟨b,o,none⟩=>match kP h b with
    |some (.cells vs true sz)=>bif Nat.ble (o+m*size) (cI vs)&&fB (dM (m*size) l)then
     some (.val (.int .i64 m) (wrQ h base b (.cells (cW vs o (dM (m*size) l)) true sz)))
     else none
    |_=>none
   |_=>none
  |none=>none
 |_,_=>none
noncomputable def u9(h:Heap)(base:Nat)(e:Env)(z:List Value)(x:Operand):Option cj:=match evQ h e x with
 |some (.slice a n _)=>
  bif Nat.beq n 0 then some (.val (.tuple #[]) h)else
  match a with
  |none=>some (.val (.tuple #[]) h)
  |some ⟨b,o,none⟩=>match kP h b with
   |some (.cells vs true sz)=>bif Nat.ble (o+cI (dx n z)) (cI vs)&&fB (dx n z)then some (.val (.tuple #[]) (wrQ h base b (.cells (cW vs o (dx n z)) true sz)))else none
   |_=>none
  |_=>none
 |_=>none
noncomputable def rS(h:Heap)(base:Nat)(e:Env)(mx:Bool)(args:List Operand):Option cj:=match xD h e args with
 |some (x::l)=>bV (mmA mx x l) fun v=>some (.val v h)
 |_=>none
noncomputable def r7(h:Heap)(base:Nat)(e:Env)(ag:Bool)(ls:List dw)(m:Operand)(k:Operand):Option cj:=match evQ h e m,evQ h e k with
 |some (.map (some r)),some k=>match kP h r with
  |some (.map es)=>bif nU ag ls k then match tV ag ls k 0 es with
   |some (some (i,_))=>some (.val (.tuple #[]) (wrQ h base r (.map (wL es i))))
   |some none=>some (.val (.tuple #[]) (wrQ h base r (.map es)))
   |none=>none else none
  |_=>none
 |some (.map none),some k=>bif nU ag ls k then some (.val (.tuple #[]) h)else none
 |_,_=>none
noncomputable def zI(h:Heap)(base:Nat)(e:Env)(f:Operand)(args:List Operand):Option cj:=match evQ h e f,xD h e args with
 |some (.func (.func g) first cap),some args=>some (.iN (.func (.func g) first cap) args)
 |_,_=>none
noncomputable def qe(h:Heap)(base:Nat)(e:Env):Option cj:=some .recover
noncomputable def zm(h:Heap)(base:Nat)(e:Env)(x:Operand):Option cj:=bV (evQ h e x) fun v=>match v with
 | .iface _ _=>some (.panic v h)
 |_=>none
noncomputable def vp(h:Heap)(base:Nat)(e:Env)(x:Operand):Option cj:=match evQ h e x with
 |some (.string s)=>some (.val (.pointer (some ⟨h.next,0,none⟩)) (h.push (.jZ s 0)))
 |_=>none
noncomputable def xF(h:Heap)(base:Nat)(e:Env):Operand→Bool→Option cj
 |x,true=>match evQ h e x with
  |some (.pointer (some ⟨r,0,none⟩))=>match kP h r with
   |some (.jZ s pos)=>bif Nat.blt pos s.size then
    let d:=Utf8.decode s pos
    some (.val (.tuple #[.bool true, .int .i64 pos, .int .i32 d.1]) (wrQ h base r (.jZ s (pos+d.2))))
    else some (.val (.tuple #[.bool false]) h)
   |_=>none
  |_=>none
 |_,false=>none
noncomputable def LW(x0:Operand)(h:Heap)(base:Nat)(e:Env):Option cj:=Gc h base e x0
noncomputable def Jn(x0:Operand)(x1:Operand)(x2:Operand)(h:Heap)(base:Nat)(e:Env):Option cj:=yd h base e x0 x1 x2
noncomputable def Lz(x0:List Value)(h:Heap)(base:Nat)(e:Env):Option cj:=EN h base e x0
noncomputable def LG(x0:Operand)(h:Heap)(base:Nat)(e:Env):Option cj:=Fs h base e x0
noncomputable def HJ(x0:List Value)(x1:List (Nat×Nat×Operand))(h:Heap)(base:Nat)(e:Env):Option cj:=vg h base e x0 x1
noncomputable def EC(x0:List Value)(x1:Nat)(x2:List (Nat×Nat×Operand))(h:Heap)(base:Nat)(e:Env):Option cj:=sn h base e x0 x1 x2
noncomputable def Jd(x0:Option Nat)(x1:Operand)(h:Heap)(base:Nat)(e:Env):Option cj:=zw h base e x0 x1
noncomputable def HR(x0:Nat)(x1:Operand)(x2:Operand)(h:Heap)(base:Nat)(e:Env):Option cj:=uI h base e x0 x1 x2
noncomputable def CZ(x0:Operand)(h:Heap)(base:Nat)(e:Env):Option cj:=sF h base e x0
noncomputable def K5(x0:Bi)(x1:Operand)(x2:Operand)(h:Heap)(base:Nat)(e:Env):Option cj:=FE h base e x0 x1 x2
noncomputable def MO(x0:UnOp)(x1:Operand)(h:Heap)(base:Nat)(e:Env):Option cj:=Kk h base e x0 x1
noncomputable def Kr(x0:Cv)(x1:Operand)(h:Heap)(base:Nat)(e:Env):Option cj:=zN h base e x0 x1
noncomputable def Ce(x0:TypeId)(x1:Operand)(h:Heap)(base:Nat)(e:Env):Option cj:=qf h base e x0 x1
noncomputable def Et(x0:Fn)(x1:List Operand)(x2:List Operand)(h:Heap)(base:Nat)(e:Env):Option cj:=so h base e x0 x1 x2
noncomputable def GS(h:Heap)(base:Nat)(e:Env):Option cj:=vo h base e
noncomputable def Cp(x0:List Value)(x1:Nat)(x2:Operand)(x3:Operand)(h:Heap)(base:Nat)(e:Env):Option cj:=pV h base e x0 x1 x2 x3
noncomputable def Gl(x0:ASl)(x1:Operand)(x2:Option Operand)(x3:Option Operand)(x4:Option Operand)(h:Heap)(base:Nat)(e:Env):Option cj:=uT h base e x0 x1 x2 x3 x4
noncomputable def HN(x0:Nat)(x1:Operand)(h:Heap)(base:Nat)(e:Env):Option cj:=vD h base e x0 x1
noncomputable def Ib(x0:Nat)(x1:Option Nat)(x2:Operand)(h:Heap)(base:Nat)(e:Env):Option cj:=ve h base e x0 x1 x2
noncomputable def Da(x0:Nat)(x1:Nat)(x2:Operand)(x3:Operand)(h:Heap)(base:Nat)(e:Env):Option cj:=rT h base e x0 x1 x2 x3
noncomputable def E0(x0:Nat)(x1:Operand)(x2:Operand)(h:Heap)(base:Nat)(e:Env):Option cj:=sW h base e x0 x1 x2
noncomputable def IT(x0:Nat)(x1:Nat)(x2:Option Nat)(x3:Operand)(x4:Operand)(h:Heap)(base:Nat)(e:Env):Option cj:=yp h base e x0 x1 x2 x3 x4
noncomputable def Jg(x0:Operand)(x1:Operand)(h:Heap)(base:Nat)(e:Env):Option cj:=zh h base e x0 x1
noncomputable def Dk(x0:Bool)(x1:List dw)(x2:Value)(x3:Bool)(x4:Operand)(x5:Operand)(h:Heap)(base:Nat)(e:Env):Option cj:=sg h base e x0 x1 x2 x3 x4 x5
noncomputable def GB(x0:Bool)(x1:List dw)(x2:Operand)(x3:Operand)(x4:Operand)(h:Heap)(base:Nat)(e:Env):Option cj:=vq h base e x0 x1 x2 x3 x4
noncomputable def Cz(x0:TypeId)(x1:Bool)(x2:Value)(x3:Operand)(h:Heap)(base:Nat)(e:Env):Option cj:=pN h base e x0 x1 x2 x3
noncomputable def Bp(x0:Operand)(x1:Nat)(h:Heap)(base:Nat)(e:Env):Option cj:=pY h base e x0 x1
noncomputable def JI(x0:Operand)(x1:List Operand)(h:Heap)(base:Nat)(e:Env):Option cj:=zL h base e x0 x1
noncomputable def K8(x0:Nat)(x1:Operand)(h:Heap)(base:Nat)(e:Env):Option cj:=rH h base e x0 x1
noncomputable def Ez(x0:Nat)(h:Heap)(base:Nat)(e:Env):Option cj:=rW h base e x0
noncomputable def LN(x0:Operand)(h:Heap)(base:Nat)(e:Env):Option cj:=EI h base e x0
noncomputable def EP(x0:Nat)(x1:Nat)(x2:Operand)(x3:Operand)(h:Heap)(base:Nat)(e:Env):Option cj:=sd h base e x0 x1 x2 x3
noncomputable def BS(x0:List Value)(x1:Nat)(x2:Operand)(x3:Operand)(h:Heap)(base:Nat)(e:Env):Option cj:=pW h base e x0 x1 x2 x3
noncomputable def Je(x0:Nat)(x1:Operand)(x2:Operand)(h:Heap)(base:Nat)(e:Env):Option cj:=y8 h base e x0 x1 x2
noncomputable def HM(x0:List Value)(x1:Operand)(h:Heap)(base:Nat)(e:Env):Option cj:=u9 h base e x0 x1
noncomputable def FC(x0:Bool)(x1:List Operand)(h:Heap)(base:Nat)(e:Env):Option cj:=rS h base e x0 x1
noncomputable def CM(x0:Bool)(x1:List dw)(x2:Operand)(x3:Operand)(h:Heap)(base:Nat)(e:Env):Option cj:=r7 h base e x0 x1 x2 x3
noncomputable def J9(x0:Operand)(x1:List Operand)(h:Heap)(base:Nat)(e:Env):Option cj:=zI h base e x0 x1
noncomputable def BQ(h:Heap)(base:Nat)(e:Env):Option cj:=qe h base e
noncomputable def IW(x0:Operand)(h:Heap)(base:Nat)(e:Env):Option cj:=zm h base e x0
noncomputable def GO(x0:Operand)(h:Heap)(base:Nat)(e:Env):Option cj:=vp h base e x0
noncomputable def Jf(x0:Operand)(x1:Bool)(h:Heap)(base:Nat)(e:Env):Option cj:=xF h base e x0 x1
noncomputable def MP(o:AOp):Heap→Nat→Env→Option cj:=AOp.rec (motive:=fun _=>Heap→Nat→Env→Option cj) LW Jn Lz LG HJ EC Jd HR CZ K5 MO Kr Ce Et GS Cp Gl HN Ib Da E0 IT Jg Dk GB Cz Bp JI K8 Ez LN EP BS Je HM FC CM J9 BQ IW GO Jf o
noncomputable def yI(h:Heap)(base:Nat)(e:Env)(o:AOp):Option cj:=MP o h base e
theorem jn:yI=aop:=by
 funext h base e o
 cases o
 case mov x0=>show Gc h base e x0=_;first|rfl|(unfold Gc;simp only[bH,bn,aX,bD,aY,aL,aE,br,bI,bL,aR,aW,aV,bO,aK];rfl)
 case pick x0 x1 x2=>show yd h base e x0 x1 x2=_;first|rfl|(unfold yd;simp only[bH,bn,aX,bD,aY,aL,aE,br,bI,bL,aR,aW,aV,bO,aK];rfl)
 case new x0=>show EN h base e x0=_;first|rfl|(unfold EN;simp only[bH,bn,aX,bD,aY,aL,aE,br,bI,bL,aR,aW,aV,bO,aK];rfl)
 case box x0=>show Fs h base e x0=_;first|rfl|(unfold Fs;simp only[bH,bn,aX,bD,aY,aL,aE,br,bI,bL,aR,aW,aV,bO,aK];rfl)
 case build x0 x1=>show vg h base e x0 x1=_;first|rfl|(unfold vg;simp only[bH,bn,aX,bD,aY,aL,aE,br,bI,bL,aR,aW,aV,bO,aK];rfl)
 case cJ x0 x1 x2=>show sn h base e x0 x1 x2=_;first|rfl|(unfold sn;simp only[bH,bn,aX,bD,aY,aL,aE,br,bI,bL,aR,aW,aV,bO,aK];rfl)
 case load x0 x1=>show zw h base e x0 x1=_;first|rfl|(unfold zw;simp only[bH,bn,aX,bD,aY,aL,aE,br,bI,bL,aR,aW,aV,bO,aK];rfl)
 case store x0 x1 x2=>show uI h base e x0 x1 x2=_;first|rfl|(unfold uI;simp only[bH,bn,aX,bD,aY,aL,aE,br,bI,bL,aR,aW,aV,bO,aK];rfl)
 case cz x0=>show sF h base e x0=_;first|rfl|(unfold sF;simp only[bH,bn,aX,bD,aY,aL,aE,br,bI,bL,aR,aW,aV,bO,aK];rfl)
 case un x0 x1=>show Kk h base e x0 x1=_;first|rfl|(unfold Kk;simp only[bH,bn,aX,bD,aY,aL,aE,br,bI,bL,aR,aW,aV,bO,aK];rfl)
 case conv x0 x1=>show zN h base e x0 x1=_;first|rfl|(unfold zN;simp only[bH,bn,aX,bD,aY,aL,aE,br,bI,bL,aR,aW,aV,bO,aK];rfl)
 case eT x0 x1=>show qf h base e x0 x1=_;first|rfl|(unfold qf;simp only[bH,bn,aX,bD,aY,aL,aE,br,bI,bL,aR,aW,aV,bO,aK];rfl)
 case fq x0 x1 x2=>show so h base e x0 x1 x2=_;first|rfl|(unfold so;simp only[bH,bn,aX,bD,aY,aL,aE,br,bI,bL,aR,aW,aV,bO,aK];rfl)
 case mkMap=>show vo h base e=_;first|rfl|(unfold vo;simp only[bH,bn,aX,bD,aY,aL,aE,br,bI,bL,aR,aW,aV,bO,aK];rfl)
 case mkSlice x0 x1 x2 x3=>show pV h base e x0 x1 x2 x3=_;first|rfl|(unfold pV;simp only[bH,bn,aX,bD,aY,aL,aE,br,bI,bL,aR,aW,aV,bO,aK];rfl)
 case cH x0 x1=>show vD h base e x0 x1=_;first|rfl|(unfold vD;simp only[bH,bn,aX,bD,aY,aL,aE,br,bI,bL,aR,aW,aV,bO,aK];rfl)
 case field x0 x1 x2=>show ve h base e x0 x1 x2=_;first|rfl|(unfold ve;simp only[bH,bn,aX,bD,aY,aL,aE,br,bI,bL,aR,aW,aV,bO,aK];rfl)
 case cQ x0 x1 x2 x3=>show rT h base e x0 x1 x2 x3=_;first|rfl|(unfold rT;simp only[bH,bn,aX,bD,aY,aL,aE,br,bI,bL,aR,aW,aV,bO,aK];rfl)
 case bp x0 x1 x2=>show sW h base e x0 x1 x2=_;first|rfl|(unfold sW;simp only[bH,bn,aX,bD,aY,aL,aE,br,bI,bL,aR,aW,aV,bO,aK];rfl)
 case qR x0 x1 x2 x3 x4=>show yp h base e x0 x1 x2 x3 x4=_;first|rfl|(unfold yp;simp only[bH,bn,aX,bD,aY,aL,aE,br,bI,bL,aR,aW,aV,bO,aK];rfl)
 case lZ x0 x1=>show zh h base e x0 x1=_;first|rfl|(unfold zh;simp only[bH,bn,aX,bD,aY,aL,aE,br,bI,bL,aR,aW,aV,bO,aK];rfl)
 case lookup x0 x1 x2 x3 x4 x5=>show sg h base e x0 x1 x2 x3 x4 x5=_;first|rfl|(unfold sg;simp only[bH,bn,aX,bD,aY,aL,aE,br,bI,bL,aR,aW,aV,bO,aK];rfl)
 case iJ x0 x1 x2 x3 x4=>show vq h base e x0 x1 x2 x3 x4=_;first|rfl|(unfold vq;simp only[bH,bn,aX,bD,aY,aL,aE,br,bI,bL,aR,aW,aV,bO,aK];rfl)
 case iK x0 x1 x2 x3=>show pN h base e x0 x1 x2 x3=_;first|rfl|(unfold pN;simp only[bH,bn,aX,bD,aY,aL,aE,br,bI,bL,aR,aW,aV,bO,aK];rfl)
 case extract x0 x1=>show pY h base e x0 x1=_;first|rfl|(unfold pY;simp only[bH,bn,aX,bD,aY,aL,aE,br,bI,bL,aR,aW,aV,bO,aK];rfl)
 case call x0 x1=>show zL h base e x0 x1=_;first|rfl|(unfold zL;simp only[bH,bn,aX,bD,aY,aL,aE,br,bI,bL,aR,aW,aV,bO,aK];rfl)
 case iZ x0=>show rW h base e x0=_;first|rfl|(unfold rW;simp only[bH,bn,aX,bD,aY,aL,aE,br,bI,bL,aR,aW,aV,bO,aK];rfl)
 case cap x0=>show EI h base e x0=_;first|rfl|(unfold EI;simp only[bH,bn,aX,bD,aY,aL,aE,br,bI,bL,aR,aW,aV,bO,aK];rfl)
 case append x0 x1 x2 x3=>show sd h base e x0 x1 x2 x3=_;first|rfl|(unfold sd;simp only[bH,bn,aX,bD,aY,aL,aE,br,bI,bL,aR,aW,aV,bO,aK];rfl)
 case iA x0 x1 x2 x3=>show pW h base e x0 x1 x2 x3=_;first|rfl|(unfold pW;simp only[bH,bn,aX,bD,aY,aL,aE,br,bI,bL,aR,aW,aV,bO,aK];rfl)
 case copy x0 x1 x2=>show y8 h base e x0 x1 x2=_;first|rfl|(unfold y8;simp only[bH,bn,aX,bD,aY,aL,aE,br,bI,bL,aR,aW,aV,bO,aK];rfl)
 case clear x0 x1=>show u9 h base e x0 x1=_;first|rfl|(unfold u9;simp only[bH,bn,aX,bD,aY,aL,aE,br,bI,bL,aR,aW,aV,bO,aK];rfl)
 case ei x0 x1=>show rS h base e x0 x1=_;first|rfl|(unfold rS;simp only[bH,bn,aX,bD,aY,aL,aE,br,bI,bL,aR,aW,aV,bO,aK];rfl)
 case delete x0 x1 x2 x3=>show r7 h base e x0 x1 x2 x3=_;first|rfl|(unfold r7;simp only[bH,bn,aX,bD,aY,aL,aE,br,bI,bL,aR,aW,aV,bO,aK];rfl)
 case iN x0 x1=>show zI h base e x0 x1=_;first|rfl|(unfold zI;simp only[bH,bn,aX,bD,aY,aL,aE,br,bI,bL,aR,aW,aV,bO,aK];rfl)
 case recover=>show qe h base e=_;first|rfl|(unfold qe;simp only[bH,bn,aX,bD,aY,aL,aE,br,bI,bL,aR,aW,aV,bO,aK];rfl)
 case nq x0=>show zm h base e x0=_;first|rfl|(unfold zm;simp only[bH,bn,aX,bD,aY,aL,aE,br,bI,bL,aR,aW,aV,bO,aK];rfl)
 case range x0=>show vp h base e x0=_;first|rfl|(unfold vp;simp only[bH,bn,aX,bD,aY,aL,aE,br,bI,bL,aR,aW,aV,bO,aK];rfl)
 case bin op x y=>show FE h base e op x y=_;cases op<;>(simp only[FE,aop,bH,bn,aX,bD,aY,aL,aE,br,bI,bL,aR,aW,aV,bO,aK];first|done|rfl)
 case slice k x lo hi mx=>show uT h base e k x lo hi mx=_;cases k<;>cases mx<;>(simp only[uT,aop,bH,bn,aX,bD,aY,aL,aE,br,bI,bL,aR,aW,aV,bO,aK];first|done|rfl)
 case len k x=>
  match k with
  |0=>show rH h base e 0 x=_;simp only[rH,aop,bH,bn,aX,bD,aY,aL,aE,br,bI,bL,aR,aW,aV,bO,aK];first|done|rfl
  |1=>show rH h base e 1 x=_;simp only[rH,aop,bH,bn,aX,bD,aY,aL,aE,br,bI,bL,aR,aW,aV,bO,aK];first|done|rfl
  |k+2=>show rH h base e (k+2) x=_;simp only[rH,aop,bH,bn,aX,bD,aY,aL,aE,br,bI,bL,aR,aW,aV,bO,aK];first|done|rfl
 case next x s=>show xF h base e x s=_;cases s<;>(simp only[xF,aop,bH,bn,aX,bD,aY,aL,aE,br,bI,bL,aR,aW,aV,bO,aK];first|done|rfl)
end Go.A
end
section
namespace Go.A
def K3(x0:Operand):List Operand:=ct (.mov x0)
def JZ(x0:Operand)(x1:Operand)(x2:Operand):List Operand:=ct (.pick x0 x1 x2)
def Lg(x0:List Value):List Operand:=ct (.new x0)
def Kt(x0:Operand):List Operand:=ct (.box x0)
def HT(x0:List Value)(x1:List (Nat×Nat×Operand)):List Operand:=ct (.build x0 x1)
def EA(x0:List Value)(x1:Nat)(x2:List (Nat×Nat×Operand)):List Operand:=ct (.cJ x0 x1 x2)
def IU(x0:Option Nat)(x1:Operand):List Operand:=ct (.load x0 x1)
def GF(x0:Nat)(x1:Operand)(x2:Operand):List Operand:=ct (.store x0 x1 x2)
def Gf(x0:Operand):List Operand:=ct (.cz x0)
def Lf(x0:Bi)(x1:Operand)(x2:Operand):List Operand:=ct (.bin x0 x1 x2)
def L8(x0:UnOp)(x1:Operand):List Operand:=ct (.un x0 x1)
def Kb(x0:Cv)(x1:Operand):List Operand:=ct (.conv x0 x1)
def Be(x0:TypeId)(x1:Operand):List Operand:=ct (.eT x0 x1)
def DD(x0:Fn)(x1:List Operand)(x2:List Operand):List Operand:=ct (.fq x0 x1 x2)
def GY:List Operand:=ct (.mkMap)
def Bh(x0:List Value)(x1:Nat)(x2:Operand)(x3:Operand):List Operand:=ct (.mkSlice x0 x1 x2 x3)
def GL(x0:ASl)(x1:Operand)(x2:Option Operand)(x3:Option Operand)(x4:Option Operand):List Operand:=ct (.slice x0 x1 x2 x3 x4)
def HQ(x0:Nat)(x1:Operand):List Operand:=ct (.cH x0 x1)
def Hw(x0:Nat)(x1:Option Nat)(x2:Operand):List Operand:=ct (.field x0 x1 x2)
def DL(x0:Nat)(x1:Nat)(x2:Operand)(x3:Operand):List Operand:=ct (.cQ x0 x1 x2 x3)
def F2(x0:Nat)(x1:Operand)(x2:Operand):List Operand:=ct (.bp x0 x1 x2)
def JM(x0:Nat)(x1:Nat)(x2:Option Nat)(x3:Operand)(x4:Operand):List Operand:=ct (.qR x0 x1 x2 x3 x4)
def JO(x0:Operand)(x1:Operand):List Operand:=ct (.lZ x0 x1)
def DZ(x0:Bool)(x1:List dw)(x2:Value)(x3:Bool)(x4:Operand)(x5:Operand):List Operand:=ct (.lookup x0 x1 x2 x3 x4 x5)
def HO(x0:Bool)(x1:List dw)(x2:Operand)(x3:Operand)(x4:Operand):List Operand:=ct (.iJ x0 x1 x2 x3 x4)
def BV(x0:TypeId)(x1:Bool)(x2:Value)(x3:Operand):List Operand:=ct (.iK x0 x1 x2 x3)
def A9(x0:Operand)(x1:Nat):List Operand:=ct (.extract x0 x1)
def Ki(x0:Operand)(x1:List Operand):List Operand:=ct (.call x0 x1)
def KZ(x0:Nat)(x1:Operand):List Operand:=ct (.len x0 x1)
def Ea(x0:Nat):List Operand:=ct (.iZ x0)
def Ld(x0:Operand):List Operand:=ct (.cap x0)
def Gh(x0:Nat)(x1:Nat)(x2:Operand)(x3:Operand):List Operand:=ct (.append x0 x1 x2 x3)
def Bz(x0:List Value)(x1:Nat)(x2:Operand)(x3:Operand):List Operand:=ct (.iA x0 x1 x2 x3)
def JD(x0:Nat)(x1:Operand)(x2:Operand):List Operand:=ct (.copy x0 x1 x2)
def Hg(x0:List Value)(x1:Operand):List Operand:=ct (.clear x0 x1)
def Ef(x0:Bool)(x1:List Operand):List Operand:=ct (.ei x0 x1)
def DP(x0:Bool)(x1:List dw)(x2:Operand)(x3:Operand):List Operand:=ct (.delete x0 x1 x2 x3)
def IV(x0:Operand)(x1:List Operand):List Operand:=ct (.iN x0 x1)
def Bl:List Operand:=ct (.recover)
def Ju(x0:Operand):List Operand:=ct (.nq x0)
def GI(x0:Operand):List Operand:=ct (.range x0)
def J2(x0:Operand)(x1:Bool):List Operand:=ct (.next x0 x1)
noncomputable def uR(o:AOp):List Operand:=AOp.rec (motive:=fun _=>List Operand) K3 JZ Lg Kt HT EA IU GF Gf Lf L8 Kb Be DD GY Bh GL HQ Hw DL F2 JM JO DZ HO BV A9 Ki KZ Ea Ld Gh Bz JD Hg Ef DP IV Bl Ju GI J2 o
theorem xZ:uR=ct:=by funext o;cases o<;>rfl
def Ky(x0:Operand):Bool:=bU (.mov x0)
def Kg(x0:Operand)(x1:Operand)(x2:Operand):Bool:=bU (.pick x0 x1 x2)
def Ll(x0:List Value):Bool:=bU (.new x0)
def KN(x0:Operand):Bool:=bU (.box x0)
def GA(x0:List Value)(x1:List (Nat×Nat×Operand)):Bool:=bU (.build x0 x1)
def EB(x0:List Value)(x1:Nat)(x2:List (Nat×Nat×Operand)):Bool:=bU (.cJ x0 x1 x2)
def Jm(x0:Option Nat)(x1:Operand):Bool:=bU (.load x0 x1)
def GQ(x0:Nat)(x1:Operand)(x2:Operand):Bool:=bU (.store x0 x1 x2)
def Er(x0:Operand):Bool:=bU (.cz x0)
def LO(x0:Bi)(x1:Operand)(x2:Operand):Bool:=bU (.bin x0 x1 x2)
def MH(x0:UnOp)(x1:Operand):Bool:=bU (.un x0 x1)
def Ji(x0:Cv)(x1:Operand):Bool:=bU (.conv x0 x1)
def Cg(x0:TypeId)(x1:Operand):Bool:=bU (.eT x0 x1)
def DV(x0:Fn)(x1:List Operand)(x2:List Operand):Bool:=bU (.fq x0 x1 x2)
def GV:Bool:=bU (.mkMap)
def Cj(x0:List Value)(x1:Nat)(x2:Operand)(x3:Operand):Bool:=bU (.mkSlice x0 x1 x2 x3)
def Hl(x0:ASl)(x1:Operand)(x2:Option Operand)(x3:Option Operand)(x4:Option Operand):Bool:=bU (.slice x0 x1 x2 x3 x4)
def HK(x0:Nat)(x1:Operand):Bool:=bU (.cH x0 x1)
def Gt(x0:Nat)(x1:Option Nat)(x2:Operand):Bool:=bU (.field x0 x1 x2)
def CR(x0:Nat)(x1:Nat)(x2:Operand)(x3:Operand):Bool:=bU (.cQ x0 x1 x2 x3)
def Fe(x0:Nat)(x1:Operand)(x2:Operand):Bool:=bU (.bp x0 x1 x2)
def Jw(x0:Nat)(x1:Nat)(x2:Option Nat)(x3:Operand)(x4:Operand):Bool:=bU (.qR x0 x1 x2 x3 x4)
def JL(x0:Operand)(x1:Operand):Bool:=bU (.lZ x0 x1)
def Ei(x0:Bool)(x1:List dw)(x2:Value)(x3:Bool)(x4:Operand)(x5:Operand):Bool:=bU (.lookup x0 x1 x2 x3 x4 x5)
def Hi(x0:Bool)(x1:List dw)(x2:Operand)(x3:Operand)(x4:Operand):Bool:=bU (.iJ x0 x1 x2 x3 x4)
def CD(x0:TypeId)(x1:Bool)(x2:Value)(x3:Operand):Bool:=bU (.iK x0 x1 x2 x3)
def Ch(x0:Operand)(x1:Nat):Bool:=bU (.extract x0 x1)
def J3(x0:Operand)(x1:List Operand):Bool:=bU (.call x0 x1)
def KM(x0:Nat)(x1:Operand):Bool:=bU (.len x0 x1)
def Fq(x0:Nat):Bool:=bU (.iZ x0)
def LL(x0:Operand):Bool:=bU (.cap x0)
def DS(x0:Nat)(x1:Nat)(x2:Operand)(x3:Operand):Bool:=bU (.append x0 x1 x2 x3)
def Bk(x0:List Value)(x1:Nat)(x2:Operand)(x3:Operand):Bool:=bU (.iA x0 x1 x2 x3)
def I3(x0:Nat)(x1:Operand)(x2:Operand):Bool:=bU (.copy x0 x1 x2)
def Hq(x0:List Value)(x1:Operand):Bool:=bU (.clear x0 x1)
def EY(x0:Bool)(x1:List Operand):Bool:=bU (.ei x0 x1)
def Ed(x0:Bool)(x1:List dw)(x2:Operand)(x3:Operand):Bool:=bU (.delete x0 x1 x2 x3)
def Ja(x0:Operand)(x1:List Operand):Bool:=bU (.iN x0 x1)
def BX:Bool:=bU (.recover)
def Jo(x0:Operand):Bool:=bU (.nq x0)
def Ih(x0:Operand):Bool:=bU (.range x0)
def J1(x0:Operand)(x1:Bool):Bool:=bU (.next x0 x1)
noncomputable def Ai(o:AOp):Bool:=AOp.rec (motive:=fun _=>Bool) Ky Kg Ll KN GA EB Jm GQ Er LO MH Ji Cg DV GV Cj Hl HK Gt CR Fe Jw JL Ei Hi CD Ch J3 KM Fq LL DS Bk I3 Hq EY Ed Ja BX Jo Ih J1 o
theorem zy:Ai=bU:=by funext o;cases o<;>rfl
def KJ(x0:Operand):Bool:=cO (.mov x0)
def JW(x0:Operand)(x1:Operand)(x2:Operand):Bool:=cO (.pick x0 x1 x2)
def Ks(x0:List Value):Bool:=cO (.new x0)
def Lp(x0:Operand):Bool:=cO (.box x0)
def GM(x0:List Value)(x1:List (Nat×Nat×Operand)):Bool:=cO (.build x0 x1)
def DA(x0:List Value)(x1:Nat)(x2:List (Nat×Nat×Operand)):Bool:=cO (.cJ x0 x1 x2)
def IZ(x0:Option Nat)(x1:Operand):Bool:=cO (.load x0 x1)
def Gk(x0:Nat)(x1:Operand)(x2:Operand):Bool:=cO (.store x0 x1 x2)
def Gi(x0:Operand):Bool:=cO (.cz x0)
def Lm(x0:Bi)(x1:Operand)(x2:Operand):Bool:=cO (.bin x0 x1 x2)
def ME(x0:UnOp)(x1:Operand):Bool:=cO (.un x0 x1)
def IQ(x0:Cv)(x1:Operand):Bool:=cO (.conv x0 x1)
def Cr(x0:TypeId)(x1:Operand):Bool:=cO (.eT x0 x1)
def DT(x0:Fn)(x1:List Operand)(x2:List Operand):Bool:=cO (.fq x0 x1 x2)
def HS:Bool:=cO (.mkMap)
def BJ(x0:List Value)(x1:Nat)(x2:Operand)(x3:Operand):Bool:=cO (.mkSlice x0 x1 x2 x3)
def Ip(x0:ASl)(x1:Operand)(x2:Option Operand)(x3:Option Operand)(x4:Option Operand):Bool:=cO (.slice x0 x1 x2 x3 x4)
def Hx(x0:Nat)(x1:Operand):Bool:=cO (.cH x0 x1)
def GN(x0:Nat)(x1:Option Nat)(x2:Operand):Bool:=cO (.field x0 x1 x2)
def Ee(x0:Nat)(x1:Nat)(x2:Operand)(x3:Operand):Bool:=cO (.cQ x0 x1 x2 x3)
def EX(x0:Nat)(x1:Operand)(x2:Operand):Bool:=cO (.bp x0 x1 x2)
def Jc(x0:Nat)(x1:Nat)(x2:Option Nat)(x3:Operand)(x4:Operand):Bool:=cO (.qR x0 x1 x2 x3 x4)
def JA(x0:Operand)(x1:Operand):Bool:=cO (.lZ x0 x1)
def FZ(x0:Bool)(x1:List dw)(x2:Value)(x3:Bool)(x4:Operand)(x5:Operand):Bool:=cO (.lookup x0 x1 x2 x3 x4 x5)
def Ij(x0:Bool)(x1:List dw)(x2:Operand)(x3:Operand)(x4:Operand):Bool:=cO (.iJ x0 x1 x2 x3 x4)
def CC(x0:TypeId)(x1:Bool)(x2:Value)(x3:Operand):Bool:=cO (.iK x0 x1 x2 x3)
def Bs(x0:Operand)(x1:Nat):Bool:=cO (.extract x0 x1)
def J7(x0:Operand)(x1:List Operand):Bool:=cO (.call x0 x1)
def Ku(x0:Nat)(x1:Operand):Bool:=cO (.len x0 x1)
def Dt(x0:Nat):Bool:=cO (.iZ x0)
def LM(x0:Operand):Bool:=cO (.cap x0)
def Dd(x0:Nat)(x1:Nat)(x2:Operand)(x3:Operand):Bool:=cO (.append x0 x1 x2 x3)
def Cw(x0:List Value)(x1:Nat)(x2:Operand)(x3:Operand):Bool:=cO (.iA x0 x1 x2 x3)
def IS(x0:Nat)(x1:Operand)(x2:Operand):Bool:=cO (.copy x0 x1 x2)
def H6(x0:List Value)(x1:Operand):Bool:=cO (.clear x0 x1)
def Eh(x0:Bool)(x1:List Operand):Bool:=cO (.ei x0 x1)
def C9(x0:Bool)(x1:List dw)(x2:Operand)(x3:Operand):Bool:=cO (.delete x0 x1 x2 x3)
def Kn(x0:Operand)(x1:List Operand):Bool:=cO (.iN x0 x1)
def BK:Bool:=cO (.recover)
def IP(x0:Operand):Bool:=cO (.nq x0)
def HI(x0:Operand):Bool:=cO (.range x0)
def Jq(x0:Operand)(x1:Bool):Bool:=cO (.next x0 x1)
noncomputable def zH(o:AOp):Bool:=AOp.rec (motive:=fun _=>Bool) KJ JW Ks Lp GM DA IZ Gk Gi Lm ME IQ Cr DT HS BJ Ip Hx GN Ee EX Jc JA FZ Ij CC Bs J7 Ku Dt LM Dd Cw IS H6 Eh C9 Kn BK IP HI Jq o
theorem fX:zH=cO:=by funext o;cases o<;>rfl
noncomputable def vC(o:AOp):Bool:=Ai o||zH o
theorem fN:vC=gU:=by funext o;simp only[vC,gU,zy,fX]
noncomputable def jG(o:aQ):List Nat:=
 match o.guard with
 |some (t,_)=>t::uw (uR o.op)
 |none=>uw (uR o.op)
theorem fG:jG=bR:=by funext o;unfold jG bR;simp only[xZ];rfl
noncomputable def nX:List Value→List Value→Bool
 |[],[]=>true
 |x::xs,y::ys=>bif vf x y then nX xs ys else false
 |_,_=>false
noncomputable def yz:Value→Value→Bool
 | .agg a, .agg b=>nX a.toList b.toList
 | .tuple a, .tuple b=>nX a.toList b.toList
 | .func (.func f) a' a, .func (.func g) b' b=>f==g&&(nX a'.toList b'.toList&&nX a.toList b.toList)
 |x,y=>vf x y
noncomputable def AR(h:Heap)(base:Nat)(r:Rec):Bool:=
 match r.k with
 | .quiet=>match yI h base r.e r.o.op with
   |some (.val v' h2)=>yz r.v v'&&Nat.beq h2.next h.next
   |_=>false
 |_=>true
noncomputable def uV(h:Heap)(base:Nat):List Rec→Bool
 |[]=>true
 |r::rs=>bif AR h base r then uV h base rs else false
noncomputable def iC(h:Heap)(base:Nat)(log:List Nat)(mask:Nat):List Rec→Option (List Rec)
 |[]=>some []
 |r::rs=>bif Nat.testBit mask r.i then iC h base log mask rs else
  bif AR h base r&&Cd log r then match iC h base log mask rs with
   |some rs'=>some (r::rs')
   |none=>none
  else none
theorem BD:nX=jC:=by
 funext a
 induction a with
 |nil=>funext b;cases b<;>rfl
 |cons x a ih=>funext b;cases b<;>first|rfl|(simp only[nX,jC,tN,ih])
theorem BW:yz=j0:=by
 funext a b
 unfold yz j0
 simp only[BD,tN]
 first|done|rfl
theorem v7:AR=oh:=by
 funext h base r
 unfold AR oh
 simp only[jn,BW]
 first|done|rfl
theorem gI:uV=kq:=by
 funext h base rs
 induction rs with
 |nil=>rfl
 |cons r rs ih=>simp only[uV,kq,v7,ih]
theorem dX:iC=bg:=by
 funext h base log mask rs
 induction rs with
 |nil=>rfl
 |cons r rs ih=>simp only[iC,bg,v7,ih];first|done|rfl
noncomputable def xC(T:Nat→Option ah)(F:Fam)(base:Nat)(rnd:Option Nat)(f:Operand)(ps:List Nat)(asg body:aJ)(e:Env)(ds:Dfs)(h:Heap):Option (bQ×Env×Dfs×Heap):=bif jy h rnd then match evQ h e f with
 |some (.func (.func g) first cap)=>bif fL (T g)then none else
  match F.call g (dg first.toList (dg [.func (.yield h.next) #[] #[]] cap.toList)) {h.push (.loop e ps asg body 0 .normal)with log:=[]}with
  |some (.ret _,h2)=>match kP h2 h.next with
   |some (.loop _ _ _ _ st gu)=>bif Nat.beq st 1 then none else
    some (gu,e,ds,Heap.wr {h2 with log:=ax base h.log h2.log} base h.next .dead)
   |_=>none
  |some (.panic v,h2)=>some (.panic v,e,ds,{h2 with log:=ax base h.log h2.log})
  |none=>none
 |_=>none
 else none
noncomputable def vO(F:Fam)(l:Nat)(args:List Value)(h:Heap):Option (Res×Heap):=match kP h l with
 |some (.loop e ps asg body 0 .normal)=>match gN e ps args with
  |some e1=>match F.exec h.next (some l) asg e1 [] h with
   |some (.normal,e2,ds2,h2)=>bif notReady (kP h2 l)then none else match F.exec h.next (some l) body e2 ds2 {h2 with bM:=soQ h2.bM l (.loop e ps asg body 1 .normal)}with
    |some (.normal,_,_,h3)=>match kP h3 l with
     |some (.loop _ _ _ _ 1 _)=>some (.ret (.bool true),gcA h {h3 with bM:=soQ h3.bM l (.loop e ps asg body 0 .normal)} (.bool true))
     |_=>none
    |some (.exit i,_,_,h3)=>match kP h3 l with
     |some (.loop _ _ _ _ 1 _)=>some (.ret (.bool false),h3.wr h.next l (.loop e ps asg body 2 (.exit i)))
     |_=>none
    |some (.ret,_,_,h3)=>match kP h3 l with
     |some (.loop _ _ _ _ 1 _)=>some (.ret (.bool false),h3.wr h.next l (.loop e ps asg body 2 .ret))
     |_=>none
    |_=>none
   |_=>none
  |none=>none
 |_=>none
noncomputable def DJ(T:Nat→Option ah)(F:Fam):Nat→Option Nat→aJ→Env→Dfs→Heap→Option (bQ×Env×Dfs×Heap):=fun base rnd c e ds h=>
 match c with
 | .skip=>some (.normal,e,ds,h)
 | .region ops keep=>match F.ops base rnd ops e ds h with
   |some (.normal,e',ds',h')=>some (.normal,lu e' keep,ds',h')
   |r=>r
 | .draw ops order before keep=>match F.draw base ops order before [] e h with
   |some (.normal,e',h')=>some (.normal,lu e' keep,ds,h')
   |some (x,e',h')=>some (x,e',ds,h')
   |none=>none
 | .seq a b=>match F.exec base rnd a e ds h with
   |some (.normal,e',ds',h')=>F.exec base rnd b e' ds' h'
   |r=>r
 | .cond c a b=>match evQ h e c with
   |some (.bool true)=>F.exec base rnd a e ds h
   |some (.bool false)=>F.exec base rnd b e ds h
   |_=>none
 | .block id b=>match F.exec base rnd b e ds h with
   |some (.exit i,e',ds',h')=>bif Nat.beq i id then some (.normal,e',ds',h')else some (.exit i,e',ds',h')
   |r=>r
 | .loop b=>match F.exec base rnd b e ds h with
   |some (.normal,e',ds',h')=>F.exec base rnd (.loop b) e' ds' h'
   |r=>r
 | .rangeFunc f ps asg body=>xC T F base rnd f ps asg body e ds h
 | .exit id=>some (.exit id,e,ds,h)
 | .ret=>some (.ret,e,ds,h)
noncomputable def Iz(T:Nat→Option ah)(F:Fam):Nat→Option Nat→List aQ→Env→Dfs→Heap→Option (bQ×Env×Dfs×Heap):=fun base rnd ops e ds h=>
 match ops with
 |[]=>some (.normal,e,ds,h)
 |o::os=>match oV e o.guard with
  |some false=>F.ops base rnd os (bK e o.dst (.tuple #[])) ds h
  |some true=>match yI h base e o.op with
   |some (.val v h')=>F.ops base rnd os (bK e o.dst v) ds h'
   |some (.call fn args h')=>match F.gQ fn args {h' with log:=[]}with
    |some (.ret v,h2)=>F.ops base rnd os (bK e o.dst v) ds {h2 with log:=ax base h'.log h2.log}
    |some (.panic v,h2)=>some (.panic v,e,ds,{h2 with log:=ax base h'.log h2.log})
    |none=>none
   |some (.iN f args)=>match rnd with|some _=>none|none=>F.ops base rnd os (bK e o.dst (.tuple #[])) ((f,args)::ds) h
   |some (.panic v h')=>some (.panic v,e,ds,h')
   |_=>none
  |none=>none
noncomputable def El(T:Nat→Option ah)(F:Fam):Nat→List aQ→List Nat→List Nat→List Rec→Env→Heap→Option (bQ×Env×Heap):=fun base ops order before rs e h=>
 match order with
 |[]=>some (.normal,e,h)
 |i::is=>match bG ops i,bG before i with
  |some o,some mask=>
   match oV (lu e (jG o)) o.guard with
   |some false=>F.draw base ops is before (⟨i,o,lu e (jG o), .tuple #[], .skip⟩::rs) (bK e o.dst (.tuple #[])) h
   |some true=>
    bif vC o.op then
     match yI h base (lu e (jG o)) o.op with
     |some (.val v h')=>
      bif zH o.op then
       bif uV h' base rs then F.draw base ops is before (⟨i,o,lu e (jG o),v, .made h.next⟩::rs) (bK e o.dst v) h' else none
      else bif Nat.beq h'.next h.next then F.draw base ops is before (⟨i,o,lu e (jG o),v, .quiet⟩::rs) (bK e o.dst v) h
      else bif mF before i is then
       match yI {h with log:=[]} h.next (lu e (jG o)) o.op with
       |some (.val v h2)=>match iC {h2 with log:=ax base h.log h2.log} base h2.log mask rs with
        |some rs'=>F.draw base ops is before rs' (bK e o.dst v) {h2 with log:=ax base h.log h2.log}
        |none=>none
       |_=>none
      else none
     |_=>none
    else
     match yI {h with log:=[]} h.next (lu e (jG o)) o.op with
     |some (.val v h2)=>match iC {h2 with log:=ax base h.log h2.log} base h2.log mask rs with
      |some rs'=>F.draw base ops is before rs' (bK e o.dst v) {h2 with log:=ax base h.log h2.log}
      |none=>none
     |some (.call fn args _)=>match F.gQ fn args {h with log:=[]}with
      |some (.ret v,h2)=>match iC {h2 with log:=ax base h.log h2.log} base h2.log mask rs with
       |some rs'=>F.draw base ops is before rs' (bK e o.dst v) {h2 with log:=ax base h.log h2.log}
       |none=>none
      |some (.panic v,h2)=>some (.panic v,[],{h2 with log:=ax base h.log h2.log})
      |none=>none
     |_=>none
   |none=>none
  |_,_=>none
noncomputable def zW(T:Nat→Option ah)(F:Fam):Fn→List Value→Heap→Option (Res×Heap):=fun fn args h=>
 match fn with
 | .func f=>F.call f args h
 | .yield l=>vO F l args h
 |_=>none
noncomputable def Gd(T:Nat→Option ah)(F:Fam):Nat→List Value→Heap→Option (Res×Heap):=fun f args h=>
 match T f with
 |none=>none
 |some (.jd p)=>match p args h with
  |some (v,h')=>some (.ret v,h')
  |none=>none
 |some (.code code results)=>match F.exec h.next none code (dA 0 args) [] h with
  |some (.panic v,e,ds,h1)=>F.unw results ds (some v) e h h1
  |some (.exit _,_,_,_)=>none
  |some (_,e,ds,h1)=>F.unw results ds none e h h1
  |none=>none
noncomputable def IJ(T:Nat→Option ah)(F:Fam):List (Nat×Option (Option Nat))→Dfs→Option Value→Env→Heap→Heap→Option (Res×Heap):=fun results ds pan e h h1=>
 match ds with
 |[]=>match pan with
  |some v=>some (.panic v,h1)
  |none=>match DI h1 e results with
   |some vs=>some (.ret (dZ vs),gcA h h1 (dZ vs))
   |none=>none
 |(.func (.func g) first cap,args)::ds=>match F.defer g (dg first.toList (dg args cap.toList)) pan {h1 with log:=[]}with
  |some (pan',h2)=>F.unw results ds pan' e h {h2 with log:=ax h.next h1.log h2.log}
  |none=>none
 |_=>none
noncomputable def zY(T:Nat→Option ah)(F:Fam):Nat→List Value→Option Value→Heap→Option (Option Value×Heap):=fun g args pan h=>
 match T g with
 |some (.code code [])=>match F.fh h.next code (dA 0 args) pan h with
  |some (.normal,_,pan',h')=>some (pan',h')
  |some (.ret,_,pan',h')=>some (pan',h')
  |_=>none
 |_=>none
noncomputable def An(T:Nat→Option ah)(F:Fam):Nat→aJ→Env→Option Value→Heap→Option (bQ×Env×Option Value×Heap):=fun base c e pan h=>
 match c with
 | .skip=>some (.normal,e,pan,h)
 | .region ops keep=>match F.ja base ops e pan h with
   |some (.normal,e',pan',h')=>some (.normal,lu e' keep,pan',h')
   |r=>r
 | .seq a b=>match F.fh base a e pan h with
   |some (.normal,e',pan',h')=>F.fh base b e' pan' h'
   |r=>r
 | .cond c a b=>match evQ h e c with
   |some (.bool true)=>F.fh base a e pan h
   |some (.bool false)=>F.fh base b e pan h
   |_=>none
 | .ret=>some (.ret,e,pan,h)
 |_=>none
noncomputable def F6(T:Nat→Option ah)(F:Fam):Nat→List aQ→Env→Option Value→Heap→Option (bQ×Env×Option Value×Heap):=fun base ops e pan h=>
 match ops with
 |[]=>some (.normal,e,pan,h)
 |o::os=>match oV e o.guard with
  |some false=>F.ja base os (bK e o.dst (.tuple #[])) pan h
  |some true=>match yI h base e o.op with
   |some (.val v h')=>F.ja base os (bK e o.dst v) pan h'
   |some .recover=>match pan with
    |some v=>F.ja base os (bK e o.dst v) none h
    |none=>F.ja base os (bK e o.dst .nilIface) none h
   |_=>none
  |none=>none
noncomputable def Fam.Aq(T:Nat→Option ah)(F:Fam):Fam where
 exec:=DJ T F
 ops:=Iz T F
 draw:=El T F
 gQ:=zW T F
 call:=Gd T F
 unw:=IJ T F
 defer:=zY T F
 fh:=An T F
 ja:=F6 T F
noncomputable def l6(T:Nat→Option ah)(n:Nat):Fam:=Nat.rec Fam.none (fun _ F=>Fam.Aq T F) n
theorem Db:Fam.Aq=Fam.succ:=by
 funext T F
 unfold Fam.Aq Fam.succ
 simp only[Fam.mk.injEq]
 refine⟨?_,?_,?_,?_,?_,?_,?_,?_,?_⟩
 ·funext x0 x1 x2 x3 x4 x5;unfold DJ xC;first|rfl|(simp only[bH,bn,br,bI,kC,iL,fH,jL,jf,jn,gI,dX,aR,fG,fN,fX];rfl)
 ·funext x0 x1 x2 x3 x4 x5;unfold Iz;first|rfl|(simp only[bH,bn,br,bI,kC,iL,fH,jL,jf,jn,gI,dX,aR,fG,fN,fX];rfl)
 ·funext x0 x1 x2 x3 x4 x5 x6;unfold El;first|rfl|(simp only[bH,bn,br,bI,kC,iL,fH,jL,jf,jn,gI,dX,aR,fG,fN,fX];rfl)
 ·funext x0 x1 x2;unfold zW vO;first|rfl|(simp only[bH,bn,br,bI,kC,iL,fH,jL,jf,jn,gI,dX,aR,fG,fN,fX];rfl)
 ·funext x0 x1 x2;unfold Gd;first|rfl|(simp only[bH,bn,br,bI,kC,iL,fH,jL,jf,jn,gI,dX,aR,fG,fN,fX];rfl)
 ·funext x0 x1 x2 x3 x4 x5;unfold IJ;first|rfl|(simp only[bH,bn,br,bI,kC,iL,fH,jL,jf,jn,gI,dX,aR,fG,fN,fX];rfl)
 ·funext x0 x1 x2 x3;unfold zY;first|rfl|(simp only[bH,bn,br,bI,kC,iL,fH,jL,jf,jn,gI,dX,aR,fG,fN,fX];rfl)
 ·funext x0 x1 x2 x3 x4;unfold An;first|rfl|(simp only[bH,bn,br,bI,kC,iL,fH,jL,jf,jn,gI,dX,aR,fG,fN,fX];rfl)
 ·funext x0 x1 x2 x3 x4;unfold F6;first|rfl|(simp only[bH,bn,br,bI,kC,iL,fH,jL,jf,jn,gI,dX,aR,fG,fN,fX];rfl)
theorem AQ(T:Nat→Option ah):∀n,l6 T n=fam T n
 |0=>rfl
 |n+1=>by
  show Fam.Aq T (l6 T n)=Fam.succ T (fam T n)
  rw[AQ T n,Db]
end Go.A
end
