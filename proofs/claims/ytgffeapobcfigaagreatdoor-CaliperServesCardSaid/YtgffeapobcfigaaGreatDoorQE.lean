/- The runs once more, for the kernel. -/
import Derived.Test.YtgffeapobcfigaaGreatDoorQA
set_option linter.all false
section
namespace Go.A
structure Fam where
 exec:Nat→Option Nat→ACode→Env→Dfs→Heap→Option (AExit×Env×Dfs×Heap)
 ops:Nat→Option Nat→List AOper→Env→Dfs→Heap→Option (AExit×Env×Dfs×Heap)
 draw:Nat→List AOper→List Nat→List Nat→List Rec→Env→Heap→Option (AExit×Env×Heap)
 callF:Fn→List Value→Heap→Option (Res×Heap)
 call:Nat→List Value→Heap→Option (Res×Heap)
 unw:List (Nat×Option (Option Nat))→Dfs→Option Value→Env→Heap→Heap→Option (Res×Heap)
 defer:Nat→List Value→Option Value→Heap→Option (Option Value×Heap)
 execS:Nat→ACode→Env→Option Value→Heap→Option (AExit×Env×Option Value×Heap)
 opsS:Nat→List AOper→Env→Option Value→Heap→Option (AExit×Env×Option Value×Heap)
def Fam.none:Fam where
 exec:=fun _ _ _ _ _ _=> .none
 ops:=fun _ _ _ _ _ _=> .none
 draw:=fun _ _ _ _ _ _ _=> .none
 callF:=fun _ _ _=> .none
 call:=fun _ _ _=> .none
 unw:=fun _ _ _ _ _ _=> .none
 defer:=fun _ _ _ _=> .none
 execS:=fun _ _ _ _ _=> .none
 opsS:=fun _ _ _ _ _=> .none
def aexec1(T:Nat→Option AFunc)(F:Fam):Nat→Option Nat→ACode→Env→Dfs→Heap→Option (AExit×Env×Dfs×Heap):=fun base rnd c e ds h=>
    match c with
    | .skip=>some (.normal,e,ds,h)
    | .region ops keep=>match F.ops base rnd ops e ds h with
      |some (.normal,e',ds',h')=>some (.normal,keepE e' keep,ds',h')
      |r=>r
    | .draw ops order before keep=>match F.draw base ops order before [] e h with
      |some (.normal,e',h')=>some (.normal,keepE e' keep,ds,h')
      |some (x,e',h')=>some (x,e',ds,h')
      |none=>none
    | .seq a b=>match F.exec base rnd a e ds h with
      |some (.normal,e',ds',h')=>F.exec base rnd b e' ds' h'
      |r=>r
    | .cond c a b=>match ev h e c with
      |some (.bool true)=>F.exec base rnd a e ds h
      |some (.bool false)=>F.exec base rnd b e ds h
      |_=>none
    | .block id b=>match F.exec base rnd b e ds h with
      |some (.exit i,e',ds',h')=>bif Nat.beq i id then some (.normal,e',ds',h')else some (.exit i,e',ds',h')
      |r=>r
    | .loop b=>match F.exec base rnd b e ds h with
      |some (.normal,e',ds',h')=>F.exec base rnd (.loop b) e' ds' h'
      |r=>r
    | .scope b=>F.exec base rnd b e ds h
    | .rangeFunc f ps asg body=>bif roundA h rnd then match ev h e f with
      |some (.func (.func g) first cap)=>bif notCode (T g)then none else
       match F.call g (lcat first.toList (lcat [.func (.yield h.next) #[] #[]] cap.toList)) {h.push (.loop e ps asg body 0 .normal)with log:=[]}with
       |some (.ret _,h2)=>match h2.get h.next with
        |some (.loop _ _ _ _ st pend)=>bif Nat.beq st 1 then none else
         some (pend,e,ds,Heap.wr {h2 with log:=mergeLog base h.log h2.log} base h.next .dead)
        |_=>none
       |some (.panic v,h2)=>some (.panic v,e,ds,{h2 with log:=mergeLog base h.log h2.log})
       |none=>none
      |_=>none
      else none
    | .rangeMap ops it x keep out nxt pr ops2 k2 body=>match F.ops base rnd ops e ds h with
      |some (.normal,e0,ds0,h0)=>match ds0 with
       |_::_=>none
       |[]=>match ev h0 e0 x with
        |some (.map none)=>some (.normal,keepE e0 keep,[],h0)
        |some (.map (some m))=>match h0.get m with
         |some (.map es)=>endM out (keepE e0 keep) h0 (armapF (fun e h=>F.ops (h0.next+1) rnd ops2 e [] h) (fun e h=>F.exec (h0.next+1) rnd body e [] h) nxt pr k2 (itE it h0 (keepE e0 keep)) (keepE e0 keep) ((roM h0 m es).push .dead) es)
         |_=>none
        |_=>none
      |r=>r
    | .exit id=>some (.exit id,e,ds,h)
    | .ret=>some (.ret,e,ds,h)
def aops1(T:Nat→Option AFunc)(F:Fam):Nat→Option Nat→List AOper→Env→Dfs→Heap→Option (AExit×Env×Dfs×Heap):=fun base rnd ops e ds h=>
    match ops with
    |[]=>some (.normal,e,ds,h)
    |o::os=>match wantedA e o.guard with
     |some false=>F.ops base rnd os (dstE e o.dst (.tuple #[])) ds h
     |some true=>match aop h base e o.op with
      |some (.val v h')=>F.ops base rnd os (dstE e o.dst v) ds h'
      |some (.call fn args h')=>match F.callF fn args {h' with log:=[]}with
       |some (.ret v,h2)=>F.ops base rnd os (dstE e o.dst v) ds {h2 with log:=mergeLog base h'.log h2.log}
       |some (.panic v,h2)=>some (.panic v,e,ds,{h2 with log:=mergeLog base h'.log h2.log})
       |none=>none
      |some (.dfer f args)=>match rnd with|some _=>none|none=>F.ops base rnd os (dstE e o.dst (.tuple #[])) ((f,args)::ds) h
      |some (.panic v h')=>some (.panic v,e,ds,h')
      |_=>none
     |none=>none
def adraw1(T:Nat→Option AFunc)(F:Fam):Nat→List AOper→List Nat→List Nat→List Rec→Env→Heap→Option (AExit×Env×Heap):=fun base ops order before rs e h=>
    match order with
    |[]=>some (.normal,e,h)
    |i::is=>match lget ops i,lget before i with
     |some o,some mask=>
      match wantedA (keepE e (slotsA o)) o.guard with
      |some false=>F.draw base ops is before (⟨i,o,keepE e (slotsA o), .tuple #[], .skip⟩::rs) (dstE e o.dst (.tuple #[])) h
      |some true=>
       bif eagerA o.op then
        match aop h base (keepE e (slotsA o)) o.op with
        |some (.val v h')=>
         bif isNew o.op then
          bif recsQ h' base rs then F.draw base ops is before (⟨i,o,keepE e (slotsA o),v, .made h.next⟩::rs) (dstE e o.dst v) h' else none
         else bif Nat.beq h'.next h.next then F.draw base ops is before (⟨i,o,keepE e (slotsA o),v, .quiet⟩::rs) (dstE e o.dst v) h
         else bif allIn before i is then
          match aop {h with log:=[]} h.next (keepE e (slotsA o)) o.op with
          |some (.val v h2)=>match recsAfter {h2 with log:=mergeLog base h.log h2.log} base h2.log mask rs with
           |some rs'=>F.draw base ops is before rs' (dstE e o.dst v) {h2 with log:=mergeLog base h.log h2.log}
           |none=>none
          |_=>none
         else none
        |_=>none
       else
        match aop {h with log:=[]} h.next (keepE e (slotsA o)) o.op with
        |some (.val v h2)=>match recsAfter {h2 with log:=mergeLog base h.log h2.log} base h2.log mask rs with
         |some rs'=>F.draw base ops is before rs' (dstE e o.dst v) {h2 with log:=mergeLog base h.log h2.log}
         |none=>none
        |some (.call fn args _)=>match F.callF fn args {h with log:=[]}with
         |some (.ret v,h2)=>match recsAfter {h2 with log:=mergeLog base h.log h2.log} base h2.log mask rs with
          |some rs'=>F.draw base ops is before rs' (dstE e o.dst v) {h2 with log:=mergeLog base h.log h2.log}
          |none=>none
         |some (.panic v,h2)=>some (.panic v,[],{h2 with log:=mergeLog base h.log h2.log})
         |none=>none
        |_=>none
      |none=>none
     |_,_=>none
def acallF1(T:Nat→Option AFunc)(F:Fam):Fn→List Value→Heap→Option (Res×Heap):=fun fn args h=>
    match fn with
    | .func f=>F.call f args h
    | .yield l=>match h.get l with
      |some (.loop e ps asg body 0 .normal)=>match setParams e ps args with
       |some e1=>match F.exec h.next (some l) asg e1 [] h with
        |some (.normal,e2,ds2,h2)=>bif notReady (h2.get l)then none else match F.exec h.next (some l) body e2 ds2 {h2 with objs:=setO h2.objs l (.loop e ps asg body 1 .normal)}with
         |some (.normal,_,_,h3)=>match h3.get l with
          |some (.loop _ _ _ _ 1 _)=>some (.ret (.bool true),gcA h {h3 with objs:=setO h3.objs l (.loop e ps asg body 0 .normal)} (.bool true))
          |_=>none
         |some (.exit i,_,_,h3)=>match h3.get l with
          |some (.loop _ _ _ _ 1 _)=>some (.ret (.bool false),h3.wr h.next l (.loop e ps asg body 2 (.exit i)))
          |_=>none
         |some (.ret,_,_,h3)=>match h3.get l with
          |some (.loop _ _ _ _ 1 _)=>some (.ret (.bool false),h3.wr h.next l (.loop e ps asg body 2 .ret))
          |_=>none
         |_=>none
        |_=>none
       |none=>none
      |_=>none
    |_=>none
def acall1(T:Nat→Option AFunc)(F:Fam):Nat→List Value→Heap→Option (Res×Heap):=fun f args h=>
    match T f with
    |none=>none
    |some (.prim p)=>match p args h with
     |some (v,h')=>some (.ret v,h')
     |none=>none
    |some (.code code results)=>match F.exec h.next none code (paramsE 0 args) [] h with
     |some (.panic v,e,ds,h1)=>F.unw results ds (some v) e h h1
     |some (.exit _,_,_,_)=>none
     |some (_,e,ds,h1)=>F.unw results ds none e h h1
     |none=>none
def aunw1(T:Nat→Option AFunc)(F:Fam):List (Nat×Option (Option Nat))→Dfs→Option Value→Env→Heap→Heap→Option (Res×Heap):=fun results ds pan e h h1=>
    match ds with
    |[]=>match pan with
     |some v=>some (.panic v,h1)
     |none=>match resultsA h1 e results with
      |some vs=>some (.ret (oneV vs),gcA h h1 (oneV vs))
      |none=>none
    |(.func (.func g) first cap,args)::ds=>match F.defer g (lcat first.toList (lcat args cap.toList)) pan {h1 with log:=[]}with
     |some (pan',h2)=>F.unw results ds pan' e h {h2 with log:=mergeLog h.next h1.log h2.log}
     |none=>none
    |_=>none
def adefer1(T:Nat→Option AFunc)(F:Fam):Nat→List Value→Option Value→Heap→Option (Option Value×Heap):=fun g args pan h=>
    match T g with
    |some (.code code [])=>match F.execS h.next code (paramsE 0 args) pan h with
     |some (.normal,_,pan',h')=>some (pan',h')
     |some (.ret,_,pan',h')=>some (pan',h')
     |_=>none
    |_=>none
def aexecS1(T:Nat→Option AFunc)(F:Fam):Nat→ACode→Env→Option Value→Heap→Option (AExit×Env×Option Value×Heap):=fun base c e pan h=>
    match c with
    | .skip=>some (.normal,e,pan,h)
    | .region ops keep=>match F.opsS base ops e pan h with
      |some (.normal,e',pan',h')=>some (.normal,keepE e' keep,pan',h')
      |r=>r
    | .seq a b=>match F.execS base a e pan h with
      |some (.normal,e',pan',h')=>F.execS base b e' pan' h'
      |r=>r
    | .cond c a b=>match ev h e c with
      |some (.bool true)=>F.execS base a e pan h
      |some (.bool false)=>F.execS base b e pan h
      |_=>none
    | .ret=>some (.ret,e,pan,h)
    |_=>none
def aopsS1(T:Nat→Option AFunc)(F:Fam):Nat→List AOper→Env→Option Value→Heap→Option (AExit×Env×Option Value×Heap):=fun base ops e pan h=>
    match ops with
    |[]=>some (.normal,e,pan,h)
    |o::os=>match wantedA e o.guard with
     |some false=>F.opsS base os (dstE e o.dst (.tuple #[])) pan h
     |some true=>match aop h base e o.op with
      |some (.val v h')=>F.opsS base os (dstE e o.dst v) pan h'
      |some .recover=>match pan with
       |some v=>F.opsS base os (dstE e o.dst v) none h
       |none=>F.opsS base os (dstE e o.dst .nilIface) none h
      |_=>none
     |none=>none
def Fam.succ(T:Nat→Option AFunc)(F:Fam):Fam where
 exec:=aexec1 T F
 ops:=aops1 T F
 draw:=adraw1 T F
 callF:=acallF1 T F
 call:=acall1 T F
 unw:=aunw1 T F
 defer:=adefer1 T F
 execS:=aexecS1 T F
 opsS:=aopsS1 T F
def fam(T:Nat→Option AFunc)(n:Nat):Fam:=Nat.rec Fam.none (fun _ F=>Fam.succ T F) n
theorem fam_eq(T:Nat→Option AFunc):∀n,fam T n={exec:=aexec T n,ops:=aops T n,draw:=adraw T n,callF:=acallF T n,call:=acall T n,unw:=aunw T n,defer:=adefer T n,execS:=aexecS T n,opsS:=aopsS T n}
 |0=>by
  show Fam.none=_
  unfold Fam.none
  simp only[Fam.mk.injEq]
  refine⟨?_,?_,?_,?_,?_,?_,?_,?_,?_⟩
  ·funext x0 x1 x2 x3 x4 x5;simp only[aexec]
  ·funext x0 x1 x2 x3 x4 x5;simp only[aops]
  ·funext x0 x1 x2 x3 x4 x5 x6;simp only[adraw]
  ·funext x0 x1 x2;simp only[acallF]
  ·funext x0 x1 x2;simp only[acall]
  ·funext x0 x1 x2 x3 x4 x5;simp only[aunw]
  ·funext x0 x1 x2 x3;simp only[adefer]
  ·funext x0 x1 x2 x3 x4;simp only[aexecS]
  ·funext x0 x1 x2 x3 x4;simp only[aopsS]
 |n+1=>by
  show Fam.succ T (fam T n)=_
  rw[fam_eq T n]
  unfold Fam.succ
  simp only[Fam.mk.injEq]
  refine⟨?_,?_,?_,?_,?_,?_,?_,?_,?_⟩
  ·funext x0 x1 x2 x3 x4 x5;refine Eq.trans ?_ (aexec.eq_def T (n+1) x0 x1 x2 x3 x4 x5).symm;rfl
  ·funext x0 x1 x2 x3 x4 x5;refine Eq.trans ?_ (aops.eq_def T (n+1) x0 x1 x2 x3 x4 x5).symm;rfl
  ·funext x0 x1 x2 x3 x4 x5 x6;refine Eq.trans ?_ (adraw.eq_def T (n+1) x0 x1 x2 x3 x4 x5 x6).symm;rfl
  ·funext x0 x1 x2;refine Eq.trans ?_ (acallF.eq_def T (n+1) x0 x1 x2).symm;rfl
  ·funext x0 x1 x2;refine Eq.trans ?_ (acall.eq_def T (n+1) x0 x1 x2).symm;rfl
  ·funext x0 x1 x2 x3 x4 x5;refine Eq.trans ?_ (aunw.eq_def T (n+1) x0 x1 x2 x3 x4 x5).symm;rfl
  ·funext x0 x1 x2 x3;refine Eq.trans ?_ (adefer.eq_def T (n+1) x0 x1 x2 x3).symm;rfl
  ·funext x0 x1 x2 x3 x4;refine Eq.trans ?_ (aexecS.eq_def T (n+1) x0 x1 x2 x3 x4).symm;rfl
  ·funext x0 x1 x2 x3 x4;refine Eq.trans ?_ (aopsS.eq_def T (n+1) x0 x1 x2 x3 x4).symm;rfl
end Go.A
end
section
namespace Go.A
noncomputable def kIdx(k:IntKind):Nat:=IntKind.rec (motive:=fun _=>Nat) 0 1 2 3 4 5 6 7 k
noncomputable def kEq(a b:IntKind):Bool:=Nat.beq (kIdx a) (kIdx b)
theorem kEq_eq(a b:IntKind):kEq a b=decide (a=b):=by cases a<;>cases b<;>rfl
noncomputable def iEq_on(m:Nat)(b:Int):Bool:=Int.rec (motive:=fun _=>Bool) (fun n=>Nat.beq m n) (fun _=>false) b
noncomputable def iEq_ns(m:Nat)(b:Int):Bool:=Int.rec (motive:=fun _=>Bool) (fun _=>false) (fun n=>Nat.beq m n) b
noncomputable def iEq(a b:Int):Bool:=Int.rec (motive:=fun _=>Int→Bool) iEq_on iEq_ns a b
theorem iEq_eq(a b:Int):iEq a b=(a==b):=by
 rw[Bool.eq_iff_iff]
 simp only[beq_iff_eq]
 cases a<;>cases b<;>simp[iEq,iEq_on,iEq_ns,Nat.beq_eq]<;>omega
noncomputable def iLt_on(m:Nat)(b:Int):Bool:=Int.rec (motive:=fun _=>Bool) (fun n=>Nat.blt m n) (fun _=>false) b
noncomputable def iLt_ns(m:Nat)(b:Int):Bool:=Int.rec (motive:=fun _=>Bool) (fun _=>true) (fun n=>Nat.blt n m) b
noncomputable def iLt(a b:Int):Bool:=Int.rec (motive:=fun _=>Int→Bool) iLt_on iLt_ns a b
theorem iLt_eq(a b:Int):iLt a b=decide (a<b):=by
 rw[Bool.eq_iff_iff]
 simp only[decide_eq_true_eq]
 cases a<;>cases b<;>simp[iLt,iLt_on,iLt_ns,Nat.blt_eq]<;>omega
noncomputable def topP(k:IntKind):Nat:=IntKind.rec (motive:=fun _=>Nat) 128 32768 2147483648 9223372036854775808 256 65536 4294967296 18446744073709551616 k
noncomputable def topN(k:IntKind):Nat:=IntKind.rec (motive:=fun _=>Nat) 128 32768 2147483648 9223372036854775808 0 0 0 0 k
noncomputable def wrapQ(k:IntKind)(n:Int):Int:=Int.rec (motive:=fun _=>Int) (fun m=>bif Nat.blt m (topP k)then .ofNat m else k.wrap (.ofNat m)) (fun m=>bif Nat.blt m (topN k)then .negSucc m else k.wrap (.negSucc m)) n
theorem wrapQ_eq(k:IntKind)(n:Int):wrapQ k n=wrapA k n:=by cases n<;>cases k<;>rfl
noncomputable def nat1{α:Type}(m:Nat)(f:Nat→α):α:=Nat.rec (motive:=fun _=>α) (f 0) (fun n _=>f (Nat.succ n)) m
theorem nat1_eq{α:Type}(m:Nat)(f:Nat→α):nat1 m f=f m:=by cases m<;>rfl
noncomputable def int1{α:Type}(m:Int)(f:Int→α):α:=Int.rec (motive:=fun _=>α) (fun n=>nat1 n fun n=>f (.ofNat n)) (fun n=>nat1 n fun n=>f (.negSucc n)) m
theorem int1_eq{α:Type}(m:Int)(f:Int→α):int1 m f=f m:=by cases m<;>simp[int1,nat1_eq]
noncomputable def mkI(k:IntKind)(n:Int):Option Value:=int1 (wrapQ k n) fun n=>some (.int k n)
noncomputable def ar_add(k:IntKind)(x y:Int):Option Value:=mkI k (x+y)
noncomputable def ar_sub(k:IntKind)(x y:Int):Option Value:=mkI k (x-y)
noncomputable def ar_mul(k:IntKind)(x y:Int):Option Value:=mkI k (x*y)
noncomputable def ar_eql(_:IntKind)(x y:Int):Option Value:=some (.bool (iEq x y))
noncomputable def ar_neq(_:IntKind)(x y:Int):Option Value:=some (.bool (Bool.rec true false (iEq x y)))
noncomputable def ar_lss(_:IntKind)(x y:Int):Option Value:=some (.bool (iLt x y))
noncomputable def ar_leq(_:IntKind)(x y:Int):Option Value:=some (.bool (Bool.rec true false (iLt y x)))
noncomputable def ar_gtr(_:IntKind)(x y:Int):Option Value:=some (.bool (iLt y x))
noncomputable def ar_geq(_:IntKind)(x y:Int):Option Value:=some (.bool (Bool.rec true false (iLt x y)))
def ar_quo(k:IntKind)(x y:Int):Option Value:=arith .quo k x y
def ar_rem(k:IntKind)(x y:Int):Option Value:=arith .rem k x y
def ar_and(k:IntKind)(x y:Int):Option Value:=arith .and k x y
def ar_or(k:IntKind)(x y:Int):Option Value:=arith .or k x y
def ar_xor(k:IntKind)(x y:Int):Option Value:=arith .xor k x y
def ar_andNot(k:IntKind)(x y:Int):Option Value:=arith .andNot k x y
noncomputable def n_add(k:IntKind)(x:Int)(k':IntKind)(y:Int):Option Value:=Bool.rec none (ar_add k x y) (kEq k k')
noncomputable def n_sub(k:IntKind)(x:Int)(k':IntKind)(y:Int):Option Value:=Bool.rec none (ar_sub k x y) (kEq k k')
noncomputable def n_mul(k:IntKind)(x:Int)(k':IntKind)(y:Int):Option Value:=Bool.rec none (ar_mul k x y) (kEq k k')
noncomputable def n_quo(k:IntKind)(x:Int)(k':IntKind)(y:Int):Option Value:=Bool.rec none (ar_quo k x y) (kEq k k')
noncomputable def n_rem(k:IntKind)(x:Int)(k':IntKind)(y:Int):Option Value:=Bool.rec none (ar_rem k x y) (kEq k k')
noncomputable def n_and(k:IntKind)(x:Int)(k':IntKind)(y:Int):Option Value:=Bool.rec none (ar_and k x y) (kEq k k')
noncomputable def n_or(k:IntKind)(x:Int)(k':IntKind)(y:Int):Option Value:=Bool.rec none (ar_or k x y) (kEq k k')
noncomputable def n_xor(k:IntKind)(x:Int)(k':IntKind)(y:Int):Option Value:=Bool.rec none (ar_xor k x y) (kEq k k')
def n_shl(k:IntKind)(x:Int)(_:IntKind)(y:Int):Option Value:=shiftA .shl k x y
def n_shr(k:IntKind)(x:Int)(_:IntKind)(y:Int):Option Value:=shiftA .shr k x y
noncomputable def n_andNot(k:IntKind)(x:Int)(k':IntKind)(y:Int):Option Value:=Bool.rec none (ar_andNot k x y) (kEq k k')
noncomputable def n_eql(k:IntKind)(x:Int)(k':IntKind)(y:Int):Option Value:=Bool.rec none (ar_eql k x y) (kEq k k')
noncomputable def n_neq(k:IntKind)(x:Int)(k':IntKind)(y:Int):Option Value:=Bool.rec none (ar_neq k x y) (kEq k k')
noncomputable def n_lss(k:IntKind)(x:Int)(k':IntKind)(y:Int):Option Value:=Bool.rec none (ar_lss k x y) (kEq k k')
noncomputable def n_leq(k:IntKind)(x:Int)(k':IntKind)(y:Int):Option Value:=Bool.rec none (ar_leq k x y) (kEq k k')
noncomputable def n_gtr(k:IntKind)(x:Int)(k':IntKind)(y:Int):Option Value:=Bool.rec none (ar_gtr k x y) (kEq k k')
noncomputable def n_geq(k:IntKind)(x:Int)(k':IntKind)(y:Int):Option Value:=Bool.rec none (ar_geq k x y) (kEq k k')
noncomputable def numII(op:BinOp):IntKind→Int→IntKind→Int→Option Value:=BinOp.rec (motive:=fun _=>IntKind→Int→IntKind→Int→Option Value) n_add n_sub n_mul n_quo n_rem n_and n_or n_xor n_shl n_shr n_andNot n_eql n_neq n_lss n_leq n_gtr n_geq op
noncomputable def numQ(op:BinOp)(x y:Value):Option Value:=
 match x with
 | .int k a=>match y with
   | .int k' b=>numII op k a k' b
   |_=>none
 | .string a=>match y with
   | .string b=>strOp op a b
   |_=>none
 |_=>none
theorem brec{α:Type}(x y:α)(b:Bool):(Bool.rec x y b:α)=bif b then y else x:=by cases b<;>rfl
theorem mkI_eq(k:IntKind)(n:Int):mkI k n=some (.int k (wrapA k n)):=by simp[mkI,int1_eq,wrapQ_eq]
theorem numQ_eq:numQ=numOp:=by
 funext op x y
 unfold numQ
 split
 ·rename_i k a
  split
  ·rename_i k' b
   by_cases hk:k=k'
   ·subst hk
    cases op<;>simp[numII,numOp,n_add,n_sub,n_mul,n_quo,n_rem,n_and,n_or,n_xor,n_shl,n_shr,n_andNot,n_eql,n_neq,n_lss,n_leq,n_gtr,n_geq,ar_add,ar_sub,ar_mul,ar_quo,ar_rem,ar_and,ar_or,ar_xor,ar_andNot,ar_eql,ar_neq,ar_lss,ar_leq,ar_gtr,ar_geq,kEq_eq,brec,mkI_eq,arith,cmpInt,iEq_eq,iLt_eq]
    all_goals first
     |(simp[bne];done)
     |(rw[Bool.eq_iff_iff];simp;done)
     |(rw[Bool.eq_iff_iff];simp;omega)
   ·cases op<;>simp[numII,numOp,n_add,n_sub,n_mul,n_quo,n_rem,n_and,n_or,n_xor,n_shl,n_shr,n_andNot,n_eql,n_neq,n_lss,n_leq,n_gtr,n_geq,kEq_eq,brec,hk]
  ·rename_i hy
   cases op<;>cases y<;>first|rfl|exact(hy _ _ rfl).elim
 ·split
  ·cases op<;>rfl
  ·rename_i hy
   cases op<;>cases y<;>first|rfl|exact(hy _ rfl).elim
 ·rename_i h1 h2
  cases op<;>cases x<;>first|rfl|exact(h1 _ _ rfl).elim|exact(h2 _ rfl).elim
noncomputable def ge_z(_:Nat):Option Value:=none
noncomputable def ge_s(p:Nat×Value)(_:Env)(ih:Nat→Option Value)(t:Nat):Option Value:=Bool.rec (ih t) (some p.2) (Nat.beq p.1 t)
noncomputable def geQ(e:Env)(t:Nat):Option Value:=List.rec (motive:=fun _=>Nat→Option Value) ge_z ge_s e t
theorem geQ_eq:geQ=geT:=by
 funext e t
 induction e with
 |nil=>rfl
 |cons p e ih=>
  obtain⟨k,v⟩:=p
  show(Bool.rec (geQ e t) (some v) (Nat.beq k t):Option Value)=_
  rw[brec,ih];rfl
noncomputable def ke_c(t:Nat)(l:Env)(v:Value):Env:=(t,v)::l
noncomputable def ke_z(_:Env):Env:=[]
noncomputable def ke_s(t:Nat)(_:List Nat)(ih:Env→Env)(e:Env):Env:=Option.rec (motive:=fun _=>Env) (ih e) (ke_c t (ih e)) (geQ e t)
noncomputable def keepQ(e:Env)(l:List Nat):Env:=List.rec (motive:=fun _=>Env→Env) ke_z ke_s l e
theorem keepQ_eq:keepQ=keepE:=by
 funext e l
 induction l with
 |nil=>rfl
 |cons t l ih=>
  show(Option.rec (keepQ e l) (ke_c t (keepQ e l)) (geQ e t):Env)=_
  rw[geQ_eq,ih]
  simp only[keepE]
  cases geT e t<;>rfl
noncomputable def go_z(_:Nat):Option AObj:=none
noncomputable def go_s(p:Nat×AObj)(_:List (Nat×AObj))(ih:Nat→Option AObj)(t:Nat):Option AObj:=Bool.rec (ih t) (some p.2) (Nat.beq p.1 t)
noncomputable def goQ(e:List (Nat×AObj))(t:Nat):Option AObj:=List.rec (motive:=fun _=>Nat→Option AObj) go_z go_s e t
theorem goQ_eq:goQ=getO:=by
 funext e t
 induction e with
 |nil=>rfl
 |cons p e ih=>
  obtain⟨k,v⟩:=p
  show(Bool.rec (goQ e t) (some v) (Nat.beq k t):Option AObj)=_
  rw[brec,ih];rfl
noncomputable def getQ(h:Heap)(b:Nat):Option AObj:=goQ h.objs b
theorem getQ_eq:getQ=Heap.get:=by funext h b;simp[getQ,Heap.get,goQ_eq]
noncomputable def so_z(_:Nat)(_:AObj):List (Nat×AObj):=[]
noncomputable def so_s(p:Nat×AObj)(l:List (Nat×AObj))(ih:Nat→AObj→List (Nat×AObj))(t:Nat)(o:AObj):List (Nat×AObj):=Bool.rec (p::ih t o) ((p.1,o)::l) (Nat.beq p.1 t)
noncomputable def soQ(e:List (Nat×AObj))(t:Nat)(o:AObj):List (Nat×AObj):=List.rec (motive:=fun _=>Nat→AObj→List (Nat×AObj)) so_z so_s e t o
theorem soQ_eq:soQ=setO:=by
 funext e t o
 induction e with
 |nil=>rfl
 |cons p e ih=>
  obtain⟨k,v⟩:=p
  show(Bool.rec ((k,v)::soQ e t o) ((k,o)::e) (Nat.beq k t):List (Nat×AObj))=_
  rw[brec,ih];rfl
noncomputable def wrQ(h:Heap)(base b:Nat)(o:AObj):Heap:={h with objs:=soQ h.objs b o,log:=bif Nat.blt b base then(bif lhas h.log b then h.log else b::h.log)else h.log}
theorem wrQ_eq:wrQ=Heap.wr:=by funext h base b o;simp[wrQ,Heap.wr,soQ_eq]
noncomputable def evQ(h:Heap)(e:Env)(x:Operand):Option Value:=Operand.rec (motive:=fun _=>Env→Heap→Option Value) (fun t e _=>geQ e t) (fun v _ _=>some v) (fun g _ h=>ev h [] (.global g)) (fun f _ _=>some (.func (.func f) #[] #[])) x e h
theorem evQ_eq:evQ=ev:=by
 funext h e x
 cases x<;>first|rfl|(show geQ e _=_;rw[geQ_eq];rfl)
noncomputable def evsQ(h:Heap)(e:Env):List Operand→Option (List Value)
 |[]=>some []
 |x::xs=>match evQ h e x with
  |some v=>match evsQ h e xs with
   |some vs=>some (v::vs)
   |none=>none
  |none=>none
theorem evsQ_eq:evsQ=evs:=by
 funext h e l
 induction l with
 |nil=>rfl
 |cons x l ih=>(simp only[evsQ,evs,evQ_eq,ih];rfl)
noncomputable def fillQ(h:Heap)(e:Env)(z:List Value):List (Nat×Nat×Operand)→Option (List Value)
 |[]=>some z
 |(off,size,x)::ps=>match evQ h e x with
  |some v=>bif Nat.beq (llen (cellsOf v)) size&&Nat.ble (off+size) (llen z)then fillQ h e (lputs z off (cellsOf v)) ps else none
  |none=>none
theorem fillQ_eq:fillQ=fillA:=by
 funext h e z l
 induction l generalizing z with
 |nil=>rfl
 |cons p l ih=>obtain⟨a,b,x⟩:=p;(simp only[fillQ,fillA,evQ_eq,ih];rfl)
noncomputable def wantedQ(e:Env)(g:Option (Nat×Bool)):Option Bool:=
 match g with
 |none=>some true
 |some (t,b)=>match geQ e t with
  |some (.bool x)=>some (x==b)
  |some _=>some false
  |none=>none
theorem wantedQ_eq:wantedQ=wantedA:=by
 funext e g
 cases g with
 |none=>rfl
 |some p=>obtain⟨t,b⟩:=p;(simp only[wantedQ,wantedA,geQ_eq];rfl)
noncomputable def resQ(h:Heap)(e:Env):List (Nat×Option (Option Nat))→Option (List Value)
 |[]=>some []
 |(t,none)::rs=>match geQ e t with
  |some v=>match resQ h e rs with
   |some vs=>some (v::vs)
   |none=>none
  |none=>none
 |(t,some n)::rs=>match geQ e t with
  |some a=>match loadA h n a with
   |some v=>match resQ h e rs with
    |some vs=>some (v::vs)
    |none=>none
   |none=>none
  |none=>none
theorem resQ_eq:resQ=resultsA:=by
 funext h e l
 induction l with
 |nil=>rfl
 |cons p l ih=>
  obtain⟨t,n⟩:=p
  cases n<;>(simp only[resQ,resultsA,geQ_eq,ih];rfl)
noncomputable def leafQ(l:Leaf)(x y:Value):Option Bool:=
 match l with
 | .i q=>match x with
   | .int k a=>match y with
     | .int k' b=>bif kEq k q&&kEq k' q then some (iEq a b)else none
     |_=>none
   |_=>none
 |l=>leafEq l x y
theorem leafQ_eq:leafQ=leafEq:=by
 funext l x y
 unfold leafQ
 split
 ·rename_i q
  split
  ·rename_i k a
   split
   ·rename_i k' b
    simp only[leafEq,kEq_eq,iEq_eq,cond_eq_ite,Bool.and_eq_true,decide_eq_true_eq]
    by_cases h1:k=q<;>by_cases h2:k'=q<;>simp[h1,h2]
   ·rename_i hy
    cases y<;>first|rfl|exact(hy _ _ rfl).elim
  ·rename_i hx
   cases x<;>first|rfl|exact(hx _ _ rfl).elim
 ·rfl
noncomputable def leavesQ:List Leaf→List Value→List Value→Option Bool
 |[],[],[]=>some true
 |l::ls,x::xs,y::ys=>match leafQ l x y with
  |some true=>leavesQ ls xs ys
  |some false=>match leavesQ ls xs ys with
   |some _=>some false
   |none=>none
  |none=>none
 |_,_,_=>none
theorem leavesQ_eq:leavesQ=leavesEq:=by
 funext ls
 induction ls with
 |nil=>funext xs ys;cases xs<;>cases ys<;>rfl
 |cons l ls ih=>
  funext xs ys
  cases xs<;>cases ys<;>first|rfl|(simp only[leavesQ,leavesEq,leafQ_eq,ih];rfl)
noncomputable def keyOkQ(ag:Bool)(ls:List Leaf)(k:Value):Bool:=
 match isAggV k==ag,leavesQ ls (cellsOf k) (cellsOf k)with
 |true,some _=>true
 |_,_=>false
theorem keyOkQ_eq:keyOkQ=keyOk:=by funext ag ls k;(simp only[keyOkQ,keyOk,leavesQ_eq];rfl)
noncomputable def keyEqQ(ag:Bool)(ls:List Leaf)(k k':Value):Option Bool:=
 match isAggV k'==ag with
 |true=>leavesQ ls (cellsOf k) (cellsOf k')
 |false=>none
theorem keyEqQ_eq:keyEqQ=keyEq:=by funext ag ls k k';(simp only[keyEqQ,keyEq,leavesQ_eq];rfl)
noncomputable def findQ(ag:Bool)(ls:List Leaf)(k:Value):Nat→List (Value×Value)→Option (Option (Nat×Value))
 |_,[]=>some none
 |i,(k',v)::es=>match keyEqQ ag ls k k' with
  |some true=>some (some (i,v))
  |some false=>findQ ag ls k (i+1) es
  |none=>none
theorem findQ_eq:findQ=findA:=by
 funext ag ls k i es
 induction es generalizing i with
 |nil=>rfl
 |cons p es ih=>obtain⟨a,b⟩:=p;(simp only[findQ,findA,keyEqQ_eq,ih];rfl)
noncomputable def same1Q(x y:Value):Bool:=
 match x with
 | .int k a=>match y with
   | .int k' b=>kEq k k'&&iEq a b
   |_=>false
 |x=>same1 x y
theorem same1Q_eq:same1Q=same1:=by
 funext x y
 unfold same1Q
 split
 ·rename_i k a
  split
  ·rename_i k' b
   simp only[same1,kEq_eq,iEq_eq]
   by_cases h:k=k'<;>simp[h]
  ·rename_i hy
   cases y<;>first|rfl|exact(hy _ _ rfl).elim
 ·rfl
end Go.A
end
section
namespace Go.A
noncomputable def loadQ(h:Heap)(n:Option Nat):Value→Option Value
 | .pointer (some ⟨b,o,none⟩)=>match getQ h b with
   |some (.cells vs _ _)=>match n with
    |none=>lget vs o
    |some n=>let l:=ltake n (ldrop o vs);bif Nat.beq (llen l) n then some (.agg l.toArray)else none
   |_=>none
 |_=>none
noncomputable def storeQ(h:Heap)(base n:Nat)(v:Value):Value→Option Heap
 | .pointer (some ⟨b,o,none⟩)=>match getQ h b with
   |some (.cells vs true sz)=>bif Nat.beq (llen (cellsOf v)) n&&Nat.ble (o+n) (llen vs)&&ones (cellsOf v)then some (wrQ h base b (.cells (lputs vs o (cellsOf v)) true sz))else none
   |_=>none
 |_=>none
noncomputable def bndQ(h:Heap)(e:Env)(dflt:Nat):Option Operand→Option Nat
 |none=>some dflt
 |some x=>match evQ h e x with
  |some v=>natOf v
  |none=>none
noncomputable def sliceQ(h:Heap)(e:Env)(size:Nat)(a:Option Addr)(len cap:Nat)(lo hi mx:Option Operand):Option (Value×Heap):=
 match bndQ h e 0 lo,bndQ h e len hi with
 |some l,some u=>
  match mx with
  |some _=>match bndQ h e 0 mx with
   |some m=>bif Nat.ble l u&&Nat.ble u m&&Nat.ble m (bif Nat.beq cap UNK then len else cap)&&Nat.blt m UNK then
    some (.slice (bif Nat.beq m l then a else match a with|some ⟨b,o,none⟩=>some ⟨b,o+l*size,none⟩|a=>a) (u-l) (m-l),h)
    else none
   |none=>none
  |none=>
   bif Nat.beq cap UNK then
    match a with
    |some ⟨b,o,none⟩=>match getQ h b with
     |some (.cells vs _ sz)=>
      bif Nat.beq sz size&&Nat.ble l u&&(Nat.ble u len||Nat.ble (o+u*size) (llen vs))then
       bif Nat.blt l len||Nat.blt l u then some (.slice (some ⟨b,o+l*size,none⟩) (u-l) UNK,h)
       else bif Nat.beq l 0 then some (.slice (some ⟨b,o,none⟩) 0 UNK,h)
       else some (.slice (some ⟨h.next,0,none⟩) 0 UNK,h.push (.cells [] false size))
      else none
     |_=>none
    |_=>none
   else bif Nat.ble l u&&Nat.ble u cap then
    some (.slice (bif Nat.beq cap l then a else match a with|some ⟨b,o,none⟩=>some ⟨b,o+l*size,none⟩|a=>a) (u-l) (cap-l),h)
    else none
 |_,_=>none
noncomputable def srcQ(h:Heap)(size:Nat):Value→Option (List Value×Nat)
 | .slice none n _=>bif Nat.beq n 0 then some ([],0)else none
 | .slice (some ⟨b,o,none⟩) n _=>match getQ h b with
   |some (.cells vs _ _)=>let l:=ltake (n*size) (ldrop o vs);bif Nat.beq (llen l) (n*size)then some (l,n)else none
   |_=>none
 | .string s=>bif Nat.beq size 1 then some (s.data.toList.map fun b=> .int .u8 b.toNat,s.size)else none
 |_=>none
noncomputable def appendQ(h:Heap)(base size bytes:Nat)(s:Value)(new:List Value)(n:Nat):Option (Value×Heap):=
 match s with
 | .slice a len cap=>
   bif Nat.beq n 0 then(bif Nat.ble len cap then some (s,h)else none)else
   bif Nat.ble ((2*(len+n)+768)*bytes) 281474976710656 then
    match a with
    |none=>bif Nat.beq len 0&&Nat.beq cap 0 then some (.slice (some ⟨h.next,0,none⟩) n UNK,h.push (.cells new true size))else none
    |some ⟨b,o,none⟩=>match getQ h b with
     |some (.cells vs own sz)=>
      bif Nat.beq cap UNK then
       bif own&&Nat.beq sz size then
        bif Nat.ble (o+(len+n)*size) (llen vs)&&ones new then
         some (.slice (some ⟨b,o,none⟩) (len+n) UNK,wrQ h base b (.cells (lputs vs (o+len*size) new) true sz))
        else bif Nat.beq o 0&&Nat.beq (len*size) (llen vs)&&ones new then
         some (.slice (some ⟨h.next,0,none⟩) (len+n) UNK,(wrQ h base b .dead).push (.cells (lcat vs new) true size))
        else none
       else none
      else bif Nat.ble (len+n) cap then
       bif own&&Nat.ble (o+(len+n)*size) (llen vs)&&ones new then
        some (.slice (some ⟨b,o,none⟩) (len+n) cap,wrQ h base b (.cells (lputs vs (o+len*size) new) true sz))
       else none
      else bif Nat.ble (o+len*size) (llen vs)then
       some (.slice (some ⟨h.next,0,none⟩) (len+n) UNK,h.push (.cells (lcat (ltake (len*size) (ldrop o vs)) new) true size))
      else none
     |_=>none
    |_=>none
   else none
 |_=>none
theorem loadQ_eq:loadQ=loadA:=by
 funext h n v
 unfold loadQ loadA
 simp only[evQ_eq,evsQ_eq,fillQ_eq,numQ_eq,findQ_eq,keyOkQ_eq,leavesQ_eq,getQ_eq,wrQ_eq];rfl
theorem storeQ_eq:storeQ=storeA:=by
 funext h base n v x
 unfold storeQ storeA
 simp only[evQ_eq,evsQ_eq,fillQ_eq,numQ_eq,findQ_eq,keyOkQ_eq,leavesQ_eq,getQ_eq,wrQ_eq];rfl
theorem bndQ_eq:bndQ=bnd:=by
 funext h e d x
 unfold bndQ bnd
 simp only[evQ_eq,evsQ_eq,fillQ_eq,numQ_eq,findQ_eq,keyOkQ_eq,leavesQ_eq,getQ_eq,wrQ_eq];rfl
theorem sliceQ_eq:sliceQ=sliceOp:=by
 funext h e size a len cap lo hi mx
 unfold sliceQ sliceOp
 simp only[evQ_eq,evsQ_eq,fillQ_eq,numQ_eq,findQ_eq,keyOkQ_eq,leavesQ_eq,getQ_eq,wrQ_eq,bndQ_eq];rfl
theorem srcQ_eq:srcQ=srcCells:=by
 funext h size v
 unfold srcQ srcCells
 simp only[evQ_eq,evsQ_eq,fillQ_eq,numQ_eq,findQ_eq,keyOkQ_eq,leavesQ_eq,getQ_eq,wrQ_eq];rfl
theorem appendQ_eq:appendQ=appendA:=by
 funext h base size bytes s new n
 unfold appendQ appendA
 simp only[evQ_eq,evsQ_eq,fillQ_eq,numQ_eq,findQ_eq,keyOkQ_eq,leavesQ_eq,getQ_eq,wrQ_eq];rfl
noncomputable def q_mov(h:Heap)(base:Nat)(e:Env)(x:Operand):Option AOut:=bindV (evQ h e x) fun v=>some (.val v h)
noncomputable def q_pick(h:Heap)(base:Nat)(e:Env)(c:Operand)(a:Operand)(b:Operand):Option AOut:=match evQ h e c with
 |some (.bool true)=>bindV (evQ h e a) fun v=>some (.val v h)
 |some (.bool false)=>bindV (evQ h e b) fun v=>some (.val v h)
 |_=>none
noncomputable def q_new(h:Heap)(base:Nat)(e:Env)(z:List Value):Option AOut:=some (.val (.pointer (some ⟨h.next,0,none⟩)) (h.push (.cells z true 1)))
noncomputable def q_box(h:Heap)(base:Nat)(e:Env)(x:Operand):Option AOut:=bindV (evQ h e x) fun v=>some (.val (.pointer (some ⟨h.next,0,none⟩)) (h.push (.cells (cellsOf v) true 1)))
noncomputable def q_build(h:Heap)(base:Nat)(e:Env)(z:List Value)(ps:List (Nat×Nat×Operand)):Option AOut:=match fillQ h e z ps with
 |some cs=>some (.val (.agg cs.toArray) h)
 |none=>none
noncomputable def q_bslice(h:Heap)(base:Nat)(e:Env)(z:List Value)(n:Nat)(ps:List (Nat×Nat×Operand)):Option AOut:=match fillQ h e (lrow n z) ps with
 |some cs=>some (.val (.slice (some ⟨h.next,0,none⟩) n n) (h.push (.cells cs true (llen z))))
 |none=>none
noncomputable def q_load(h:Heap)(base:Nat)(e:Env)(n:Option Nat)(a:Operand):Option AOut:=bindV (evQ h e a) fun a=>bindV (loadQ h n a) fun v=>some (.val v h)
noncomputable def q_store(h:Heap)(base:Nat)(e:Env)(n:Nat)(a:Operand)(v:Operand):Option AOut:=bindV (evQ h e a) fun a=>bindV (evQ h e v) fun v=>match storeQ h base n v a with
 |some h'=>some (.val (.tuple #[]) h')
 |none=>none
noncomputable def q_nilchk(h:Heap)(base:Nat)(e:Env)(x:Operand):Option AOut:=bindV (evQ h e x) fun v=>match v with
 | .pointer none| .nilIface| .nilFunc=>none
 | .func (.method _) _ _=>none
 |v=>some (.val v h)
noncomputable def q_bin(h:Heap)(base:Nat)(e:Env):ABin→Operand→Operand→Option AOut
 |(.num op),x,y=>bindV (evQ h e x) fun x=>bindV (evQ h e y) fun y=>bindV (numQ op x y) fun v=>some (.val v h)
 |(.beq neq),x,y=>match evQ h e x,evQ h e y with
  |some (.bool a),some (.bool b)=>some (.val (.bool (bif neq then !(a==b)else a==b)) h)
  |_,_=>none
 |(.nil k neq),x,y=>bindV (evQ h e x) fun x=>bindV (evQ h e y) fun y=>match nilEq k x y with
  |some b=>some (.val (.bool (bif neq then !b else b)) h)
  |none=>none
 |(.agg neq ls),x,y=>bindV (evQ h e x) fun x=>bindV (evQ h e y) fun y=>match x,y with
  | .agg xs, .agg ys=>match leavesQ ls xs.toList ys.toList with
    |some b=>some (.val (.bool (bif neq then !b else b)) h)
    |none=>none
  |_,_=>none
noncomputable def q_un(h:Heap)(base:Nat)(e:Env)(op:UnOp)(x:Operand):Option AOut:=bindV (evQ h e x) fun x=>bindV (unOpA op x) fun v=>some (.val v h)
noncomputable def q_conv(h:Heap)(base:Nat)(e:Env)(c:Cv)(x:Operand):Option AOut:=bindV (evQ h e x) fun x=>asPair (convA h c x)
noncomputable def q_mkIface(h:Heap)(base:Nat)(e:Env)(t:TypeId)(x:Operand):Option AOut:=bindV (evQ h e x) fun v=>some (.val (.iface t v) h)
noncomputable def q_mkFunc(h:Heap)(base:Nat)(e:Env)(fn:Fn)(fs:List Operand)(cs:List Operand):Option AOut:=match evsQ h e fs,evsQ h e cs with
 |some fs,some cs=>some (.val (.func fn fs.toArray cs.toArray) h)
 |_,_=>none
noncomputable def q_mkMap(h:Heap)(base:Nat)(e:Env):Option AOut:=some (.val (.map (some h.next)) (h.push (.map [])))
noncomputable def q_mkSlice(h:Heap)(base:Nat)(e:Env)(z:List Value)(bytes:Nat)(l:Operand)(c:Operand):Option AOut:=match evQ h e l,evQ h e c with
 |some l,some c=>match natOf l,natOf c with
  |some l,some c=>bif Nat.ble l c&&Nat.ble (bytes*c) 281474976710656&&Nat.blt c UNK then
   some (.val (.slice (some ⟨h.next,0,none⟩) l c) (h.push (.cells (lrow c z) true (llen z))))
   else none
  |_,_=>none
 |_,_=>none
noncomputable def q_slice(h:Heap)(base:Nat)(e:Env):ASl→Operand→Option Operand→Option Operand→Option Operand→Option AOut
 | .str,x,lo,hi,none=>match evQ h e x with
   |some (.string s)=>match bndQ h e 0 lo,bndQ h e s.size hi with
    |some l,some u=>bif Nat.ble l u&&Nat.ble u s.size then some (.val (.string (s.extract l u)) h)else none
    |_,_=>none
   |_=>none
 |(.sl size),x,lo,hi,mx=>match evQ h e x with
  |some (.slice a len cap)=>asPair (sliceQ h e size a len cap lo hi mx)
  |_=>none
 |(.arr n size),x,lo,hi,mx=>match evQ h e x with
  |some (.pointer (some a))=>asPair (sliceQ h e size (some a) n n lo hi mx)
  |_=>none
 | .str,_,_,_,(some _)=>none
noncomputable def q_faddr(h:Heap)(base:Nat)(e:Env)(off:Nat)(x:Operand):Option AOut:=match evQ h e x with
 |some (.pointer (some ⟨b,o,none⟩))=>some (.val (.pointer (some ⟨b,o+off,none⟩)) h)
 |_=>none
noncomputable def q_field(h:Heap)(base:Nat)(e:Env)(off:Nat)(n:Option Nat)(x:Operand):Option AOut:=match evQ h e x with
 |some (.agg cs)=>match n with
  |none=>bindV (lget cs.toList off) fun v=>some (.val v h)
  |some n=>let l:=ltake n (ldrop off cs.toList);bif Nat.beq (llen l) n then some (.val (.agg l.toArray) h)else none
 |_=>none
noncomputable def q_iaddrA(h:Heap)(base:Nat)(e:Env)(len:Nat)(size:Nat)(x:Operand)(i:Operand):Option AOut:=match evQ h e x,evQ h e i with
 |some (.pointer (some ⟨b,o,none⟩)),some (.int _ (.ofNat i))=>bif Nat.blt i len then some (.val (.pointer (some ⟨b,o+i*size,none⟩)) h)else none
 |_,_=>none
noncomputable def q_iaddrS(h:Heap)(base:Nat)(e:Env)(size:Nat)(x:Operand)(i:Operand):Option AOut:=match evQ h e x,evQ h e i with
 |some (.slice (some ⟨b,o,none⟩) len _),some (.int _ (.ofNat i))=>bif Nat.blt i len then some (.val (.pointer (some ⟨b,o+i*size,none⟩)) h)else none
 |_,_=>none
noncomputable def q_idxA(h:Heap)(base:Nat)(e:Env)(len:Nat)(size:Nat)(n:Option Nat)(x:Operand)(i:Operand):Option AOut:=match evQ h e x,evQ h e i with
 |some (.agg cs),some (.int _ (.ofNat i))=>bif Nat.blt i len then
  match n with
  |none=>bindV (lget cs.toList (i*size)) fun v=>some (.val v h)
  |some n=>let l:=ltake n (ldrop (i*size) cs.toList);bif Nat.beq (llen l) n then some (.val (.agg l.toArray) h)else none
  else none
 |_,_=>none
noncomputable def q_idxS(h:Heap)(base:Nat)(e:Env)(x:Operand)(i:Operand):Option AOut:=match evQ h e x,evQ h e i with
 |some (.string s),some (.int _ (.ofNat i))=>match lget s.data.toList i with
  |some b=>some (.val (.int .u8 b.toNat) h)
  |none=>none
 |_,_=>none
noncomputable def q_lookup(h:Heap)(base:Nat)(e:Env)(ag:Bool)(ls:List Leaf)(z:Value)(ok:Bool)(m:Operand)(k:Operand):Option AOut:=match evQ h e m,evQ h e k with
 |some (.map none),some k=>bif keyOkQ ag ls k then some (.val (bif ok then .tuple #[z, .bool false]else z) h)else none
 |some (.map (some r)),some k=>match mapO (getQ h r)with
  |some es=>bif keyOkQ ag ls k then match findQ ag ls k 0 es with
   |some (some (_,v))=>some (.val (bif ok then .tuple #[v, .bool true]else v) h)
   |some none=>some (.val (bif ok then .tuple #[z, .bool false]else z) h)
   |none=>none else none
  |none=>none
 |_,_=>none
noncomputable def q_mapUp(h:Heap)(base:Nat)(e:Env)(ag:Bool)(ls:List Leaf)(m:Operand)(k:Operand)(v:Operand):Option AOut:=match evQ h e m,evQ h e k,evQ h e v with
 |some (.map (some r)),some k,some v=>match getQ h r with
  |some (.map es)=>bif keyOkQ ag ls k then match findQ ag ls k 0 es with
   |some (some (i,_))=>some (.val (.tuple #[]) (wrQ h base r (.map (lset es i (k,v)))))
   |some none=>some (.val (.tuple #[]) (wrQ h base r (.map (lcat es [(k,v)]))))
   |none=>none else none
  |_=>none
 |_,_,_=>none
noncomputable def q_tassert(h:Heap)(base:Nat)(e:Env)(t:TypeId)(ok:Bool)(z:Value)(x:Operand):Option AOut:=match evQ h e x with
 |some .nilIface=>bif ok then some (.val (.tuple #[z, .bool false]) h)else none
 |some (.iface t' v)=>if t'=t then some (.val (bif ok then .tuple #[v, .bool true]else v) h)
  else bif ok then some (.val (.tuple #[z, .bool false]) h)else none
 |_=>none
noncomputable def q_extract(h:Heap)(base:Nat)(e:Env)(t:Operand)(i:Nat):Option AOut:=match evQ h e t with
 |some (.tuple vs)=>bindV (lget vs.toList i) fun v=>some (.val v h)
 |_=>none
noncomputable def q_call(h:Heap)(base:Nat)(e:Env)(f:Operand)(args:List Operand):Option AOut:=match evQ h e f,evsQ h e args with
 |some f,some args=>fnCall f args h
 |_,_=>none
noncomputable def q_len(h:Heap)(base:Nat)(e:Env):Nat→Operand→Option AOut
 |0,x=>match evQ h e x with
  |some (.string s)=>some (.val (.int .i64 s.size) h)
  |_=>none
 |1,x=>match evQ h e x with
  |some (.slice _ n _)=>some (.val (.int .i64 n) h)
  |_=>none
 |_,x=>match evQ h e x with
  |some (.map none)=>some (.val (.int .i64 0) h)
  |some (.map (some r))=>match mapO (getQ h r)with
   |some es=>some (.val (.int .i64 (llen es)) h)
   |none=>none
  |_=>none
noncomputable def q_lenArr(h:Heap)(base:Nat)(e:Env)(n:Nat):Option AOut:=some (.val (.int .i64 n) h)
noncomputable def q_cap(h:Heap)(base:Nat)(e:Env)(x:Operand):Option AOut:=match evQ h e x with
 |some (.slice _ _ c)=>bif Nat.beq c UNK then none else some (.val (.int .i64 c) h)
 |_=>none
noncomputable def q_append(h:Heap)(base:Nat)(e:Env)(size:Nat)(bytes:Nat)(s:Operand)(x:Operand):Option AOut:=match evQ h e s,evQ h e x with
 |some s,some x=>match srcQ h size x with
  |some (l,n)=>asPair (appendQ h base size bytes s l n)
  |none=>none
 |_,_=>none
noncomputable def q_appendN(h:Heap)(base:Nat)(e:Env)(z:List Value)(bytes:Nat)(s:Operand)(n:Operand):Option AOut:=match evQ h e s,evQ h e n with
 |some s,some n=>match natOf n with
  |some n=>bif Nat.blt n 9223372036854775808&&Nat.ble (n*bytes) 281474976710656 then asPair (appendQ h base (llen z) bytes s (lrow n z) n)else none
  |none=>none
 |_,_=>none
noncomputable def q_copy(h:Heap)(base:Nat)(e:Env)(size:Nat)(d:Operand)(s:Operand):Option AOut:=match evQ h e d,evQ h e s with
 |some (.slice a dl _),some s=>match srcQ h size s with
  |some (l,n)=>
   let m:=Nat.min n dl
   match a with
   |none=>some (.val (.int .i64 m) h)
   |some ⟨b,o,none⟩=>match getQ h b with
    |some (.cells vs true sz)=>bif Nat.ble (o+m*size) (llen vs)&&ones (ltake (m*size) l)then
     some (.val (.int .i64 m) (wrQ h base b (.cells (lputs vs o (ltake (m*size) l)) true sz)))
     else none
    |_=>none
   |_=>none
  |none=>none
 |_,_=>none
noncomputable def q_clear(h:Heap)(base:Nat)(e:Env)(z:List Value)(x:Operand):Option AOut:=match evQ h e x with
 |some (.slice a n _)=>
  bif Nat.beq n 0 then some (.val (.tuple #[]) h)else
  match a with
  |none=>some (.val (.tuple #[]) h)
  |some ⟨b,o,none⟩=>match getQ h b with
   |some (.cells vs true sz)=>bif Nat.ble (o+llen (lrow n z)) (llen vs)&&ones (lrow n z)then some (.val (.tuple #[]) (wrQ h base b (.cells (lputs vs o (lrow n z)) true sz)))else none
   |_=>none
  |_=>none
 |_=>none
noncomputable def q_minmax(h:Heap)(base:Nat)(e:Env)(mx:Bool)(args:List Operand):Option AOut:=match evsQ h e args with
 |some (x::l)=>bindV (mmA mx x l) fun v=>some (.val v h)
 |_=>none
noncomputable def q_delete(h:Heap)(base:Nat)(e:Env)(ag:Bool)(ls:List Leaf)(m:Operand)(k:Operand):Option AOut:=match evQ h e m,evQ h e k with
 |some (.map (some r)),some k=>match getQ h r with
  |some (.map es)=>bif keyOkQ ag ls k then match findQ ag ls k 0 es with
   |some (some (i,_))=>some (.val (.tuple #[]) (wrQ h base r (.map (ldel es i))))
   |some none=>some (.val (.tuple #[]) (wrQ h base r (.map es)))
   |none=>none else none
  |_=>none
 |some (.map none),some k=>bif keyOkQ ag ls k then some (.val (.tuple #[]) h)else none
 |_,_=>none
noncomputable def q_dfer(h:Heap)(base:Nat)(e:Env)(f:Operand)(args:List Operand):Option AOut:=match evQ h e f,evsQ h e args with
 |some (.func (.func g) first cap),some args=>some (.dfer (.func (.func g) first cap) args)
 |_,_=>none
noncomputable def q_recover(h:Heap)(base:Nat)(e:Env):Option AOut:=some .recover
noncomputable def q_pnic(h:Heap)(base:Nat)(e:Env)(x:Operand):Option AOut:=bindV (evQ h e x) fun v=>match v with
 | .iface _ _=>some (.panic v h)
 |_=>none
noncomputable def q_range(h:Heap)(base:Nat)(e:Env)(x:Operand):Option AOut:=match evQ h e x with
 |some (.string s)=>some (.val (.pointer (some ⟨h.next,0,none⟩)) (h.push (.siter s 0)))
 |_=>none
noncomputable def q_next(h:Heap)(base:Nat)(e:Env):Operand→Bool→Option AOut
 |x,true=>match evQ h e x with
  |some (.pointer (some ⟨r,0,none⟩))=>match getQ h r with
   |some (.siter s pos)=>bif Nat.blt pos s.size then
    let d:=Utf8.decode s pos
    some (.val (.tuple #[.bool true, .int .i64 pos, .int .i32 d.1]) (wrQ h base r (.siter s (pos+d.2))))
    else some (.val (.tuple #[.bool false]) h)
   |_=>none
  |_=>none
 |_,false=>none
noncomputable def q_rangeM(h:Heap)(base:Nat)(e:Env)(_:Operand):Option AOut:=none
noncomputable def q_entry(h:Heap)(base:Nat)(e:Env)(_:Operand):Option AOut:=none
noncomputable def r_mov(x0:Operand)(h:Heap)(base:Nat)(e:Env):Option AOut:=q_mov h base e x0
noncomputable def r_pick(x0:Operand)(x1:Operand)(x2:Operand)(h:Heap)(base:Nat)(e:Env):Option AOut:=q_pick h base e x0 x1 x2
noncomputable def r_new(x0:List Value)(h:Heap)(base:Nat)(e:Env):Option AOut:=q_new h base e x0
noncomputable def r_box(x0:Operand)(h:Heap)(base:Nat)(e:Env):Option AOut:=q_box h base e x0
noncomputable def r_build(x0:List Value)(x1:List (Nat×Nat×Operand))(h:Heap)(base:Nat)(e:Env):Option AOut:=q_build h base e x0 x1
noncomputable def r_bslice(x0:List Value)(x1:Nat)(x2:List (Nat×Nat×Operand))(h:Heap)(base:Nat)(e:Env):Option AOut:=q_bslice h base e x0 x1 x2
noncomputable def r_load(x0:Option Nat)(x1:Operand)(h:Heap)(base:Nat)(e:Env):Option AOut:=q_load h base e x0 x1
noncomputable def r_store(x0:Nat)(x1:Operand)(x2:Operand)(h:Heap)(base:Nat)(e:Env):Option AOut:=q_store h base e x0 x1 x2
noncomputable def r_nilchk(x0:Operand)(h:Heap)(base:Nat)(e:Env):Option AOut:=q_nilchk h base e x0
noncomputable def r_bin(x0:ABin)(x1:Operand)(x2:Operand)(h:Heap)(base:Nat)(e:Env):Option AOut:=q_bin h base e x0 x1 x2
noncomputable def r_un(x0:UnOp)(x1:Operand)(h:Heap)(base:Nat)(e:Env):Option AOut:=q_un h base e x0 x1
noncomputable def r_conv(x0:Cv)(x1:Operand)(h:Heap)(base:Nat)(e:Env):Option AOut:=q_conv h base e x0 x1
noncomputable def r_mkIface(x0:TypeId)(x1:Operand)(h:Heap)(base:Nat)(e:Env):Option AOut:=q_mkIface h base e x0 x1
noncomputable def r_mkFunc(x0:Fn)(x1:List Operand)(x2:List Operand)(h:Heap)(base:Nat)(e:Env):Option AOut:=q_mkFunc h base e x0 x1 x2
noncomputable def r_mkMap(h:Heap)(base:Nat)(e:Env):Option AOut:=q_mkMap h base e
noncomputable def r_mkSlice(x0:List Value)(x1:Nat)(x2:Operand)(x3:Operand)(h:Heap)(base:Nat)(e:Env):Option AOut:=q_mkSlice h base e x0 x1 x2 x3
noncomputable def r_slice(x0:ASl)(x1:Operand)(x2:Option Operand)(x3:Option Operand)(x4:Option Operand)(h:Heap)(base:Nat)(e:Env):Option AOut:=q_slice h base e x0 x1 x2 x3 x4
noncomputable def r_faddr(x0:Nat)(x1:Operand)(h:Heap)(base:Nat)(e:Env):Option AOut:=q_faddr h base e x0 x1
noncomputable def r_field(x0:Nat)(x1:Option Nat)(x2:Operand)(h:Heap)(base:Nat)(e:Env):Option AOut:=q_field h base e x0 x1 x2
noncomputable def r_iaddrA(x0:Nat)(x1:Nat)(x2:Operand)(x3:Operand)(h:Heap)(base:Nat)(e:Env):Option AOut:=q_iaddrA h base e x0 x1 x2 x3
noncomputable def r_iaddrS(x0:Nat)(x1:Operand)(x2:Operand)(h:Heap)(base:Nat)(e:Env):Option AOut:=q_iaddrS h base e x0 x1 x2
noncomputable def r_idxA(x0:Nat)(x1:Nat)(x2:Option Nat)(x3:Operand)(x4:Operand)(h:Heap)(base:Nat)(e:Env):Option AOut:=q_idxA h base e x0 x1 x2 x3 x4
noncomputable def r_idxS(x0:Operand)(x1:Operand)(h:Heap)(base:Nat)(e:Env):Option AOut:=q_idxS h base e x0 x1
noncomputable def r_lookup(x0:Bool)(x1:List Leaf)(x2:Value)(x3:Bool)(x4:Operand)(x5:Operand)(h:Heap)(base:Nat)(e:Env):Option AOut:=q_lookup h base e x0 x1 x2 x3 x4 x5
noncomputable def r_mapUp(x0:Bool)(x1:List Leaf)(x2:Operand)(x3:Operand)(x4:Operand)(h:Heap)(base:Nat)(e:Env):Option AOut:=q_mapUp h base e x0 x1 x2 x3 x4
noncomputable def r_tassert(x0:TypeId)(x1:Bool)(x2:Value)(x3:Operand)(h:Heap)(base:Nat)(e:Env):Option AOut:=q_tassert h base e x0 x1 x2 x3
noncomputable def r_extract(x0:Operand)(x1:Nat)(h:Heap)(base:Nat)(e:Env):Option AOut:=q_extract h base e x0 x1
noncomputable def r_call(x0:Operand)(x1:List Operand)(h:Heap)(base:Nat)(e:Env):Option AOut:=q_call h base e x0 x1
noncomputable def r_len(x0:Nat)(x1:Operand)(h:Heap)(base:Nat)(e:Env):Option AOut:=q_len h base e x0 x1
noncomputable def r_lenArr(x0:Nat)(h:Heap)(base:Nat)(e:Env):Option AOut:=q_lenArr h base e x0
noncomputable def r_cap(x0:Operand)(h:Heap)(base:Nat)(e:Env):Option AOut:=q_cap h base e x0
noncomputable def r_append(x0:Nat)(x1:Nat)(x2:Operand)(x3:Operand)(h:Heap)(base:Nat)(e:Env):Option AOut:=q_append h base e x0 x1 x2 x3
noncomputable def r_appendN(x0:List Value)(x1:Nat)(x2:Operand)(x3:Operand)(h:Heap)(base:Nat)(e:Env):Option AOut:=q_appendN h base e x0 x1 x2 x3
noncomputable def r_copy(x0:Nat)(x1:Operand)(x2:Operand)(h:Heap)(base:Nat)(e:Env):Option AOut:=q_copy h base e x0 x1 x2
noncomputable def r_clear(x0:List Value)(x1:Operand)(h:Heap)(base:Nat)(e:Env):Option AOut:=q_clear h base e x0 x1
noncomputable def r_minmax(x0:Bool)(x1:List Operand)(h:Heap)(base:Nat)(e:Env):Option AOut:=q_minmax h base e x0 x1
noncomputable def r_delete(x0:Bool)(x1:List Leaf)(x2:Operand)(x3:Operand)(h:Heap)(base:Nat)(e:Env):Option AOut:=q_delete h base e x0 x1 x2 x3
noncomputable def r_dfer(x0:Operand)(x1:List Operand)(h:Heap)(base:Nat)(e:Env):Option AOut:=q_dfer h base e x0 x1
noncomputable def r_recover(h:Heap)(base:Nat)(e:Env):Option AOut:=q_recover h base e
noncomputable def r_pnic(x0:Operand)(h:Heap)(base:Nat)(e:Env):Option AOut:=q_pnic h base e x0
noncomputable def r_range(x0:Operand)(h:Heap)(base:Nat)(e:Env):Option AOut:=q_range h base e x0
noncomputable def r_next(x0:Operand)(x1:Bool)(h:Heap)(base:Nat)(e:Env):Option AOut:=q_next h base e x0 x1
noncomputable def r_rangeM(x0:Operand)(h:Heap)(base:Nat)(e:Env):Option AOut:=q_rangeM h base e x0
noncomputable def r_entry(x0:Operand)(h:Heap)(base:Nat)(e:Env):Option AOut:=q_entry h base e x0
noncomputable def aopR(o:AOp):Heap→Nat→Env→Option AOut:=AOp.rec (motive:=fun _=>Heap→Nat→Env→Option AOut) r_mov r_pick r_new r_box r_build r_bslice r_load r_store r_nilchk r_bin r_un r_conv r_mkIface r_mkFunc r_mkMap r_mkSlice r_slice r_faddr r_field r_iaddrA r_iaddrS r_idxA r_idxS r_lookup r_mapUp r_tassert r_extract r_call r_len r_lenArr r_cap r_append r_appendN r_copy r_clear r_minmax r_delete r_dfer r_recover r_pnic r_range r_next r_rangeM r_entry o
noncomputable def aopQ(h:Heap)(base:Nat)(e:Env)(o:AOp):Option AOut:=aopR o h base e
theorem aopQ_eq:aopQ=aop:=by
 funext h base e o
 cases o
 case mov x0=>show q_mov h base e x0=_;first|rfl|(unfold q_mov;simp only[evQ_eq,evsQ_eq,fillQ_eq,numQ_eq,findQ_eq,keyOkQ_eq,leavesQ_eq,getQ_eq,wrQ_eq,bndQ_eq,loadQ_eq,storeQ_eq,sliceQ_eq,srcQ_eq,appendQ_eq];rfl)
 case pick x0 x1 x2=>show q_pick h base e x0 x1 x2=_;first|rfl|(unfold q_pick;simp only[evQ_eq,evsQ_eq,fillQ_eq,numQ_eq,findQ_eq,keyOkQ_eq,leavesQ_eq,getQ_eq,wrQ_eq,bndQ_eq,loadQ_eq,storeQ_eq,sliceQ_eq,srcQ_eq,appendQ_eq];rfl)
 case new x0=>show q_new h base e x0=_;first|rfl|(unfold q_new;simp only[evQ_eq,evsQ_eq,fillQ_eq,numQ_eq,findQ_eq,keyOkQ_eq,leavesQ_eq,getQ_eq,wrQ_eq,bndQ_eq,loadQ_eq,storeQ_eq,sliceQ_eq,srcQ_eq,appendQ_eq];rfl)
 case box x0=>show q_box h base e x0=_;first|rfl|(unfold q_box;simp only[evQ_eq,evsQ_eq,fillQ_eq,numQ_eq,findQ_eq,keyOkQ_eq,leavesQ_eq,getQ_eq,wrQ_eq,bndQ_eq,loadQ_eq,storeQ_eq,sliceQ_eq,srcQ_eq,appendQ_eq];rfl)
 case build x0 x1=>show q_build h base e x0 x1=_;first|rfl|(unfold q_build;simp only[evQ_eq,evsQ_eq,fillQ_eq,numQ_eq,findQ_eq,keyOkQ_eq,leavesQ_eq,getQ_eq,wrQ_eq,bndQ_eq,loadQ_eq,storeQ_eq,sliceQ_eq,srcQ_eq,appendQ_eq];rfl)
 case bslice x0 x1 x2=>show q_bslice h base e x0 x1 x2=_;first|rfl|(unfold q_bslice;simp only[evQ_eq,evsQ_eq,fillQ_eq,numQ_eq,findQ_eq,keyOkQ_eq,leavesQ_eq,getQ_eq,wrQ_eq,bndQ_eq,loadQ_eq,storeQ_eq,sliceQ_eq,srcQ_eq,appendQ_eq];rfl)
 case load x0 x1=>show q_load h base e x0 x1=_;first|rfl|(unfold q_load;simp only[evQ_eq,evsQ_eq,fillQ_eq,numQ_eq,findQ_eq,keyOkQ_eq,leavesQ_eq,getQ_eq,wrQ_eq,bndQ_eq,loadQ_eq,storeQ_eq,sliceQ_eq,srcQ_eq,appendQ_eq];rfl)
 case store x0 x1 x2=>show q_store h base e x0 x1 x2=_;first|rfl|(unfold q_store;simp only[evQ_eq,evsQ_eq,fillQ_eq,numQ_eq,findQ_eq,keyOkQ_eq,leavesQ_eq,getQ_eq,wrQ_eq,bndQ_eq,loadQ_eq,storeQ_eq,sliceQ_eq,srcQ_eq,appendQ_eq];rfl)
 case nilchk x0=>show q_nilchk h base e x0=_;first|rfl|(unfold q_nilchk;simp only[evQ_eq,evsQ_eq,fillQ_eq,numQ_eq,findQ_eq,keyOkQ_eq,leavesQ_eq,getQ_eq,wrQ_eq,bndQ_eq,loadQ_eq,storeQ_eq,sliceQ_eq,srcQ_eq,appendQ_eq];rfl)
 case un x0 x1=>show q_un h base e x0 x1=_;first|rfl|(unfold q_un;simp only[evQ_eq,evsQ_eq,fillQ_eq,numQ_eq,findQ_eq,keyOkQ_eq,leavesQ_eq,getQ_eq,wrQ_eq,bndQ_eq,loadQ_eq,storeQ_eq,sliceQ_eq,srcQ_eq,appendQ_eq];rfl)
 case conv x0 x1=>show q_conv h base e x0 x1=_;first|rfl|(unfold q_conv;simp only[evQ_eq,evsQ_eq,fillQ_eq,numQ_eq,findQ_eq,keyOkQ_eq,leavesQ_eq,getQ_eq,wrQ_eq,bndQ_eq,loadQ_eq,storeQ_eq,sliceQ_eq,srcQ_eq,appendQ_eq];rfl)
 case mkIface x0 x1=>show q_mkIface h base e x0 x1=_;first|rfl|(unfold q_mkIface;simp only[evQ_eq,evsQ_eq,fillQ_eq,numQ_eq,findQ_eq,keyOkQ_eq,leavesQ_eq,getQ_eq,wrQ_eq,bndQ_eq,loadQ_eq,storeQ_eq,sliceQ_eq,srcQ_eq,appendQ_eq];rfl)
 case mkFunc x0 x1 x2=>show q_mkFunc h base e x0 x1 x2=_;first|rfl|(unfold q_mkFunc;simp only[evQ_eq,evsQ_eq,fillQ_eq,numQ_eq,findQ_eq,keyOkQ_eq,leavesQ_eq,getQ_eq,wrQ_eq,bndQ_eq,loadQ_eq,storeQ_eq,sliceQ_eq,srcQ_eq,appendQ_eq];rfl)
 case mkMap=>show q_mkMap h base e=_;first|rfl|(unfold q_mkMap;simp only[evQ_eq,evsQ_eq,fillQ_eq,numQ_eq,findQ_eq,keyOkQ_eq,leavesQ_eq,getQ_eq,wrQ_eq,bndQ_eq,loadQ_eq,storeQ_eq,sliceQ_eq,srcQ_eq,appendQ_eq];rfl)
 case mkSlice x0 x1 x2 x3=>show q_mkSlice h base e x0 x1 x2 x3=_;first|rfl|(unfold q_mkSlice;simp only[evQ_eq,evsQ_eq,fillQ_eq,numQ_eq,findQ_eq,keyOkQ_eq,leavesQ_eq,getQ_eq,wrQ_eq,bndQ_eq,loadQ_eq,storeQ_eq,sliceQ_eq,srcQ_eq,appendQ_eq];rfl)
 case faddr x0 x1=>show q_faddr h base e x0 x1=_;first|rfl|(unfold q_faddr;simp only[evQ_eq,evsQ_eq,fillQ_eq,numQ_eq,findQ_eq,keyOkQ_eq,leavesQ_eq,getQ_eq,wrQ_eq,bndQ_eq,loadQ_eq,storeQ_eq,sliceQ_eq,srcQ_eq,appendQ_eq];rfl)
 case field x0 x1 x2=>show q_field h base e x0 x1 x2=_;first|rfl|(unfold q_field;simp only[evQ_eq,evsQ_eq,fillQ_eq,numQ_eq,findQ_eq,keyOkQ_eq,leavesQ_eq,getQ_eq,wrQ_eq,bndQ_eq,loadQ_eq,storeQ_eq,sliceQ_eq,srcQ_eq,appendQ_eq];rfl)
 case iaddrA x0 x1 x2 x3=>show q_iaddrA h base e x0 x1 x2 x3=_;first|rfl|(unfold q_iaddrA;simp only[evQ_eq,evsQ_eq,fillQ_eq,numQ_eq,findQ_eq,keyOkQ_eq,leavesQ_eq,getQ_eq,wrQ_eq,bndQ_eq,loadQ_eq,storeQ_eq,sliceQ_eq,srcQ_eq,appendQ_eq];rfl)
 case iaddrS x0 x1 x2=>show q_iaddrS h base e x0 x1 x2=_;first|rfl|(unfold q_iaddrS;simp only[evQ_eq,evsQ_eq,fillQ_eq,numQ_eq,findQ_eq,keyOkQ_eq,leavesQ_eq,getQ_eq,wrQ_eq,bndQ_eq,loadQ_eq,storeQ_eq,sliceQ_eq,srcQ_eq,appendQ_eq];rfl)
 case idxA x0 x1 x2 x3 x4=>show q_idxA h base e x0 x1 x2 x3 x4=_;first|rfl|(unfold q_idxA;simp only[evQ_eq,evsQ_eq,fillQ_eq,numQ_eq,findQ_eq,keyOkQ_eq,leavesQ_eq,getQ_eq,wrQ_eq,bndQ_eq,loadQ_eq,storeQ_eq,sliceQ_eq,srcQ_eq,appendQ_eq];rfl)
 case idxS x0 x1=>show q_idxS h base e x0 x1=_;first|rfl|(unfold q_idxS;simp only[evQ_eq,evsQ_eq,fillQ_eq,numQ_eq,findQ_eq,keyOkQ_eq,leavesQ_eq,getQ_eq,wrQ_eq,bndQ_eq,loadQ_eq,storeQ_eq,sliceQ_eq,srcQ_eq,appendQ_eq];rfl)
 case lookup x0 x1 x2 x3 x4 x5=>show q_lookup h base e x0 x1 x2 x3 x4 x5=_;first|rfl|(unfold q_lookup;simp only[evQ_eq,evsQ_eq,fillQ_eq,numQ_eq,findQ_eq,keyOkQ_eq,leavesQ_eq,getQ_eq,wrQ_eq,bndQ_eq,loadQ_eq,storeQ_eq,sliceQ_eq,srcQ_eq,appendQ_eq];rfl)
 case mapUp x0 x1 x2 x3 x4=>show q_mapUp h base e x0 x1 x2 x3 x4=_;first|rfl|(unfold q_mapUp;simp only[evQ_eq,evsQ_eq,fillQ_eq,numQ_eq,findQ_eq,keyOkQ_eq,leavesQ_eq,getQ_eq,wrQ_eq,bndQ_eq,loadQ_eq,storeQ_eq,sliceQ_eq,srcQ_eq,appendQ_eq];rfl)
 case tassert x0 x1 x2 x3=>show q_tassert h base e x0 x1 x2 x3=_;first|rfl|(unfold q_tassert;simp only[evQ_eq,evsQ_eq,fillQ_eq,numQ_eq,findQ_eq,keyOkQ_eq,leavesQ_eq,getQ_eq,wrQ_eq,bndQ_eq,loadQ_eq,storeQ_eq,sliceQ_eq,srcQ_eq,appendQ_eq];rfl)
 case extract x0 x1=>show q_extract h base e x0 x1=_;first|rfl|(unfold q_extract;simp only[evQ_eq,evsQ_eq,fillQ_eq,numQ_eq,findQ_eq,keyOkQ_eq,leavesQ_eq,getQ_eq,wrQ_eq,bndQ_eq,loadQ_eq,storeQ_eq,sliceQ_eq,srcQ_eq,appendQ_eq];rfl)
 case call x0 x1=>show q_call h base e x0 x1=_;first|rfl|(unfold q_call;simp only[evQ_eq,evsQ_eq,fillQ_eq,numQ_eq,findQ_eq,keyOkQ_eq,leavesQ_eq,getQ_eq,wrQ_eq,bndQ_eq,loadQ_eq,storeQ_eq,sliceQ_eq,srcQ_eq,appendQ_eq];rfl)
 case lenArr x0=>show q_lenArr h base e x0=_;first|rfl|(unfold q_lenArr;simp only[evQ_eq,evsQ_eq,fillQ_eq,numQ_eq,findQ_eq,keyOkQ_eq,leavesQ_eq,getQ_eq,wrQ_eq,bndQ_eq,loadQ_eq,storeQ_eq,sliceQ_eq,srcQ_eq,appendQ_eq];rfl)
 case cap x0=>show q_cap h base e x0=_;first|rfl|(unfold q_cap;simp only[evQ_eq,evsQ_eq,fillQ_eq,numQ_eq,findQ_eq,keyOkQ_eq,leavesQ_eq,getQ_eq,wrQ_eq,bndQ_eq,loadQ_eq,storeQ_eq,sliceQ_eq,srcQ_eq,appendQ_eq];rfl)
 case append x0 x1 x2 x3=>show q_append h base e x0 x1 x2 x3=_;first|rfl|(unfold q_append;simp only[evQ_eq,evsQ_eq,fillQ_eq,numQ_eq,findQ_eq,keyOkQ_eq,leavesQ_eq,getQ_eq,wrQ_eq,bndQ_eq,loadQ_eq,storeQ_eq,sliceQ_eq,srcQ_eq,appendQ_eq];rfl)
 case appendN x0 x1 x2 x3=>show q_appendN h base e x0 x1 x2 x3=_;first|rfl|(unfold q_appendN;simp only[evQ_eq,evsQ_eq,fillQ_eq,numQ_eq,findQ_eq,keyOkQ_eq,leavesQ_eq,getQ_eq,wrQ_eq,bndQ_eq,loadQ_eq,storeQ_eq,sliceQ_eq,srcQ_eq,appendQ_eq];rfl)
 case copy x0 x1 x2=>show q_copy h base e x0 x1 x2=_;first|rfl|(unfold q_copy;simp only[evQ_eq,evsQ_eq,fillQ_eq,numQ_eq,findQ_eq,keyOkQ_eq,leavesQ_eq,getQ_eq,wrQ_eq,bndQ_eq,loadQ_eq,storeQ_eq,sliceQ_eq,srcQ_eq,appendQ_eq];rfl)
 case clear x0 x1=>show q_clear h base e x0 x1=_;first|rfl|(unfold q_clear;simp only[evQ_eq,evsQ_eq,fillQ_eq,numQ_eq,findQ_eq,keyOkQ_eq,leavesQ_eq,getQ_eq,wrQ_eq,bndQ_eq,loadQ_eq,storeQ_eq,sliceQ_eq,srcQ_eq,appendQ_eq];rfl)
 case minmax x0 x1=>show q_minmax h base e x0 x1=_;first|rfl|(unfold q_minmax;simp only[evQ_eq,evsQ_eq,fillQ_eq,numQ_eq,findQ_eq,keyOkQ_eq,leavesQ_eq,getQ_eq,wrQ_eq,bndQ_eq,loadQ_eq,storeQ_eq,sliceQ_eq,srcQ_eq,appendQ_eq];rfl)
 case delete x0 x1 x2 x3=>show q_delete h base e x0 x1 x2 x3=_;first|rfl|(unfold q_delete;simp only[evQ_eq,evsQ_eq,fillQ_eq,numQ_eq,findQ_eq,keyOkQ_eq,leavesQ_eq,getQ_eq,wrQ_eq,bndQ_eq,loadQ_eq,storeQ_eq,sliceQ_eq,srcQ_eq,appendQ_eq];rfl)
 case dfer x0 x1=>show q_dfer h base e x0 x1=_;first|rfl|(unfold q_dfer;simp only[evQ_eq,evsQ_eq,fillQ_eq,numQ_eq,findQ_eq,keyOkQ_eq,leavesQ_eq,getQ_eq,wrQ_eq,bndQ_eq,loadQ_eq,storeQ_eq,sliceQ_eq,srcQ_eq,appendQ_eq];rfl)
 case recover=>show q_recover h base e=_;first|rfl|(unfold q_recover;simp only[evQ_eq,evsQ_eq,fillQ_eq,numQ_eq,findQ_eq,keyOkQ_eq,leavesQ_eq,getQ_eq,wrQ_eq,bndQ_eq,loadQ_eq,storeQ_eq,sliceQ_eq,srcQ_eq,appendQ_eq];rfl)
 case pnic x0=>show q_pnic h base e x0=_;first|rfl|(unfold q_pnic;simp only[evQ_eq,evsQ_eq,fillQ_eq,numQ_eq,findQ_eq,keyOkQ_eq,leavesQ_eq,getQ_eq,wrQ_eq,bndQ_eq,loadQ_eq,storeQ_eq,sliceQ_eq,srcQ_eq,appendQ_eq];rfl)
 case range x0=>show q_range h base e x0=_;first|rfl|(unfold q_range;simp only[evQ_eq,evsQ_eq,fillQ_eq,numQ_eq,findQ_eq,keyOkQ_eq,leavesQ_eq,getQ_eq,wrQ_eq,bndQ_eq,loadQ_eq,storeQ_eq,sliceQ_eq,srcQ_eq,appendQ_eq];rfl)
 case rangeM x0=>show q_rangeM h base e x0=_;first|rfl|(unfold q_rangeM;simp only[evQ_eq,evsQ_eq,fillQ_eq,numQ_eq,findQ_eq,keyOkQ_eq,leavesQ_eq,getQ_eq,wrQ_eq,bndQ_eq,loadQ_eq,storeQ_eq,sliceQ_eq,srcQ_eq,appendQ_eq];rfl)
 case entry x0=>show q_entry h base e x0=_;first|rfl|(unfold q_entry;simp only[evQ_eq,evsQ_eq,fillQ_eq,numQ_eq,findQ_eq,keyOkQ_eq,leavesQ_eq,getQ_eq,wrQ_eq,bndQ_eq,loadQ_eq,storeQ_eq,sliceQ_eq,srcQ_eq,appendQ_eq];rfl)
 case bin op x y=>show q_bin h base e op x y=_;cases op<;>(simp only[q_bin,aop,evQ_eq,evsQ_eq,fillQ_eq,numQ_eq,findQ_eq,keyOkQ_eq,leavesQ_eq,getQ_eq,wrQ_eq,bndQ_eq,loadQ_eq,storeQ_eq,sliceQ_eq,srcQ_eq,appendQ_eq];first|done|rfl)
 case slice k x lo hi mx=>show q_slice h base e k x lo hi mx=_;cases k<;>cases mx<;>(simp only[q_slice,aop,evQ_eq,evsQ_eq,fillQ_eq,numQ_eq,findQ_eq,keyOkQ_eq,leavesQ_eq,getQ_eq,wrQ_eq,bndQ_eq,loadQ_eq,storeQ_eq,sliceQ_eq,srcQ_eq,appendQ_eq];first|done|rfl)
 case len k x=>
  match k with
  |0=>show q_len h base e 0 x=_;simp only[q_len,aop,evQ_eq,evsQ_eq,fillQ_eq,numQ_eq,findQ_eq,keyOkQ_eq,leavesQ_eq,getQ_eq,wrQ_eq,bndQ_eq,loadQ_eq,storeQ_eq,sliceQ_eq,srcQ_eq,appendQ_eq];first|done|rfl
  |1=>show q_len h base e 1 x=_;simp only[q_len,aop,evQ_eq,evsQ_eq,fillQ_eq,numQ_eq,findQ_eq,keyOkQ_eq,leavesQ_eq,getQ_eq,wrQ_eq,bndQ_eq,loadQ_eq,storeQ_eq,sliceQ_eq,srcQ_eq,appendQ_eq];first|done|rfl
  |k+2=>show q_len h base e (k+2) x=_;simp only[q_len,aop,evQ_eq,evsQ_eq,fillQ_eq,numQ_eq,findQ_eq,keyOkQ_eq,leavesQ_eq,getQ_eq,wrQ_eq,bndQ_eq,loadQ_eq,storeQ_eq,sliceQ_eq,srcQ_eq,appendQ_eq];first|done|rfl
 case next x s=>show q_next h base e x s=_;cases s<;>(simp only[q_next,aop,evQ_eq,evsQ_eq,fillQ_eq,numQ_eq,findQ_eq,keyOkQ_eq,leavesQ_eq,getQ_eq,wrQ_eq,bndQ_eq,loadQ_eq,storeQ_eq,sliceQ_eq,srcQ_eq,appendQ_eq];first|done|rfl)
end Go.A
end
section
namespace Go.A
def o_mov(x0:Operand):List Operand:=opndsA (.mov x0)
def o_pick(x0:Operand)(x1:Operand)(x2:Operand):List Operand:=opndsA (.pick x0 x1 x2)
def o_new(x0:List Value):List Operand:=opndsA (.new x0)
def o_box(x0:Operand):List Operand:=opndsA (.box x0)
def o_build(x0:List Value)(x1:List (Nat×Nat×Operand)):List Operand:=opndsA (.build x0 x1)
def o_bslice(x0:List Value)(x1:Nat)(x2:List (Nat×Nat×Operand)):List Operand:=opndsA (.bslice x0 x1 x2)
def o_load(x0:Option Nat)(x1:Operand):List Operand:=opndsA (.load x0 x1)
def o_store(x0:Nat)(x1:Operand)(x2:Operand):List Operand:=opndsA (.store x0 x1 x2)
def o_nilchk(x0:Operand):List Operand:=opndsA (.nilchk x0)
def o_bin(x0:ABin)(x1:Operand)(x2:Operand):List Operand:=opndsA (.bin x0 x1 x2)
def o_un(x0:UnOp)(x1:Operand):List Operand:=opndsA (.un x0 x1)
def o_conv(x0:Cv)(x1:Operand):List Operand:=opndsA (.conv x0 x1)
def o_mkIface(x0:TypeId)(x1:Operand):List Operand:=opndsA (.mkIface x0 x1)
def o_mkFunc(x0:Fn)(x1:List Operand)(x2:List Operand):List Operand:=opndsA (.mkFunc x0 x1 x2)
def o_mkMap:List Operand:=opndsA (.mkMap)
def o_mkSlice(x0:List Value)(x1:Nat)(x2:Operand)(x3:Operand):List Operand:=opndsA (.mkSlice x0 x1 x2 x3)
def o_slice(x0:ASl)(x1:Operand)(x2:Option Operand)(x3:Option Operand)(x4:Option Operand):List Operand:=opndsA (.slice x0 x1 x2 x3 x4)
def o_faddr(x0:Nat)(x1:Operand):List Operand:=opndsA (.faddr x0 x1)
def o_field(x0:Nat)(x1:Option Nat)(x2:Operand):List Operand:=opndsA (.field x0 x1 x2)
def o_iaddrA(x0:Nat)(x1:Nat)(x2:Operand)(x3:Operand):List Operand:=opndsA (.iaddrA x0 x1 x2 x3)
def o_iaddrS(x0:Nat)(x1:Operand)(x2:Operand):List Operand:=opndsA (.iaddrS x0 x1 x2)
def o_idxA(x0:Nat)(x1:Nat)(x2:Option Nat)(x3:Operand)(x4:Operand):List Operand:=opndsA (.idxA x0 x1 x2 x3 x4)
def o_idxS(x0:Operand)(x1:Operand):List Operand:=opndsA (.idxS x0 x1)
def o_lookup(x0:Bool)(x1:List Leaf)(x2:Value)(x3:Bool)(x4:Operand)(x5:Operand):List Operand:=opndsA (.lookup x0 x1 x2 x3 x4 x5)
def o_mapUp(x0:Bool)(x1:List Leaf)(x2:Operand)(x3:Operand)(x4:Operand):List Operand:=opndsA (.mapUp x0 x1 x2 x3 x4)
def o_tassert(x0:TypeId)(x1:Bool)(x2:Value)(x3:Operand):List Operand:=opndsA (.tassert x0 x1 x2 x3)
def o_extract(x0:Operand)(x1:Nat):List Operand:=opndsA (.extract x0 x1)
def o_call(x0:Operand)(x1:List Operand):List Operand:=opndsA (.call x0 x1)
def o_len(x0:Nat)(x1:Operand):List Operand:=opndsA (.len x0 x1)
def o_lenArr(x0:Nat):List Operand:=opndsA (.lenArr x0)
def o_cap(x0:Operand):List Operand:=opndsA (.cap x0)
def o_append(x0:Nat)(x1:Nat)(x2:Operand)(x3:Operand):List Operand:=opndsA (.append x0 x1 x2 x3)
def o_appendN(x0:List Value)(x1:Nat)(x2:Operand)(x3:Operand):List Operand:=opndsA (.appendN x0 x1 x2 x3)
def o_copy(x0:Nat)(x1:Operand)(x2:Operand):List Operand:=opndsA (.copy x0 x1 x2)
def o_clear(x0:List Value)(x1:Operand):List Operand:=opndsA (.clear x0 x1)
def o_minmax(x0:Bool)(x1:List Operand):List Operand:=opndsA (.minmax x0 x1)
def o_delete(x0:Bool)(x1:List Leaf)(x2:Operand)(x3:Operand):List Operand:=opndsA (.delete x0 x1 x2 x3)
def o_dfer(x0:Operand)(x1:List Operand):List Operand:=opndsA (.dfer x0 x1)
def o_recover:List Operand:=opndsA (.recover)
def o_pnic(x0:Operand):List Operand:=opndsA (.pnic x0)
def o_range(x0:Operand):List Operand:=opndsA (.range x0)
def o_next(x0:Operand)(x1:Bool):List Operand:=opndsA (.next x0 x1)
def o_rangeM(x0:Operand):List Operand:=opndsA (.rangeM x0)
def o_entry(x0:Operand):List Operand:=opndsA (.entry x0)
noncomputable def opndsAQ(o:AOp):List Operand:=AOp.rec (motive:=fun _=>List Operand) o_mov o_pick o_new o_box o_build o_bslice o_load o_store o_nilchk o_bin o_un o_conv o_mkIface o_mkFunc o_mkMap o_mkSlice o_slice o_faddr o_field o_iaddrA o_iaddrS o_idxA o_idxS o_lookup o_mapUp o_tassert o_extract o_call o_len o_lenArr o_cap o_append o_appendN o_copy o_clear o_minmax o_delete o_dfer o_recover o_pnic o_range o_next o_rangeM o_entry o
theorem opndsAQ_eq:opndsAQ=opndsA:=by funext o;cases o<;>rfl
def t_mov(x0:Operand):Bool:=quietA (.mov x0)
def t_pick(x0:Operand)(x1:Operand)(x2:Operand):Bool:=quietA (.pick x0 x1 x2)
def t_new(x0:List Value):Bool:=quietA (.new x0)
def t_box(x0:Operand):Bool:=quietA (.box x0)
def t_build(x0:List Value)(x1:List (Nat×Nat×Operand)):Bool:=quietA (.build x0 x1)
def t_bslice(x0:List Value)(x1:Nat)(x2:List (Nat×Nat×Operand)):Bool:=quietA (.bslice x0 x1 x2)
def t_load(x0:Option Nat)(x1:Operand):Bool:=quietA (.load x0 x1)
def t_store(x0:Nat)(x1:Operand)(x2:Operand):Bool:=quietA (.store x0 x1 x2)
def t_nilchk(x0:Operand):Bool:=quietA (.nilchk x0)
def t_bin(x0:ABin)(x1:Operand)(x2:Operand):Bool:=quietA (.bin x0 x1 x2)
def t_un(x0:UnOp)(x1:Operand):Bool:=quietA (.un x0 x1)
def t_conv(x0:Cv)(x1:Operand):Bool:=quietA (.conv x0 x1)
def t_mkIface(x0:TypeId)(x1:Operand):Bool:=quietA (.mkIface x0 x1)
def t_mkFunc(x0:Fn)(x1:List Operand)(x2:List Operand):Bool:=quietA (.mkFunc x0 x1 x2)
def t_mkMap:Bool:=quietA (.mkMap)
def t_mkSlice(x0:List Value)(x1:Nat)(x2:Operand)(x3:Operand):Bool:=quietA (.mkSlice x0 x1 x2 x3)
def t_slice(x0:ASl)(x1:Operand)(x2:Option Operand)(x3:Option Operand)(x4:Option Operand):Bool:=quietA (.slice x0 x1 x2 x3 x4)
def t_faddr(x0:Nat)(x1:Operand):Bool:=quietA (.faddr x0 x1)
def t_field(x0:Nat)(x1:Option Nat)(x2:Operand):Bool:=quietA (.field x0 x1 x2)
def t_iaddrA(x0:Nat)(x1:Nat)(x2:Operand)(x3:Operand):Bool:=quietA (.iaddrA x0 x1 x2 x3)
def t_iaddrS(x0:Nat)(x1:Operand)(x2:Operand):Bool:=quietA (.iaddrS x0 x1 x2)
def t_idxA(x0:Nat)(x1:Nat)(x2:Option Nat)(x3:Operand)(x4:Operand):Bool:=quietA (.idxA x0 x1 x2 x3 x4)
def t_idxS(x0:Operand)(x1:Operand):Bool:=quietA (.idxS x0 x1)
def t_lookup(x0:Bool)(x1:List Leaf)(x2:Value)(x3:Bool)(x4:Operand)(x5:Operand):Bool:=quietA (.lookup x0 x1 x2 x3 x4 x5)
def t_mapUp(x0:Bool)(x1:List Leaf)(x2:Operand)(x3:Operand)(x4:Operand):Bool:=quietA (.mapUp x0 x1 x2 x3 x4)
def t_tassert(x0:TypeId)(x1:Bool)(x2:Value)(x3:Operand):Bool:=quietA (.tassert x0 x1 x2 x3)
def t_extract(x0:Operand)(x1:Nat):Bool:=quietA (.extract x0 x1)
def t_call(x0:Operand)(x1:List Operand):Bool:=quietA (.call x0 x1)
def t_len(x0:Nat)(x1:Operand):Bool:=quietA (.len x0 x1)
def t_lenArr(x0:Nat):Bool:=quietA (.lenArr x0)
def t_cap(x0:Operand):Bool:=quietA (.cap x0)
def t_append(x0:Nat)(x1:Nat)(x2:Operand)(x3:Operand):Bool:=quietA (.append x0 x1 x2 x3)
def t_appendN(x0:List Value)(x1:Nat)(x2:Operand)(x3:Operand):Bool:=quietA (.appendN x0 x1 x2 x3)
def t_copy(x0:Nat)(x1:Operand)(x2:Operand):Bool:=quietA (.copy x0 x1 x2)
def t_clear(x0:List Value)(x1:Operand):Bool:=quietA (.clear x0 x1)
def t_minmax(x0:Bool)(x1:List Operand):Bool:=quietA (.minmax x0 x1)
def t_delete(x0:Bool)(x1:List Leaf)(x2:Operand)(x3:Operand):Bool:=quietA (.delete x0 x1 x2 x3)
def t_dfer(x0:Operand)(x1:List Operand):Bool:=quietA (.dfer x0 x1)
def t_recover:Bool:=quietA (.recover)
def t_pnic(x0:Operand):Bool:=quietA (.pnic x0)
def t_range(x0:Operand):Bool:=quietA (.range x0)
def t_next(x0:Operand)(x1:Bool):Bool:=quietA (.next x0 x1)
def t_rangeM(x0:Operand):Bool:=quietA (.rangeM x0)
def t_entry(x0:Operand):Bool:=quietA (.entry x0)
noncomputable def quietAQ(o:AOp):Bool:=AOp.rec (motive:=fun _=>Bool) t_mov t_pick t_new t_box t_build t_bslice t_load t_store t_nilchk t_bin t_un t_conv t_mkIface t_mkFunc t_mkMap t_mkSlice t_slice t_faddr t_field t_iaddrA t_iaddrS t_idxA t_idxS t_lookup t_mapUp t_tassert t_extract t_call t_len t_lenArr t_cap t_append t_appendN t_copy t_clear t_minmax t_delete t_dfer t_recover t_pnic t_range t_next t_rangeM t_entry o
theorem quietAQ_eq:quietAQ=quietA:=by funext o;cases o<;>rfl
def w_mov(x0:Operand):Bool:=isNew (.mov x0)
def w_pick(x0:Operand)(x1:Operand)(x2:Operand):Bool:=isNew (.pick x0 x1 x2)
def w_new(x0:List Value):Bool:=isNew (.new x0)
def w_box(x0:Operand):Bool:=isNew (.box x0)
def w_build(x0:List Value)(x1:List (Nat×Nat×Operand)):Bool:=isNew (.build x0 x1)
def w_bslice(x0:List Value)(x1:Nat)(x2:List (Nat×Nat×Operand)):Bool:=isNew (.bslice x0 x1 x2)
def w_load(x0:Option Nat)(x1:Operand):Bool:=isNew (.load x0 x1)
def w_store(x0:Nat)(x1:Operand)(x2:Operand):Bool:=isNew (.store x0 x1 x2)
def w_nilchk(x0:Operand):Bool:=isNew (.nilchk x0)
def w_bin(x0:ABin)(x1:Operand)(x2:Operand):Bool:=isNew (.bin x0 x1 x2)
def w_un(x0:UnOp)(x1:Operand):Bool:=isNew (.un x0 x1)
def w_conv(x0:Cv)(x1:Operand):Bool:=isNew (.conv x0 x1)
def w_mkIface(x0:TypeId)(x1:Operand):Bool:=isNew (.mkIface x0 x1)
def w_mkFunc(x0:Fn)(x1:List Operand)(x2:List Operand):Bool:=isNew (.mkFunc x0 x1 x2)
def w_mkMap:Bool:=isNew (.mkMap)
def w_mkSlice(x0:List Value)(x1:Nat)(x2:Operand)(x3:Operand):Bool:=isNew (.mkSlice x0 x1 x2 x3)
def w_slice(x0:ASl)(x1:Operand)(x2:Option Operand)(x3:Option Operand)(x4:Option Operand):Bool:=isNew (.slice x0 x1 x2 x3 x4)
def w_faddr(x0:Nat)(x1:Operand):Bool:=isNew (.faddr x0 x1)
def w_field(x0:Nat)(x1:Option Nat)(x2:Operand):Bool:=isNew (.field x0 x1 x2)
def w_iaddrA(x0:Nat)(x1:Nat)(x2:Operand)(x3:Operand):Bool:=isNew (.iaddrA x0 x1 x2 x3)
def w_iaddrS(x0:Nat)(x1:Operand)(x2:Operand):Bool:=isNew (.iaddrS x0 x1 x2)
def w_idxA(x0:Nat)(x1:Nat)(x2:Option Nat)(x3:Operand)(x4:Operand):Bool:=isNew (.idxA x0 x1 x2 x3 x4)
def w_idxS(x0:Operand)(x1:Operand):Bool:=isNew (.idxS x0 x1)
def w_lookup(x0:Bool)(x1:List Leaf)(x2:Value)(x3:Bool)(x4:Operand)(x5:Operand):Bool:=isNew (.lookup x0 x1 x2 x3 x4 x5)
def w_mapUp(x0:Bool)(x1:List Leaf)(x2:Operand)(x3:Operand)(x4:Operand):Bool:=isNew (.mapUp x0 x1 x2 x3 x4)
def w_tassert(x0:TypeId)(x1:Bool)(x2:Value)(x3:Operand):Bool:=isNew (.tassert x0 x1 x2 x3)
def w_extract(x0:Operand)(x1:Nat):Bool:=isNew (.extract x0 x1)
def w_call(x0:Operand)(x1:List Operand):Bool:=isNew (.call x0 x1)
def w_len(x0:Nat)(x1:Operand):Bool:=isNew (.len x0 x1)
def w_lenArr(x0:Nat):Bool:=isNew (.lenArr x0)
def w_cap(x0:Operand):Bool:=isNew (.cap x0)
def w_append(x0:Nat)(x1:Nat)(x2:Operand)(x3:Operand):Bool:=isNew (.append x0 x1 x2 x3)
def w_appendN(x0:List Value)(x1:Nat)(x2:Operand)(x3:Operand):Bool:=isNew (.appendN x0 x1 x2 x3)
def w_copy(x0:Nat)(x1:Operand)(x2:Operand):Bool:=isNew (.copy x0 x1 x2)
def w_clear(x0:List Value)(x1:Operand):Bool:=isNew (.clear x0 x1)
def w_minmax(x0:Bool)(x1:List Operand):Bool:=isNew (.minmax x0 x1)
def w_delete(x0:Bool)(x1:List Leaf)(x2:Operand)(x3:Operand):Bool:=isNew (.delete x0 x1 x2 x3)
def w_dfer(x0:Operand)(x1:List Operand):Bool:=isNew (.dfer x0 x1)
def w_recover:Bool:=isNew (.recover)
def w_pnic(x0:Operand):Bool:=isNew (.pnic x0)
def w_range(x0:Operand):Bool:=isNew (.range x0)
def w_next(x0:Operand)(x1:Bool):Bool:=isNew (.next x0 x1)
def w_rangeM(x0:Operand):Bool:=isNew (.rangeM x0)
def w_entry(x0:Operand):Bool:=isNew (.entry x0)
noncomputable def isNewQ(o:AOp):Bool:=AOp.rec (motive:=fun _=>Bool) w_mov w_pick w_new w_box w_build w_bslice w_load w_store w_nilchk w_bin w_un w_conv w_mkIface w_mkFunc w_mkMap w_mkSlice w_slice w_faddr w_field w_iaddrA w_iaddrS w_idxA w_idxS w_lookup w_mapUp w_tassert w_extract w_call w_len w_lenArr w_cap w_append w_appendN w_copy w_clear w_minmax w_delete w_dfer w_recover w_pnic w_range w_next w_rangeM w_entry o
theorem isNewQ_eq:isNewQ=isNew:=by funext o;cases o<;>rfl
noncomputable def eagerAQ(o:AOp):Bool:=quietAQ o||isNewQ o
theorem eagerAQ_eq:eagerAQ=eagerA:=by funext o;simp only[eagerAQ,eagerA,quietAQ_eq,isNewQ_eq]
noncomputable def slotsAQ(o:AOper):List Nat:=
 match o.guard with
 |some (t,_)=>t::tmpsL (opndsAQ o.op)
 |none=>tmpsL (opndsAQ o.op)
theorem slotsAQ_eq:slotsAQ=slotsA:=by funext o;unfold slotsAQ slotsA;simp only[opndsAQ_eq];rfl
noncomputable def sameLQ:List Value→List Value→Bool
 |[],[]=>true
 |x::xs,y::ys=>bif same1Q x y then sameLQ xs ys else false
 |_,_=>false
noncomputable def sameVQ:Value→Value→Bool
 | .agg a, .agg b=>sameLQ a.toList b.toList
 | .tuple a, .tuple b=>sameLQ a.toList b.toList
 | .func (.func f) a' a, .func (.func g) b' b=>f==g&&(sameLQ a'.toList b'.toList&&sameLQ a.toList b.toList)
 |x,y=>same1Q x y
noncomputable def recQQ(h:Heap)(base:Nat)(r:Rec):Bool:=
 match r.k with
 | .quiet=>match aopQ h base r.e r.o.op with
   |some (.val v' h2)=>sameVQ r.v v'&&Nat.beq h2.next h.next
   |_=>false
 |_=>true
noncomputable def recsQQ(h:Heap)(base:Nat):List Rec→Bool
 |[]=>true
 |r::rs=>bif recQQ h base r then recsQQ h base rs else false
noncomputable def recsAfterQ(h:Heap)(base:Nat)(log:List Nat)(mask:Nat):List Rec→Option (List Rec)
 |[]=>some []
 |r::rs=>bif Nat.testBit mask r.i then recsAfterQ h base log mask rs else
  bif recQQ h base r&&recM log r then match recsAfterQ h base log mask rs with
   |some rs'=>some (r::rs')
   |none=>none
  else none
theorem sameLQ_eq:sameLQ=sameL:=by
 funext a
 induction a with
 |nil=>funext b;cases b<;>rfl
 |cons x a ih=>funext b;cases b<;>first|rfl|(simp only[sameLQ,sameL,same1Q_eq,ih])
theorem sameVQ_eq:sameVQ=sameV:=by
 funext a b
 unfold sameVQ sameV
 simp only[sameLQ_eq,same1Q_eq]
 first|done|rfl
theorem recQQ_eq:recQQ=recQ:=by
 funext h base r
 unfold recQQ recQ
 simp only[aopQ_eq,sameVQ_eq]
 first|done|rfl
theorem recsQQ_eq:recsQQ=recsQ:=by
 funext h base rs
 induction rs with
 |nil=>rfl
 |cons r rs ih=>simp only[recsQQ,recsQ,recQQ_eq,ih]
theorem recsAfterQ_eq:recsAfterQ=recsAfter:=by
 funext h base log mask rs
 induction rs with
 |nil=>rfl
 |cons r rs ih=>simp only[recsAfterQ,recsAfter,recQQ_eq,ih];first|done|rfl
noncomputable def qx_map(T:Nat→Option AFunc)(F:Fam)(base:Nat)(rnd:Option Nat)(ops:List AOper)(it:Nat)(x:Operand)(keep:List Nat)(out nxt pr:Nat)(ops2:List AOper)(k2:List Nat)(body:ACode)(e:Env)(ds:Dfs)(h:Heap):Option (AExit×Env×Dfs×Heap):=match F.ops base rnd ops e ds h with
 |some (.normal,e0,ds0,h0)=>match ds0 with
  |_::_=>none
  |[]=>match evQ h0 e0 x with
   |some (.map none)=>some (.normal,keepQ e0 keep,[],h0)
   |some (.map (some m))=>match getQ h0 m with
    |some (.map es)=>endM out (keepQ e0 keep) h0 (armapF (fun e h=>F.ops (h0.next+1) rnd ops2 e [] h) (fun e h=>F.exec (h0.next+1) rnd body e [] h) nxt pr k2 (itE it h0 (keepQ e0 keep)) (keepQ e0 keep) ((roM h0 m es).push .dead) es)
    |_=>none
   |_=>none
 |r=>r
noncomputable def qx_range(T:Nat→Option AFunc)(F:Fam)(base:Nat)(rnd:Option Nat)(f:Operand)(ps:List Nat)(asg body:ACode)(e:Env)(ds:Dfs)(h:Heap):Option (AExit×Env×Dfs×Heap):=bif roundA h rnd then match evQ h e f with
 |some (.func (.func g) first cap)=>bif notCode (T g)then none else
  match F.call g (lcat first.toList (lcat [.func (.yield h.next) #[] #[]] cap.toList)) {h.push (.loop e ps asg body 0 .normal)with log:=[]}with
  |some (.ret _,h2)=>match getQ h2 h.next with
   |some (.loop _ _ _ _ st pend)=>bif Nat.beq st 1 then none else
    some (pend,e,ds,Heap.wr {h2 with log:=mergeLog base h.log h2.log} base h.next .dead)
   |_=>none
  |some (.panic v,h2)=>some (.panic v,e,ds,{h2 with log:=mergeLog base h.log h2.log})
  |none=>none
 |_=>none
 else none
noncomputable def qx_yield(F:Fam)(l:Nat)(args:List Value)(h:Heap):Option (Res×Heap):=match getQ h l with
 |some (.loop e ps asg body 0 .normal)=>match setParams e ps args with
  |some e1=>match F.exec h.next (some l) asg e1 [] h with
   |some (.normal,e2,ds2,h2)=>bif notReady (getQ h2 l)then none else match F.exec h.next (some l) body e2 ds2 {h2 with objs:=soQ h2.objs l (.loop e ps asg body 1 .normal)}with
    |some (.normal,_,_,h3)=>match getQ h3 l with
     |some (.loop _ _ _ _ 1 _)=>some (.ret (.bool true),gcA h {h3 with objs:=soQ h3.objs l (.loop e ps asg body 0 .normal)} (.bool true))
     |_=>none
    |some (.exit i,_,_,h3)=>match getQ h3 l with
     |some (.loop _ _ _ _ 1 _)=>some (.ret (.bool false),h3.wr h.next l (.loop e ps asg body 2 (.exit i)))
     |_=>none
    |some (.ret,_,_,h3)=>match getQ h3 l with
     |some (.loop _ _ _ _ 1 _)=>some (.ret (.bool false),h3.wr h.next l (.loop e ps asg body 2 .ret))
     |_=>none
    |_=>none
   |_=>none
  |none=>none
 |_=>none
noncomputable def aexec2(T:Nat→Option AFunc)(F:Fam):Nat→Option Nat→ACode→Env→Dfs→Heap→Option (AExit×Env×Dfs×Heap):=fun base rnd c e ds h=>
 match c with
 | .skip=>some (.normal,e,ds,h)
 | .region ops keep=>match F.ops base rnd ops e ds h with
   |some (.normal,e',ds',h')=>some (.normal,keepQ e' keep,ds',h')
   |r=>r
 | .draw ops order before keep=>match F.draw base ops order before [] e h with
   |some (.normal,e',h')=>some (.normal,keepQ e' keep,ds,h')
   |some (x,e',h')=>some (x,e',ds,h')
   |none=>none
 | .seq a b=>match F.exec base rnd a e ds h with
   |some (.normal,e',ds',h')=>F.exec base rnd b e' ds' h'
   |r=>r
 | .cond c a b=>match evQ h e c with
   |some (.bool true)=>F.exec base rnd a e ds h
   |some (.bool false)=>F.exec base rnd b e ds h
   |_=>none
 | .block id b=>match F.exec base rnd b e ds h with
   |some (.exit i,e',ds',h')=>bif Nat.beq i id then some (.normal,e',ds',h')else some (.exit i,e',ds',h')
   |r=>r
 | .loop b=>match F.exec base rnd b e ds h with
   |some (.normal,e',ds',h')=>F.exec base rnd (.loop b) e' ds' h'
   |r=>r
 | .scope b=>F.exec base rnd b e ds h
 | .rangeFunc f ps asg body=>qx_range T F base rnd f ps asg body e ds h
 | .rangeMap ops it x keep out nxt pr ops2 k2 body=>qx_map T F base rnd ops it x keep out nxt pr ops2 k2 body e ds h
 | .exit id=>some (.exit id,e,ds,h)
 | .ret=>some (.ret,e,ds,h)
noncomputable def aops2(T:Nat→Option AFunc)(F:Fam):Nat→Option Nat→List AOper→Env→Dfs→Heap→Option (AExit×Env×Dfs×Heap):=fun base rnd ops e ds h=>
 match ops with
 |[]=>some (.normal,e,ds,h)
 |o::os=>match wantedQ e o.guard with
  |some false=>F.ops base rnd os (dstE e o.dst (.tuple #[])) ds h
  |some true=>match aopQ h base e o.op with
   |some (.val v h')=>F.ops base rnd os (dstE e o.dst v) ds h'
   |some (.call fn args h')=>match F.callF fn args {h' with log:=[]}with
    |some (.ret v,h2)=>F.ops base rnd os (dstE e o.dst v) ds {h2 with log:=mergeLog base h'.log h2.log}
    |some (.panic v,h2)=>some (.panic v,e,ds,{h2 with log:=mergeLog base h'.log h2.log})
    |none=>none
   |some (.dfer f args)=>match rnd with|some _=>none|none=>F.ops base rnd os (dstE e o.dst (.tuple #[])) ((f,args)::ds) h
   |some (.panic v h')=>some (.panic v,e,ds,h')
   |_=>none
  |none=>none
noncomputable def adraw2(T:Nat→Option AFunc)(F:Fam):Nat→List AOper→List Nat→List Nat→List Rec→Env→Heap→Option (AExit×Env×Heap):=fun base ops order before rs e h=>
 match order with
 |[]=>some (.normal,e,h)
 |i::is=>match lget ops i,lget before i with
  |some o,some mask=>
   match wantedQ (keepQ e (slotsAQ o)) o.guard with
   |some false=>F.draw base ops is before (⟨i,o,keepQ e (slotsAQ o), .tuple #[], .skip⟩::rs) (dstE e o.dst (.tuple #[])) h
   |some true=>
    bif eagerAQ o.op then
     match aopQ h base (keepQ e (slotsAQ o)) o.op with
     |some (.val v h')=>
      bif isNewQ o.op then
       bif recsQQ h' base rs then F.draw base ops is before (⟨i,o,keepQ e (slotsAQ o),v, .made h.next⟩::rs) (dstE e o.dst v) h' else none
      else bif Nat.beq h'.next h.next then F.draw base ops is before (⟨i,o,keepQ e (slotsAQ o),v, .quiet⟩::rs) (dstE e o.dst v) h
      else bif allIn before i is then
       match aopQ {h with log:=[]} h.next (keepQ e (slotsAQ o)) o.op with
       |some (.val v h2)=>match recsAfterQ {h2 with log:=mergeLog base h.log h2.log} base h2.log mask rs with
        |some rs'=>F.draw base ops is before rs' (dstE e o.dst v) {h2 with log:=mergeLog base h.log h2.log}
        |none=>none
       |_=>none
      else none
     |_=>none
    else
     match aopQ {h with log:=[]} h.next (keepQ e (slotsAQ o)) o.op with
     |some (.val v h2)=>match recsAfterQ {h2 with log:=mergeLog base h.log h2.log} base h2.log mask rs with
      |some rs'=>F.draw base ops is before rs' (dstE e o.dst v) {h2 with log:=mergeLog base h.log h2.log}
      |none=>none
     |some (.call fn args _)=>match F.callF fn args {h with log:=[]}with
      |some (.ret v,h2)=>match recsAfterQ {h2 with log:=mergeLog base h.log h2.log} base h2.log mask rs with
       |some rs'=>F.draw base ops is before rs' (dstE e o.dst v) {h2 with log:=mergeLog base h.log h2.log}
       |none=>none
      |some (.panic v,h2)=>some (.panic v,[],{h2 with log:=mergeLog base h.log h2.log})
      |none=>none
     |_=>none
   |none=>none
  |_,_=>none
noncomputable def acallF2(T:Nat→Option AFunc)(F:Fam):Fn→List Value→Heap→Option (Res×Heap):=fun fn args h=>
 match fn with
 | .func f=>F.call f args h
 | .yield l=>qx_yield F l args h
 |_=>none
noncomputable def acall2(T:Nat→Option AFunc)(F:Fam):Nat→List Value→Heap→Option (Res×Heap):=fun f args h=>
 match T f with
 |none=>none
 |some (.prim p)=>match p args h with
  |some (v,h')=>some (.ret v,h')
  |none=>none
 |some (.code code results)=>match F.exec h.next none code (paramsE 0 args) [] h with
  |some (.panic v,e,ds,h1)=>F.unw results ds (some v) e h h1
  |some (.exit _,_,_,_)=>none
  |some (_,e,ds,h1)=>F.unw results ds none e h h1
  |none=>none
noncomputable def aunw2(T:Nat→Option AFunc)(F:Fam):List (Nat×Option (Option Nat))→Dfs→Option Value→Env→Heap→Heap→Option (Res×Heap):=fun results ds pan e h h1=>
 match ds with
 |[]=>match pan with
  |some v=>some (.panic v,h1)
  |none=>match resQ h1 e results with
   |some vs=>some (.ret (oneV vs),gcA h h1 (oneV vs))
   |none=>none
 |(.func (.func g) first cap,args)::ds=>match F.defer g (lcat first.toList (lcat args cap.toList)) pan {h1 with log:=[]}with
  |some (pan',h2)=>F.unw results ds pan' e h {h2 with log:=mergeLog h.next h1.log h2.log}
  |none=>none
 |_=>none
noncomputable def adefer2(T:Nat→Option AFunc)(F:Fam):Nat→List Value→Option Value→Heap→Option (Option Value×Heap):=fun g args pan h=>
 match T g with
 |some (.code code [])=>match F.execS h.next code (paramsE 0 args) pan h with
  |some (.normal,_,pan',h')=>some (pan',h')
  |some (.ret,_,pan',h')=>some (pan',h')
  |_=>none
 |_=>none
noncomputable def aexecS2(T:Nat→Option AFunc)(F:Fam):Nat→ACode→Env→Option Value→Heap→Option (AExit×Env×Option Value×Heap):=fun base c e pan h=>
 match c with
 | .skip=>some (.normal,e,pan,h)
 | .region ops keep=>match F.opsS base ops e pan h with
   |some (.normal,e',pan',h')=>some (.normal,keepQ e' keep,pan',h')
   |r=>r
 | .seq a b=>match F.execS base a e pan h with
   |some (.normal,e',pan',h')=>F.execS base b e' pan' h'
   |r=>r
 | .cond c a b=>match evQ h e c with
   |some (.bool true)=>F.execS base a e pan h
   |some (.bool false)=>F.execS base b e pan h
   |_=>none
 | .ret=>some (.ret,e,pan,h)
 |_=>none
noncomputable def aopsS2(T:Nat→Option AFunc)(F:Fam):Nat→List AOper→Env→Option Value→Heap→Option (AExit×Env×Option Value×Heap):=fun base ops e pan h=>
 match ops with
 |[]=>some (.normal,e,pan,h)
 |o::os=>match wantedQ e o.guard with
  |some false=>F.opsS base os (dstE e o.dst (.tuple #[])) pan h
  |some true=>match aopQ h base e o.op with
   |some (.val v h')=>F.opsS base os (dstE e o.dst v) pan h'
   |some .recover=>match pan with
    |some v=>F.opsS base os (dstE e o.dst v) none h
    |none=>F.opsS base os (dstE e o.dst .nilIface) none h
   |_=>none
  |none=>none
noncomputable def Fam.succQ(T:Nat→Option AFunc)(F:Fam):Fam where
 exec:=aexec2 T F
 ops:=aops2 T F
 draw:=adraw2 T F
 callF:=acallF2 T F
 call:=acall2 T F
 unw:=aunw2 T F
 defer:=adefer2 T F
 execS:=aexecS2 T F
 opsS:=aopsS2 T F
noncomputable def famQ(T:Nat→Option AFunc)(n:Nat):Fam:=Nat.rec Fam.none (fun _ F=>Fam.succQ T F) n
theorem succQ_eq:Fam.succQ=Fam.succ:=by
 funext T F
 unfold Fam.succQ Fam.succ
 simp only[Fam.mk.injEq]
 refine⟨?_,?_,?_,?_,?_,?_,?_,?_,?_⟩
 ·funext x0 x1 x2 x3 x4 x5;unfold aexec2 qx_range qx_map;first|rfl|(simp only[evQ_eq,evsQ_eq,getQ_eq,wrQ_eq,soQ_eq,keepQ_eq,wantedQ_eq,resQ_eq,geQ_eq,aopQ_eq,recsQQ_eq,recsAfterQ_eq,loadQ_eq,slotsAQ_eq,eagerAQ_eq,isNewQ_eq];rfl)
 ·funext x0 x1 x2 x3 x4 x5;unfold aops2;first|rfl|(simp only[evQ_eq,evsQ_eq,getQ_eq,wrQ_eq,soQ_eq,keepQ_eq,wantedQ_eq,resQ_eq,geQ_eq,aopQ_eq,recsQQ_eq,recsAfterQ_eq,loadQ_eq,slotsAQ_eq,eagerAQ_eq,isNewQ_eq];rfl)
 ·funext x0 x1 x2 x3 x4 x5 x6;unfold adraw2;first|rfl|(simp only[evQ_eq,evsQ_eq,getQ_eq,wrQ_eq,soQ_eq,keepQ_eq,wantedQ_eq,resQ_eq,geQ_eq,aopQ_eq,recsQQ_eq,recsAfterQ_eq,loadQ_eq,slotsAQ_eq,eagerAQ_eq,isNewQ_eq];rfl)
 ·funext x0 x1 x2;unfold acallF2 qx_yield;first|rfl|(simp only[evQ_eq,evsQ_eq,getQ_eq,wrQ_eq,soQ_eq,keepQ_eq,wantedQ_eq,resQ_eq,geQ_eq,aopQ_eq,recsQQ_eq,recsAfterQ_eq,loadQ_eq,slotsAQ_eq,eagerAQ_eq,isNewQ_eq];rfl)
 ·funext x0 x1 x2;unfold acall2;first|rfl|(simp only[evQ_eq,evsQ_eq,getQ_eq,wrQ_eq,soQ_eq,keepQ_eq,wantedQ_eq,resQ_eq,geQ_eq,aopQ_eq,recsQQ_eq,recsAfterQ_eq,loadQ_eq,slotsAQ_eq,eagerAQ_eq,isNewQ_eq];rfl)
 ·funext x0 x1 x2 x3 x4 x5;unfold aunw2;first|rfl|(simp only[evQ_eq,evsQ_eq,getQ_eq,wrQ_eq,soQ_eq,keepQ_eq,wantedQ_eq,resQ_eq,geQ_eq,aopQ_eq,recsQQ_eq,recsAfterQ_eq,loadQ_eq,slotsAQ_eq,eagerAQ_eq,isNewQ_eq];rfl)
 ·funext x0 x1 x2 x3;unfold adefer2;first|rfl|(simp only[evQ_eq,evsQ_eq,getQ_eq,wrQ_eq,soQ_eq,keepQ_eq,wantedQ_eq,resQ_eq,geQ_eq,aopQ_eq,recsQQ_eq,recsAfterQ_eq,loadQ_eq,slotsAQ_eq,eagerAQ_eq,isNewQ_eq];rfl)
 ·funext x0 x1 x2 x3 x4;unfold aexecS2;first|rfl|(simp only[evQ_eq,evsQ_eq,getQ_eq,wrQ_eq,soQ_eq,keepQ_eq,wantedQ_eq,resQ_eq,geQ_eq,aopQ_eq,recsQQ_eq,recsAfterQ_eq,loadQ_eq,slotsAQ_eq,eagerAQ_eq,isNewQ_eq];rfl)
 ·funext x0 x1 x2 x3 x4;unfold aopsS2;first|rfl|(simp only[evQ_eq,evsQ_eq,getQ_eq,wrQ_eq,soQ_eq,keepQ_eq,wantedQ_eq,resQ_eq,geQ_eq,aopQ_eq,recsQQ_eq,recsAfterQ_eq,loadQ_eq,slotsAQ_eq,eagerAQ_eq,isNewQ_eq];rfl)
theorem famQ_eq(T:Nat→Option AFunc):∀n,famQ T n=fam T n
 |0=>rfl
 |n+1=>by
  show Fam.succQ T (famQ T n)=Fam.succ T (fam T n)
  rw[famQ_eq T n,succQ_eq]
end Go.A
end
