/- The machine: its heap, its operations, its runs, how it is made out of code; nothing of a law. -/
import Derived.CallsIn
import GoSem.Core.Region
import Derived.Lib.Join
set_option linter.all false
namespace Go.A
def UNK:Nat:=4611686018427387904
def bN{α:Type}:List α->Nat->Option α
 |[],_=>none
 |x::_,0=>some x
 |_::l,i+1=>bN l i
def th{α:Type}:List α->Nat->α->List α
 |[],_,_=>[]
 |_::l,0,y=>y::l
 |x::l,i+1,y=>x::th l i y
def bO{α:Type}:Nat->List α->List α
 |0,_=>[]
 |_+1,[]=>[]
 |n+1,x::l=>x::bO n l
def bK{α:Type}:Nat->List α->List α
 |0,l=>l
 |_+1,[]=>[]
 |n+1,_::l=>bK n l
def dy{α:Type}:List α->Nat->List α->List α
 |l,_,[]=>l
 |l,i,y::ys=>dy (th l i y) (i+1) ys
def aI{α:Type}:Nat->α->List α
 |0,_=>[]
 |n+1,x=>x::aI n x
def fP:List Nat->Nat->Bool
 |[],_=>false
 |x::l,n=>bif Nat.beq x n then true else fP l n
def ek{α:Type}:List α->List α->List α
 |[],m=>m
 |x::l,m=>x::ek l m
def eS{α:Type}:Nat->List α->List α
 |0,_=>[]
 |n+1,z=>ek z (eS n z)
abbrev Env:=List (Nat×Value)
def geT:Env->Nat->Option Value
 |[],_=>none
 |(k,v)::e,t=>bif Nat.beq k t then some v else geT e t
def bU(e:Env):List Nat->Env
 |[]=>[]
 |t::ts=>match geT e t with
  |some v=>(t,v)::bU e ts
  |none=>bU e ts
inductive eN
 |b|i (k:IntKind)|s
 deriving Repr,DecidableEq,Inhabited
inductive Cv
 |int (k:IntKind)|same|toBytes|toStr|YM
 deriving Repr,Inhabited
inductive NK
 |ptr|sl|map|func|iface
 deriving Repr,DecidableEq,Inhabited
inductive FM
 |num (op:BinOp)
 |beq (neq:Bool)
 |nil (k:NK) (neq:Bool)
 |agg (neq:Bool) (ls:List eN)
 deriving Inhabited
inductive ASl
 |str|sl (size:Nat)|arr (n size:Nat)
 deriving Inhabited
inductive AOp
 |mov (x:Operand)
 |pick (c a b:Operand)
 |new (zero:List Value)
 |box (v:Operand)
 |build (zero:List Value) (parts:List (Nat×Nat×Operand))
 |dz (zero:List Value) (len:Nat) (parts:List (Nat×Nat×Operand))
 |load (n:Option Nat) (a:Operand)
 |store (n:Nat) (a v:Operand)
 |cM (x:Operand)
 |bin (op:FM) (x y:Operand)
 |un (op:UnOp) (x:Operand)
 |conv (c:Cv) (x:Operand)
 |iT (t:TypeId) (x:Operand)
 |fh (fn:Fn) (first captured:List Operand)
 |mkMap
 |mkSlice (zero:List Value) (bytes:Nat) (len cap:Operand)
 |slice (k:ASl) (x:Operand) (lo hi mx:Option Operand)
 |dg (off:Nat) (x:Operand)
 |field (off:Nat) (n:Option Nat) (x:Operand)
 |cQ (len size:Nat) (x i:Operand)
 |aD (size:Nat) (x i:Operand)
 |uz (len size:Nat) (n:Option Nat) (x i:Operand)
 |jW (x i:Operand)
 |lookup (ag:Bool) (ls:List eN) (zero:Value) (commaOk:Bool) (m k:Operand)
 |oz (ag:Bool) (ls:List eN) (m k v:Operand)
 |kC (asserted:TypeId) (commaOk:Bool) (zero:Value) (x:Operand)
 |extract (t:Operand) (i:Nat)
 |call (f:Operand) (args:List Operand)
 |len (k:Nat) (x:Operand)
 |nN (n:Nat)
 |cap (x:Operand)
 |append (size bytes:Nat) (s x:Operand)
 |mY (zero:List Value) (bytes:Nat) (s n:Operand)
 |copy (size:Nat) (d s:Operand)
 |clear (z:List Value) (x:Operand)
 |eF (max:Bool) (args:List Operand)
 |delete (ag:Bool) (ls:List eN) (m k:Operand)
 |kF (f:Operand) (args:List Operand)
 |recover
 |uN (x:Operand)
 |range (x:Operand)
 |next (x:Operand) (str:Bool)
 |nP (x:Operand)
 |entry (x:Operand)
 deriving Inhabited
structure aZ where
 dst:Option Nat
 op:AOp
 guard:Option (Nat×Bool)
 deriving Inhabited
inductive aT
 |skip
 |region (ops:List aZ) (keep:List Nat)
 |draw (ops:List aZ) (order:List Nat) (before:List Nat) (keep:List Nat)
 |seq (a b:aT)
 |cond (c:Operand) (a b:aT)
 |block (id:Nat) (b:aT)
 |loop (b:aT)
 |scope (b:aT)
 |rangeFunc (f:Operand) (params:List Nat) (assign body:aT)
 |rangeMap (ops:List aZ) (it:Nat) (x:Operand) (keep:List Nat) (out nxt pr:Nat) (ops2:List aZ) (keep2:List Nat) (body:aT)
 |exit (id:Nat)
 |ret
 deriving Inhabited
inductive bE
 |normal|exit (id:Nat)|ret|panic (v:Value)
 deriving Inhabited
inductive bR
 |cells (vs:List Value) (own:Bool) (sz:Nat)
 |map (es:List (Value×Value))
 |sC (es:List (Value×Value))
 |loop (env:Env) (params:List Nat) (assign body:aT) (st:Nat) (jh:bE)
 |nw (s:ByteArray) (pos:Nat)
 |dead
 deriving Inhabited
structure Heap where
 cI:List (Nat×bR)
 next:Nat
 log:List Nat
 deriving Inhabited
inductive an
 |code (c:aT) (results:List (Nat×Option (Option Nat)))
 |mb (p:List Value->Heap->Option (Value×Heap))
 deriving Inhabited
def fK:List (Nat×bR)->Nat->Option bR
 |[],_=>none
 |(k,o)::l,b=>bif Nat.beq k b then some o else fK l b
def jt:List (Nat×bR)->Nat->bR->List (Nat×bR)
 |[],_,_=>[]
 |(k,o)::l,b,o'=>bif Nat.beq k b then(k,o')::l else(k,o)::jt l b o'
def Heap.get(h:Heap)(b:Nat):Option bR:=fK h.cI b
def uF:Option bR->Option (List (Value×Value))
 |some (.map es)=>some es
 |some (.sC es)=>some es
 |_=>none
def Heap.push(h:Heap)(o:bR):Heap:={h with cI:=(h.next,o)::h.cI,next:=h.next+1}
def Heap.wr(h:Heap)(base b:Nat)(o:bR):Heap:=
 {h with cI:=jt h.cI b o,log:=bif Nat.blt b base then(bif fP h.log b then h.log else b::h.log)else h.log}
def lR:Value->Bool
 | .bool _| .int _ _| .float _ _| .complex _ _ _| .string _| .nilFunc| .nilIface=>true
 | .pointer none| .slice none _ _| .map none| .chan none=>true
 | .func (.func _) f c=>Nat.beq f.toList.length 0&&Nat.beq c.toList.length 0
 |_=>false
def nQ:Value->Bool
 | .iface _ v=>lR v
 |v=>lR v
def dF:List Value->Bool
 |[]=>true
 |v::l=>bif nQ v then dF l else false
def flat:Value->Bool
 | .agg cs=>dF cs.toList
 | .iface _ (.agg cs)=>dF cs.toList
 |v=>nQ v
def iY:List Value->Bool
 |[]=>true
 |v::l=>bif flat v then iY l else false
def cO:Value->Bool
 | .tuple cs=>iY cs.toList
 |v=>flat v
def cellsOf:Value->List Value
 | .agg cs=>cs.toList
 |v=>[v]
def bM{α:Type}:List α->Nat
 |[]=>0
 |_::l=>bM l+1
def fZ(k:IntKind)(n:Int):Int:=
 match n with
 | .ofNat m=>bif Nat.blt m (match k with| .i8=>128| .i16=>32768| .i32=>2147483648| .i64=>9223372036854775808| .u8=>256| .u16=>65536| .u32=>4294967296| .u64=>18446744073709551616)then n else k.wrap n
 | .negSucc m=>bif Nat.blt m (match k with| .i8=>128| .i16=>32768| .i32=>2147483648| .i64=>9223372036854775808|_=>0)then n else k.wrap n
def iR:eN->Value->Value->Option Bool
 | .b, .bool a, .bool b=>some (a==b)
 | .i q, .int k a, .int k' b=>if k=q then if k'=q then some (a==b)else none else none
 | .s, .string a, .string b=>some (a.toList==b.toList)
 |_,_,_=>none
def bJ:List eN->List Value->List Value->Option Bool
 |[],[],[]=>some true
 |l::ls,x::xs,y::ys=>match iR l x y with
  |some true=>bJ ls xs ys
  |some false=>match bJ ls xs ys with
   |some _=>some false
   |none=>none
  |none=>none
 |_,_,_=>none
def sZ:Value->Bool
 | .agg _=>true
 |_=>false
def jS(ag:Bool)(ls:List eN)(k:Value):Bool:=
 match sZ k==ag,bJ ls (cellsOf k) (cellsOf k)with
 |true,some _=>true
 |_,_=>false
def pV(ag:Bool)(ls:List eN)(k k':Value):Option Bool:=
 match sZ k'==ag with
 |true=>bJ ls (cellsOf k) (cellsOf k')
 |false=>none
def iQ:NK->Value->Option Bool
 | .ptr, .pointer none=>some true
 | .ptr, .pointer (some _)=>some false
 | .sl, .slice none _ _=>some true
 | .sl, .slice (some _) _ _=>some false
 | .map, .map none=>some true
 | .map, .map (some _)=>some false
 | .func, .nilFunc=>some true
 | .func, .func _ _ _=>some false
 | .iface, .nilIface=>some true
 | .iface, .iface _ _=>some false
 |_,_=>none
def qT(k:NK)(x y:Value):Option Bool:=
 match iQ k x,iQ k y with
 |some true,some b=>some b
 |some false,some true=>some false
 |_,_=>none
def nI(op:BinOp)(x y:Int):Option Value:=
 match op with
 | .eql=>some (.bool (x==y))
 | .neq=>some (.bool (x !=y))
 | .lss=>some (.bool (decide (x<y)))
 | .leq=>some (.bool (decide (x<=y)))
 | .gtr=>some (.bool (decide (x>y)))
 | .geq=>some (.bool (decide (x≥y)))
 |_=>none
def oS(op:BinOp)(k:IntKind)(x y:Int):Option Value:=
 let slow:Option Value:=
  let a:=BitVec.ofInt k.bits x;let b:=BitVec.ofInt k.bits y
  match op with
  | .and=>some (.int k (k.wrap (a&&&b).toNat))
  | .or=>some (.int k (k.wrap (a|||b).toNat))
  | .xor=>some (.int k (k.wrap (a ^^^ b).toNat))
  | .andNot=>some (.int k (k.wrap (a&&& ~~~b).toNat))
  |_=>none
 match k,x,y with
 | .u64, .ofNat a, .ofNat b=>bif Nat.blt a 18446744073709551616&&Nat.blt b 18446744073709551616 then
  match op with
  | .and=>some (.int .u64 (.ofNat (Nat.land a b)))
  | .or=>some (.int .u64 (.ofNat (Nat.lor a b)))
  | .xor=>some (.int .u64 (.ofNat (Nat.xor a b)))
  | .andNot=>some (.int .u64 (.ofNat (Nat.xor a (Nat.land a b))))
  |_=>none
   else slow
 |_,_,_=>slow
def arith(op:BinOp)(k:IntKind)(x y:Int):Option Value:=
 match op with
 | .add=>some (.int k (fZ k (x+y)))
 | .sub=>some (.int k (fZ k (x-y)))
 | .mul=>some (.int k (fZ k (x*y)))
 | .quo=>if y=0 then none else some (.int k (fZ k (x.tdiv y)))
 | .rem=>if y=0 then none else some (.int k (x.tmod y))
 | .and| .or| .xor| .andNot=>oS op k x y
 |_=>nI op x y
def pM(op:BinOp)(k:IntKind)(x y:Int):Option Value:=
 match y with
 | .negSucc _=>none
 | .ofNat n=>match op with
   | .shl=>match k,x with
     | .u64, .ofNat a=>some (.int .u64 (.ofNat (Nat.mod (Nat.shiftLeft a (Nat.min n 64)) 18446744073709551616)))
     |_,_=>some (.int k (k.wrap (x*2 ^ (min n k.bits))))
   | .shr=>match k,x with
     | .u64, .ofNat a=>some (.int .u64 (.ofNat (Nat.shiftRight a (Nat.min n 64))))
     |_,_=>some (.int k (x.fdiv (2 ^ (min n k.bits))))
   |_=>none
def FC(op:BinOp)(x y:ByteArray):Option Value:=
 match op with
 | .add=>bif Nat.blt (x.size+y.size) 9223372036854775808 then some (.string (x++y))else none
 | .eql=>some (.bool (x.toList==y.toList))
 | .neq=>some (.bool !(x.toList==y.toList))
 | .lss=>some (.bool (Op.bytesLess x.toList y.toList))
 | .leq=>some (.bool (Op.bytesLess x.toList y.toList||x.toList==y.toList))
 | .gtr=>some (.bool !(Op.bytesLess x.toList y.toList||x.toList==y.toList))
 | .geq=>some (.bool !(Op.bytesLess x.toList y.toList))
 |_=>none
def af(op:BinOp)(x y:Value):Option Value:=
 match op,x,y with
 | .shl, .int k a, .int _ b=>pM .shl k a b
 | .shr, .int k a, .int _ b=>pM .shr k a b
 |op, .int k a, .int k' b=>if k=k' then arith op k a b else none
 |op, .string a, .string b=>FC op a b
 |_,_,_=>none
def uW(op:UnOp)(x:Value):Option Value:=
 match op,x with
 | .neg, .int k n=>some (.int k (fZ k (0-n)))
 | .xor, .int .u64 (.ofNat n)=>bif Nat.blt n 18446744073709551616 then some (.int .u64 (.ofNat (18446744073709551615-n)))else none
 | .not, .bool b=>some (.bool !b)
 |_,_=>none
def ev(h:Heap)(e:Env):Operand->Option Value
 | .tmp t=>geT e t
 | .const v=>some v
 | .global g=>match h.get g with
   |some _=>some (.pointer (some ⟨g,0,none⟩))
   |none=>none
 | .func f=>some (.func (.func f) #[] #[])
def evs(h:Heap)(e:Env):List Operand->Option (List Value)
 |[]=>some []
 |x::xs=>match ev h e x with
  |some v=>match evs h e xs with
   |some vs=>some (v::vs)
   |none=>none
  |none=>none
def j6(h:Heap)(e:Env)(z:List Value):List (Nat×Nat×Operand)->Option (List Value)
 |[]=>some z
 |(off,size,x)::ps=>match ev h e x with
  |some v=>bif Nat.beq (bM (cellsOf v)) size&&Nat.ble (off+size) (bM z)then j6 h e (dy z off (cellsOf v)) ps else none
  |none=>none
inductive cZ
 |val (v:Value) (h:Heap)
 |call (fn:Fn) (args:List Value) (h:Heap)
 |kF (f:Value) (args:List Value)
 |panic (v:Value) (h:Heap)
 |recover
 deriving Inhabited
def eG:List Value->Bool
 |[]=>true
 | .agg _::_=>false
 | .tuple _::_=>false
 |_::l=>eG l
def qB(h:Heap)(n:Option Nat):Value->Option Value
 | .pointer (some ⟨b,o,none⟩)=>match h.get b with
   |some (.cells vs _ _)=>match n with
    |none=>bN vs o
    |some n=>let l:=bO n (bK o vs);bif Nat.beq (bM l) n then some (.agg l.toArray)else none
   |_=>none
 |_=>none
def tM(h:Heap)(base n:Nat)(v:Value):Value->Option Heap
 | .pointer (some ⟨b,o,none⟩)=>match h.get b with
   |some (.cells vs true sz)=>bif Nat.beq (bM (cellsOf v)) n&&Nat.ble (o+n) (bM vs)&&eG (cellsOf v)then some (h.wr base b (.cells (dy vs o (cellsOf v)) true sz))else none
   |_=>none
 |_=>none
def pY:Value->Option Nat
 | .int _ (.ofNat n)=>some n
 |_=>none
def bnd(h:Heap)(e:Env)(dflt:Nat):Option Operand->Option Nat
 |none=>some dflt
 |some x=>match ev h e x with
  |some v=>pY v
  |none=>none
def ia(h:Heap)(e:Env)(size:Nat)(a:Option Addr)(len cap:Nat)(lo hi mx:Option Operand):Option (Value×Heap):=
 match bnd h e 0 lo,bnd h e len hi with
 |some l,some u=>
  match mx with
  |some _=>match bnd h e 0 mx with
   |some m=>bif Nat.ble l u&&Nat.ble u m&&Nat.ble m (bif Nat.beq cap UNK then len else cap)&&Nat.blt m UNK then
    some (.slice (bif Nat.beq m l then a else match a with|some ⟨b,o,none⟩=>some ⟨b,o+l*size,none⟩|a=>a) (u-l) (m-l),h)
    else none
   |none=>none
  |none=>
   bif Nat.beq cap UNK then
    match a with
    |some ⟨b,o,none⟩=>match h.get b with
     |some (.cells vs _ sz)=>
      bif Nat.beq sz size&&Nat.ble l u&&(Nat.ble u len||Nat.ble (o+u*size) (bM vs))then
       bif Nat.blt l len||Nat.blt l u then some (.slice (some ⟨b,o+l*size,none⟩) (u-l) UNK,h)
       else bif Nat.beq l 0 then some (.slice (some ⟨b,o,none⟩) 0 UNK,h)
       else some (.slice (some ⟨h.next,0,none⟩) 0 UNK,h.push (.cells [] false size))
      else none
     |_=>none
    |_=>none
   else bif Nat.ble l u&&Nat.ble u cap then
    some (.slice (bif Nat.beq cap l then a else match a with|some ⟨b,o,none⟩=>some ⟨b,o+l*size,none⟩|a=>a) (u-l) (cap-l),h)
    else none
 |_,_=>none
def cN(h:Heap)(size:Nat):Value->Option (List Value×Nat)
 | .slice none n _=>bif Nat.beq n 0 then some ([],0)else none
 | .slice (some ⟨b,o,none⟩) n _=>match h.get b with
   |some (.cells vs _ _)=>let l:=bO (n*size) (bK o vs);bif Nat.beq (bM l) (n*size)then some (l,n)else none
   |_=>none
 | .slice (some ⟨_,_,some _⟩) n _=>bif Nat.beq n 0 then some ([],0)else none
 | .string s=>bif Nat.beq size 1 then some (s.data.toList.map λb=> .int .u8 b.toNat,s.size)else none
 |_=>none
def jH(h:Heap)(base size bytes:Nat)(s:Value)(new:List Value)(n:Nat):Option (Value×Heap):=
 match s with
 | .slice a len cap=>
   bif Nat.beq n 0 then(bif Nat.ble len cap then some (s,h)else none)else
   bif Nat.ble ((2*(len+n)+768)*bytes) 281474976710656 then
    match a with
    |none=>bif Nat.beq len 0&&Nat.beq cap 0 then some (.slice (some ⟨h.next,0,none⟩) n UNK,h.push (.cells new true size))else none
    |some ⟨b,o,none⟩=>match h.get b with
     |some (.cells vs own sz)=>
      bif Nat.beq cap UNK then
       bif own&&Nat.beq sz size then
        bif Nat.ble (o+(len+n)*size) (bM vs)&&eG new then
         some (.slice (some ⟨b,o,none⟩) (len+n) UNK,h.wr base b (.cells (dy vs (o+len*size) new) true sz))
        else bif Nat.beq o 0&&Nat.beq (len*size) (bM vs)&&eG new then
         some (.slice (some ⟨h.next,0,none⟩) (len+n) UNK,(h.wr base b .dead).push (.cells (ek vs new) true size))
        else none
       else none
      else bif Nat.ble (len+n) cap then
       bif own&&Nat.ble (o+(len+n)*size) (bM vs)&&eG new then
        some (.slice (some ⟨b,o,none⟩) (len+n) cap,h.wr base b (.cells (dy vs (o+len*size) new) true sz))
       else none
      else bif Nat.ble (o+len*size) (bM vs)then
       some (.slice (some ⟨h.next,0,none⟩) (len+n) UNK,h.push (.cells (ek (bO (len*size) (bK o vs)) new) true size))
      else none
     |_=>none
    |_=>none
   else none
 |_=>none
def mK(ag:Bool)(ls:List eN)(k:Value):Nat->List (Value×Value)->Option (Option (Nat×Value))
 |_,[]=>some none
 |i,(k',v)::es=>match pV ag ls k k' with
  |some true=>some (some (i,v))
  |some false=>mK ag ls k (i+1) es
  |none=>none
def Ul{α:Type}:List α->Nat->List α
 |[],_=>[]
 |_::l,0=>l
 |x::l,i+1=>x::Ul l i
def mmA(mx:Bool)(x:Value):List Value->Option Value
 |[]=>some x
 |y::l=>match x,y with
  | .int k a, .int k' b=>if k=k' then mmA mx (.int k (if mx then(if b>a then b else a)else(if b<a then b else a))) l else none
  |_,_=>none
def bytesOf:List Value->Option (List UInt8)
 |[]=>some []
 | .int .u8 (.ofNat n)::l=>match bytesOf l with
   |some bs=>some (UInt8.ofNat n::bs)
   |none=>none
 |_=>none
def xR(h:Heap)(c:Cv)(x:Value):Option (Value×Heap):=
 match c,x with
 | .int k, .int _ n=>some (.int k (fZ k n),h)
 | .same, .string s=>some (.string s,h)
 | .toStr, .slice a n c=>match cN h 1 (.slice a n c)with
   |some (l,_)=>match bytesOf l with
    |some bs=>some (.string ⟨bs.toArray⟩,h)
    |none=>none
   |none=>none
 | .toBytes, .string s=>some (.slice (some ⟨h.next,0,none⟩) s.size UNK,h.push (.cells (s.data.toList.map λb=> .int .u8 b.toNat) true 1))
 |_,_=>none
def cT{α:Type}(x:Option Value)(k:Value->Option α):Option α:=
 match x with
 |some v=>k v
 |none=>none
def fS(x:Option (Value×Heap)):Option cZ:=
 match x with
 |some (v,h)=>some (.val v h)
 |none=>none
def qp(f:Value)(args:List Value)(h:Heap):Option cZ:=
 match f with
 | .func (.func g) first cap=>some (.call (.func g) (ek first.toList (ek args cap.toList)) h)
 | .func (.yield l) first cap=>match cap.toList with
   |[]=>some (.call (.yield l) (ek first.toList args) h)
   |_::_=>none
 |_=>none
def aop(h:Heap)(base:Nat)(e:Env):AOp->Option cZ
 | .mov x=>cT (ev h e x) λv=>some (.val v h)
 | .pick c a b=>match ev h e c with
   |some (.bool true)=>cT (ev h e a) λv=>some (.val v h)
   |some (.bool false)=>cT (ev h e b) λv=>some (.val v h)
   |_=>none
 | .new z=>some (.val (.pointer (some ⟨h.next,0,none⟩)) (h.push (.cells z true 1)))
 | .box x=>cT (ev h e x) λv=>some (.val (.pointer (some ⟨h.next,0,none⟩)) (h.push (.cells (cellsOf v) true 1)))
 | .build z ps=>match j6 h e z ps with
   |some cs=>some (.val (.agg cs.toArray) h)
   |none=>none
 | .dz z n ps=>match j6 h e (eS n z) ps with
   |some cs=>some (.val (.slice (some ⟨h.next,0,none⟩) n n) (h.push (.cells cs true (bM z))))
   |none=>none
 | .load n a=>cT (ev h e a) λa=>cT (qB h n a) λv=>some (.val v h)
 | .store n a v=>cT (ev h e a) fun a=>cT (ev h e v) fun v=>match tM h base n v a with
   |some h'=>some (.val (.tuple #[]) h')
   |none=>none
 | .cM x=>cT (ev h e x) fun v=>match v with
   | .pointer none| .nilIface| .nilFunc=>none
   | .func (.method _) _ _=>none
   |v=>some (.val v h)
 | .bin (.num op) x y=>cT (ev h e x) λx=>cT (ev h e y) λy=>cT (af op x y) λv=>some (.val v h)
 | .bin (.beq neq) x y=>match ev h e x,ev h e y with
   |some (.bool a),some (.bool b)=>some (.val (.bool (bif neq then !(a==b)else a==b)) h)
   |_,_=>none
 | .bin (.nil k neq) x y=>cT (ev h e x) fun x=>cT (ev h e y) fun y=>match qT k x y with
   |some b=>some (.val (.bool (bif neq then !b else b)) h)
   |none=>none
 | .bin (.agg neq ls) x y=>cT (ev h e x) fun x=>cT (ev h e y) fun y=>match x,y with
   | .agg xs, .agg ys=>match bJ ls xs.toList ys.toList with
     |some b=>some (.val (.bool (bif neq then !b else b)) h)
     |none=>none
   |_,_=>none
 | .un op x=>cT (ev h e x) λx=>cT (uW op x) λv=>some (.val v h)
 | .conv c x=>cT (ev h e x) λx=>fS (xR h c x)
 | .iT t x=>cT (ev h e x) λv=>some (.val (.iface t v) h)
 | .fh fn fs cs=>match evs h e fs,evs h e cs with
   |some fs,some cs=>some (.val (.func fn fs.toArray cs.toArray) h)
   |_,_=>none
 | .mkMap=>some (.val (.map (some h.next)) (h.push (.map [])))
 | .mkSlice z bytes l c=>match ev h e l,ev h e c with
   |some l,some c=>match pY l,pY c with
    |some l,some c=>bif Nat.ble l c&&Nat.ble (bytes*c) 281474976710656&&Nat.blt c UNK then
     some (.val (.slice (some ⟨h.next,0,none⟩) l c) (h.push (.cells (eS c z) true (bM z))))
     else none
    |_,_=>none
   |_,_=>none
 | .slice .str x lo hi none=>match ev h e x with
   |some (.string s)=>match bnd h e 0 lo,bnd h e s.size hi with
    |some l,some u=>bif Nat.ble l u&&Nat.ble u s.size then some (.val (.string (s.extract l u)) h)else none
    |_,_=>none
   |_=>none
 | .slice (.sl size) x lo hi mx=>match ev h e x with
   |some (.slice a len cap)=>fS (ia h e size a len cap lo hi mx)
   |_=>none
 | .slice (.arr n size) x lo hi mx=>match ev h e x with
   |some (.pointer (some a))=>fS (ia h e size (some a) n n lo hi mx)
   |_=>none
 | .slice .str _ _ _ (some _)=>none
 | .dg off x=>match ev h e x with
   |some (.pointer (some ⟨b,o,none⟩))=>some (.val (.pointer (some ⟨b,o+off,none⟩)) h)
   |_=>none
 | .field off n x=>match ev h e x with
   |some (.agg cs)=>match n with
    |none=>cT (bN cs.toList off) λv=>some (.val v h)
    |some n=>let l:=bO n (bK off cs.toList);bif Nat.beq (bM l) n then some (.val (.agg l.toArray) h)else none
   |_=>none
 | .cQ len size x i=>match ev h e x,ev h e i with
   |some (.pointer (some ⟨b,o,none⟩)),some (.int _ (.ofNat i))=>bif Nat.blt i len then some (.val (.pointer (some ⟨b,o+i*size,none⟩)) h)else none
   |_,_=>none
 | .aD size x i=>match ev h e x,ev h e i with
   |some (.slice (some ⟨b,o,none⟩) len _),some (.int _ (.ofNat i))=>bif Nat.blt i len then some (.val (.pointer (some ⟨b,o+i*size,none⟩)) h)else none
   |_,_=>none
 | .uz len size n x i=>match ev h e x,ev h e i with
   |some (.agg cs),some (.int _ (.ofNat i))=>bif Nat.blt i len then
    match n with
    |none=>cT (bN cs.toList (i*size)) λv=>some (.val v h)
    |some n=>let l:=bO n (bK (i*size) cs.toList);bif Nat.beq (bM l) n then some (.val (.agg l.toArray) h)else none
    else none
   |_,_=>none
 | .jW x i=>match ev h e x,ev h e i with
   |some (.string s),some (.int _ (.ofNat i))=>match bN s.data.toList i with
    |some b=>some (.val (.int .u8 b.toNat) h)
    |none=>none
   |_,_=>none
 | .lookup ag ls z ok m k=>match ev h e m,ev h e k with
   |some (.map none),some k=>bif jS ag ls k then some (.val (bif ok then .tuple #[z, .bool false]else z) h)else none
   |some (.map (some r)),some k=>match uF (h.get r)with
    |some es=>bif jS ag ls k then match mK ag ls k 0 es with
     |some (some (_,v))=>some (.val (bif ok then .tuple #[v, .bool true]else v) h)
     |some none=>some (.val (bif ok then .tuple #[z, .bool false]else z) h)
     |none=>none else none
    |none=>none
   |_,_=>none
 | .oz ag ls m k v=>match ev h e m,ev h e k,ev h e v with
   |some (.map (some r)),some k,some v=>match h.get r with
    |some (.map es)=>bif jS ag ls k then match mK ag ls k 0 es with
     |some (some (i,_))=>some (.val (.tuple #[]) (h.wr base r (.map (th es i (k,v)))))
     |some none=>some (.val (.tuple #[]) (h.wr base r (.map (ek es [(k,v)]))))
     |none=>none else none
    |_=>none
   |_,_,_=>none
 | .kC t ok z x=>match ev h e x with
   |some .nilIface=>bif ok then some (.val (.tuple #[z, .bool false]) h)else none
   |some (.iface t' v)=>if t'=t then some (.val (bif ok then .tuple #[v, .bool true]else v) h)
    else bif ok then some (.val (.tuple #[z, .bool false]) h)else none
   |_=>none
 | .extract t i=>match ev h e t with
   |some (.tuple vs)=>cT (bN vs.toList i) λv=>some (.val v h)
   |_=>none
 | .call f args=>match ev h e f,evs h e args with
   |some f,some args=>qp f args h
   |_,_=>none
 | .len 0 x=>match ev h e x with
   |some (.string s)=>some (.val (.int .i64 s.size) h)
   |_=>none
 | .len 1 x=>match ev h e x with
   |some (.slice _ n _)=>some (.val (.int .i64 n) h)
   |_=>none
 | .len _ x=>match ev h e x with
   |some (.map none)=>some (.val (.int .i64 0) h)
   |some (.map (some r))=>match uF (h.get r)with
    |some es=>some (.val (.int .i64 (bM es)) h)
    |none=>none
   |_=>none
 | .nN n=>some (.val (.int .i64 n) h)
 | .cap x=>match ev h e x with
   |some (.slice _ _ c)=>bif Nat.beq c UNK then none else some (.val (.int .i64 c) h)
   |_=>none
 | .append size bytes s x=>match ev h e s,ev h e x with
   |some s,some x=>match cN h size x with
    |some (l,n)=>fS (jH h base size bytes s l n)
    |none=>none
   |_,_=>none
 | .mY z bytes s n=>match ev h e s,ev h e n with
   |some s,some n=>match pY n with
    |some n=>bif Nat.blt n 9223372036854775808&&Nat.ble (n*bytes) 281474976710656 then fS (jH h base (bM z) bytes s (eS n z) n)else none
    |none=>none
   |_,_=>none
 | .copy size d s=>match ev h e d,ev h e s with
   |some (.slice a dl _),some s=>match cN h size s with
    |some (l,n)=>
     let m:=Nat.min n dl
     match a with
     |none=>some (.val (.int .i64 m) h)
     |some ⟨b,o,none⟩=>match h.get b with
      |some (.cells vs true sz)=>bif Nat.ble (o+m*size) (bM vs)&&eG (bO (m*size) l)then
       some (.val (.int .i64 m) (h.wr base b (.cells (dy vs o (bO (m*size) l)) true sz)))
       else none
      |_=>none
     |_=>none
    |none=>none
   |_,_=>none
 | .clear z x=>match ev h e x with
   |some (.slice a n _)=>
    bif Nat.beq n 0 then some (.val (.tuple #[]) h)else
    match a with
    |none=>some (.val (.tuple #[]) h)
    |some ⟨b,o,none⟩=>match h.get b with
     |some (.cells vs true sz)=>bif Nat.ble (o+bM (eS n z)) (bM vs)&&eG (eS n z)then some (.val (.tuple #[]) (h.wr base b (.cells (dy vs o (eS n z)) true sz)))else none
     |_=>none
    |_=>none
   |_=>none
 | .eF mx args=>match evs h e args with
   |some (x::l)=>cT (mmA mx x l) λv=>some (.val v h)
   |_=>none
 | .delete ag ls m k=>match ev h e m,ev h e k with
   |some (.map (some r)),some k=>match h.get r with
    |some (.map es)=>bif jS ag ls k then match mK ag ls k 0 es with
     |some (some (i,_))=>some (.val (.tuple #[]) (h.wr base r (.map (Ul es i))))
     |some none=>some (.val (.tuple #[]) (h.wr base r (.map es)))
     |none=>none else none
    |_=>none
   |some (.map none),some k=>bif jS ag ls k then some (.val (.tuple #[]) h)else none
   |_,_=>none
 | .kF f args=>match ev h e f,evs h e args with
   |some (.func (.func g) first cap),some args=>some (.kF (.func (.func g) first cap) args)
   |_,_=>none
 | .recover=>some .recover
 | .uN x=>cT (ev h e x) fun v=>match v with
   | .iface _ _=>some (.panic v h)
   |_=>none
 | .range x=>match ev h e x with
   |some (.string s)=>some (.val (.pointer (some ⟨h.next,0,none⟩)) (h.push (.nw s 0)))
   |_=>none
 | .next x true=>match ev h e x with
   |some (.pointer (some ⟨r,0,none⟩))=>match h.get r with
    |some (.nw s pos)=>bif Nat.blt pos s.size then
     let d:=Utf8.decode s pos
     some (.val (.tuple #[.bool true, .int .i64 pos, .int .i32 d.1]) (h.wr base r (.nw s (pos+d.2))))
     else some (.val (.tuple #[.bool false]) h)
    |_=>none
   |_=>none
 | .next _ false=>none
 | .nP _=>none
 | .entry _=>none
inductive Res
 |ret (v:Value)
 |panic (v:Value)
 deriving Inhabited
def ej:Nat->List Value->Env
 |_,[]=>[]
 |i,v::vs=>(i,v)::ej (i+1) vs
def bZ(h:Heap)(e:Env):List (Nat×Option (Option Nat))->Option (List Value)
 |[]=>some []
 |(t,none)::rs=>match geT e t with
  |some v=>match bZ h e rs with
   |some vs=>some (v::vs)
   |none=>none
  |none=>none
 |(t,some n)::rs=>match geT e t with
  |some a=>match qB h n a with
   |some v=>match bZ h e rs with
    |some vs=>some (v::vs)
    |none=>none
   |none=>none
  |none=>none
def eT:List Value->Value
 |[v]=>v
 |vs=> .tuple vs.toArray
def aH(base:Nat)(l:List Nat):List Nat->List Nat
 |[]=>l
 |b::bs=>aH base (bif Nat.blt b base then(bif fP l b then l else b::l)else l) bs
def gj(h:Heap)(base:Nat):List Nat->Bool
 |[]=>true
 |b::bs=>bif Nat.blt b base then
   match h.get b with
   |some (.cells vs _ _)=>bif dF vs then gj h base bs else false
   |some (.map es)=>bif iY (es.map (·.1))&&iY (es.map (·.2))then gj h base bs else false
   |some .dead=>gj h base bs
   |some (.nw _ _)=>gj h base bs
   |_=>false
  else gj h base bs
def pT{α:Type}:Nat->List α->List α:=bK
def gcA(h0 h:Heap)(v:Value):Heap:=
 bif cO v&&gj h h0.next h.log then {h with cI:=pT (h.next-h0.next) h.cI,next:=h0.next}else h
def jU(e:Env):List Nat->List Value->Option Env
 |[],[]=>some e
 |t::ts,v::vs=>jU ((t,v)::e) ts vs
 |_,_=>none
def bL(e:Env):Option (Nat×Bool)->Option Bool
 |none=>some true
 |some (t,b)=>match geT e t with
  |some (.bool x)=>some (x==b)
  |some _=>some false
  |none=>none
def cC(e:Env)(d:Option Nat)(v:Value):Env:=
 match d with
 |some t=>(t,v)::e
 |none=>e
def kH:Value->Value->Bool
 | .bool a, .bool b=>a==b
 | .int k a, .int k' b=>k==k'&&a==b
 | .string a, .string b=>a.data.toList==b.data.toList
 | .pointer a, .pointer b=>a==b
 | .slice a l c, .slice b l' c'=>a==b&&l==l'&&c==c'
 | .map a, .map b=>a==b
 | .nilIface, .nilIface=>true
 | .nilFunc, .nilFunc=>true
 | .iface t (.int k a), .iface t' (.int k' b)=>t==t'&&k==k'&&a==b
 |_,_=>false
def kI:List Value->List Value->Bool
 |[],[]=>true
 |x::xs,y::ys=>bif kH x y then kI xs ys else false
 |_,_=>false
def jb:Value->Value->Bool
 | .agg a, .agg b=>kI a.toList b.toList
 | .tuple a, .tuple b=>kI a.toList b.toList
 | .func (.func f) a' a, .func (.func g) b' b=>f==g&&(kI a'.toList b'.toList&&kI a.toList b.toList)
 |x,y=>kH x y
def UR:Option Operand->List Operand
 |some x=>[x]
 |none=>[]
def dA:AOp->List Operand
 | .mov x| .box x| .load _ x| .cM x| .un _ x| .conv _ x| .iT _ x| .dg _ x| .field _ _ x| .kC _ _ _ x| .extract x _| .len _ x| .cap x| .uN x| .range x| .next x _| .nP x| .entry x| .clear _ x=>[x]
 | .pick c a b=>[c,a,b]
 | .build _ ps| .dz _ _ ps=>ps.map (·.2.2)
 | .store _ a v=>[a,v]
 | .bin _ x y| .cQ _ _ x y| .aD _ x y| .uz _ _ _ x y| .jW x y| .mkSlice _ _ x y| .lookup _ _ _ _ x y| .delete _ _ x y| .append _ _ x y| .mY _ _ x y| .copy _ x y=>[x,y]
 | .fh _ fs cs=>ek fs cs
 | .slice _ x lo hi mx=>x::ek (UR lo) (ek (UR hi) (UR mx))
 | .oz _ _ m k v=>[m,k,v]
 | .call f as| .kF f as=>f::as
 | .eF _ as=>as
 | .new _| .mkMap| .nN _| .recover=>[]
def Bq:List Operand->List Nat
 |[]=>[]
 | .tmp t::l=>t::Bq l
 |_::l=>Bq l
def dh(o:aZ):List Nat:=
 match o.guard with
 |some (t,_)=>t::Bq (dA o.op)
 |none=>Bq (dA o.op)
def cU:AOp->Bool
 | .mov _| .pick .. | .build .. | .load .. | .cM _| .bin .. | .un .. | .iT .. | .fh .. | .dg .. | .field .. | .cQ .. | .aD .. | .uz .. | .jW .. | .lookup .. | .kC .. | .extract .. | .len .. | .nN _| .cap _| .eF .. =>true
 | .conv .toBytes _=>false
 | .conv _ _=>true
 | .slice .. =>true
 |_=>false
def mQ:List Operand->Bool
 |[]=>true
 | .global _::_=>false
 |_::l=>mQ l
def dK:AOp->Bool
 | .new _| .mkMap=>true
 | .box x=>mQ [x]
 | .mkSlice _ _ l c=>mQ [l,c]
 | .dz z n ps=>mQ (ps.map (·.2.2))
 |_=>false
def jM(o:AOp):Bool:=cU o||dK o
inductive Rk
 |skip|quiet|made (b:Nat)
structure Rec where
 i:Nat
 o:aZ
 e:Env
 v:Value
 k:Rk
def tD(h:Heap)(base:Nat)(r:Rec):Bool:=
 match r.k with
 | .quiet=>match aop h base r.e r.o.op with
   |some (.val v' h2)=>jb r.v v'&&Nat.beq h2.next h.next
   |_=>false
 |_=>true
def oH(h:Heap)(base:Nat):List Rec->Bool
 |[]=>true
 |r::rs=>bif tD h base r then oH h base rs else false
def JX(log:List Nat)(r:Rec):Bool:=
 match r.k with
 | .made b=> !fP log b
 |_=>true
def sH(bf:List Nat)(i:Nat):List Nat->Bool
 |[]=>true
 |j::js=>match bN bf j with
  |some m=>bif Nat.testBit m i then sH bf i js else false
  |none=>false
def bQ(h:Heap)(base:Nat)(log:List Nat)(mask:Nat):List Rec->Option (List Rec)
 |[]=>some []
 |r::rs=>bif Nat.testBit mask r.i then bQ h base log mask rs else
  bif tD h base r&&JX log r then match bQ h base log mask rs with
   |some rs'=>some (r::rs')
   |none=>none
  else none
def rC(h:Heap):Option Nat->Bool
 |none=>true
 |some l=>match h.get l with
  |some (.loop _ _ _ _ _ _)=>true
  |_=>false
def notReady:Option bR->Bool
 |some (.loop _ _ _ _ 0 .normal)=>false
 |_=>true
def iD:Option an->Bool
 |some (.code _ _)=>false
 |_=>true
abbrev Dfs:=List (Value×List Value)
def FD(e2:Env):Env->Bool
 |[]=>true
 |(t,v)::e=>match geT e2 t with
  |some v'=>bif jb v v' then FD e2 e else false
  |none=>false
def zm(e:Env):Env->Bool
 |[]=>true
 |(t,v)::e2=>bif flat v then zm e e2 else match geT e t with
  |some v'=>bif jb v v' then zm e e2 else false
  |none=>false
def uS:Env->Env->Bool
 |[],[]=>true
 |(t,v)::e,(t',v')::e'=>bif Nat.beq t t' then bif jb v v' then uS e e' else false else false
 |_,_=>false
def Ia(nxt:Nat)(e eo:Env)(x:bE)(e2:Env)(r:Option (bE×Env)):Option (Option (bE×Env)):=
 match x with
 | .normal=>bif FD e2 e then some r else none
 | .panic _=>none
 | .exit i=>bif Nat.beq i nxt then(bif FD e2 e then some r else none)else
   bif zm eo e2 then match r with
    |none=>some (some (.exit i,e2))
    |some (.exit j,e3)=>bif Nat.beq i j&&uS e2 e3 then some r else none
    |_=>none
   else none
 | .ret=>bif zm eo e2 then match r with
  |none=>some (some (.ret,e2))
  |some (.ret,e3)=>bif uS e2 e3 then some r else none
  |_=>none
   else none
def oR(fo:Env->Heap->Option (bE×Env×Dfs×Heap))(fe:Env->Heap->Option (bE×Env×Dfs×Heap))(nxt pr:Nat)(k2:List Nat)(e eo:Env)(h:Heap):List (Value×Value)->Option (Option (bE×Env))
 |[]=>some none
 |(k,v)::es=>match fo ((pr, .tuple #[k,v])::e) h with
  |some (.normal,e1,[],h1)=>match fe (bU e1 k2) h1 with
   |some (x,e2,[],h2)=>match h2.log with
    |[]=>match oR fo fe nxt pr k2 e eo h es with
     |some r=>Ia nxt e eo x e2 r
     |none=>none
    |_::_=>none
   |_=>none
  |_=>none
def LN(out:Nat)(e0:Env)(h:Heap):Option (Option (bE×Env))->Option (bE×Env×Dfs×Heap)
 |some none=>some (.normal,e0,[],h)
 |some (some (.exit i,e'))=>bif Nat.beq i out then some (.normal,e',[],h)else some (.exit i,e',[],h)
 |some (some (.ret,e'))=>some (.ret,e',[],h)
 |_=>none
def roM(h:Heap)(m:Nat)(es:List (Value×Value)):Heap:={h with cI:=jt h.cI m (.sC es),log:=[]}
def itE(it:Nat)(h:Heap)(e:Env):Env:=(it, .pointer (some ⟨h.next,0,none⟩))::e
mutual
def cE(T:Nat->Option an):Nat->Nat->Option Nat->aT->Env->Dfs->Heap->Option (bE×Env×Dfs×Heap)
 |0,_,_,_,_,_,_=>none
 |n+1,base,rnd,c,e,ds,h=>
  match c with
  | .skip=>some (.normal,e,ds,h)
  | .region ops keep=>match gz T n base rnd ops e ds h with
    |some (.normal,e',ds',h')=>some (.normal,bU e' keep,ds',h')
    |r=>r
  | .draw ops order before keep=>match ef T n base ops order before [] e h with
    |some (.normal,e',h')=>some (.normal,bU e' keep,ds,h')
    |some (x,e',h')=>some (x,e',ds,h')
    |none=>none
  | .seq a b=>match cE T n base rnd a e ds h with
    |some (.normal,e',ds',h')=>cE T n base rnd b e' ds' h'
    |r=>r
  | .cond c a b=>match ev h e c with
    |some (.bool true)=>cE T n base rnd a e ds h
    |some (.bool false)=>cE T n base rnd b e ds h
    |_=>none
  | .block id b=>match cE T n base rnd b e ds h with
    |some (.exit i,e',ds',h')=>bif Nat.beq i id then some (.normal,e',ds',h')else some (.exit i,e',ds',h')
    |r=>r
  | .loop b=>match cE T n base rnd b e ds h with
    |some (.normal,e',ds',h')=>cE T n base rnd (.loop b) e' ds' h'
    |r=>r
  | .scope b=>cE T n base rnd b e ds h
  | .rangeFunc f ps asg body=>bif rC h rnd then match ev h e f with
    |some (.func (.func g) first cap)=>bif iD (T g)then none else
     match iS T n g (ek first.toList (ek [.func (.yield h.next) #[] #[]] cap.toList)) {h.push (.loop e ps asg body 0 .normal)with log:=[]}with
     |some (.ret _,h2)=>match h2.get h.next with
      |some (.loop _ _ _ _ st jh)=>bif Nat.beq st 1 then none else
       some (jh,e,ds,Heap.wr {h2 with log:=aH base h.log h2.log} base h.next .dead)
      |_=>none
     |some (.panic v,h2)=>some (.panic v,e,ds,{h2 with log:=aH base h.log h2.log})
     |none=>none
    |_=>none
    else none
  | .rangeMap ops it x keep out nxt pr ops2 k2 body=>match gz T n base rnd ops e ds h with
    |some (.normal,e0,ds0,h0)=>match ds0 with
     |_::_=>none
     |[]=>match ev h0 e0 x with
      |some (.map none)=>some (.normal,bU e0 keep,[],h0)
      |some (.map (some m))=>match h0.get m with
       |some (.map es)=>LN out (bU e0 keep) h0 (oR (λe h=>gz T n (h0.next+1) rnd ops2 e [] h) (λe h=>cE T n (h0.next+1) rnd body e [] h) nxt pr k2 (itE it h0 (bU e0 keep)) (bU e0 keep) ((roM h0 m es).push .dead) es)
       |_=>none
      |_=>none
    |r=>r
  | .exit id=>some (.exit id,e,ds,h)
  | .ret=>some (.ret,e,ds,h)
def gz(T:Nat->Option an):Nat->Nat->Option Nat->List aZ->Env->Dfs->Heap->Option (bE×Env×Dfs×Heap)
 |0,_,_,_,_,_,_=>none
 |n+1,base,rnd,ops,e,ds,h=>
  match ops with
  |[]=>some (.normal,e,ds,h)
  |o::os=>match bL e o.guard with
   |some false=>gz T n base rnd os (cC e o.dst (.tuple #[])) ds h
   |some true=>match aop h base e o.op with
    |some (.val v h')=>gz T n base rnd os (cC e o.dst v) ds h'
    |some (.call fn args h')=>match gU T n fn args {h' with log:=[]}with
     |some (.ret v,h2)=>gz T n base rnd os (cC e o.dst v) ds {h2 with log:=aH base h'.log h2.log}
     |some (.panic v,h2)=>some (.panic v,e,ds,{h2 with log:=aH base h'.log h2.log})
     |none=>none
    |some (.kF f args)=>match rnd with|some _=>none|none=>gz T n base rnd os (cC e o.dst (.tuple #[])) ((f,args)::ds) h
    |some (.panic v h')=>some (.panic v,e,ds,h')
    |_=>none
   |none=>none
def ef(T:Nat->Option an):Nat->Nat->List aZ->List Nat->List Nat->List Rec->Env->Heap->Option (bE×Env×Heap)
 |0,_,_,_,_,_,_,_=>none
 |n+1,base,ops,order,before,rs,e,h=>
  match order with
  |[]=>some (.normal,e,h)
  |i::is=>match bN ops i,bN before i with
   |some o,some mask=>
    match bL (bU e (dh o)) o.guard with
    |some false=>ef T n base ops is before (⟨i,o,bU e (dh o), .tuple #[], .skip⟩::rs) (cC e o.dst (.tuple #[])) h
    |some true=>
     bif jM o.op then
      match aop h base (bU e (dh o)) o.op with
      |some (.val v h')=>
       bif dK o.op then
        bif oH h' base rs then ef T n base ops is before (⟨i,o,bU e (dh o),v, .made h.next⟩::rs) (cC e o.dst v) h' else none
       else bif Nat.beq h'.next h.next then ef T n base ops is before (⟨i,o,bU e (dh o),v, .quiet⟩::rs) (cC e o.dst v) h
       else bif sH before i is then
        match aop {h with log:=[]} h.next (bU e (dh o)) o.op with
        |some (.val v h2)=>match bQ {h2 with log:=aH base h.log h2.log} base h2.log mask rs with
         |some rs'=>ef T n base ops is before rs' (cC e o.dst v) {h2 with log:=aH base h.log h2.log}
         |none=>none
        |_=>none
       else none
      |_=>none
     else
      match aop {h with log:=[]} h.next (bU e (dh o)) o.op with
      |some (.val v h2)=>match bQ {h2 with log:=aH base h.log h2.log} base h2.log mask rs with
       |some rs'=>ef T n base ops is before rs' (cC e o.dst v) {h2 with log:=aH base h.log h2.log}
       |none=>none
      |some (.call fn args _)=>match gU T n fn args {h with log:=[]}with
       |some (.ret v,h2)=>match bQ {h2 with log:=aH base h.log h2.log} base h2.log mask rs with
        |some rs'=>ef T n base ops is before rs' (cC e o.dst v) {h2 with log:=aH base h.log h2.log}
        |none=>none
       |some (.panic v,h2)=>some (.panic v,[],{h2 with log:=aH base h.log h2.log})
       |none=>none
      |_=>none
    |none=>none
   |_,_=>none
def gU(T:Nat->Option an):Nat->Fn->List Value->Heap->Option (Res×Heap)
 |0,_,_,_=>none
 |n+1,fn,args,h=>
  match fn with
  | .func f=>iS T n f args h
  | .yield l=>match h.get l with
    |some (.loop e ps asg body 0 .normal)=>match jU e ps args with
     |some e1=>match cE T n h.next (some l) asg e1 [] h with
      |some (.normal,e2,ds2,h2)=>bif notReady (h2.get l)then none else match cE T n h.next (some l) body e2 ds2 {h2 with cI:=jt h2.cI l (.loop e ps asg body 1 .normal)}with
       |some (.normal,_,_,h3)=>match h3.get l with
        |some (.loop _ _ _ _ 1 _)=>some (.ret (.bool true),gcA h {h3 with cI:=jt h3.cI l (.loop e ps asg body 0 .normal)} (.bool true))
        |_=>none
       |some (.exit i,_,_,h3)=>match h3.get l with
        |some (.loop _ _ _ _ 1 _)=>some (.ret (.bool false),h3.wr h.next l (.loop e ps asg body 2 (.exit i)))
        |_=>none
       |some (.ret,_,_,h3)=>match h3.get l with
        |some (.loop _ _ _ _ 1 _)=>some (.ret (.bool false),h3.wr h.next l (.loop e ps asg body 2 .ret))
        |_=>none
       |_=>none
      |_=>none
     |none=>none
    |_=>none
  |_=>none
def iS(T:Nat->Option an):Nat->Nat->List Value->Heap->Option (Res×Heap)
 |0,_,_,_=>none
 |n+1,f,args,h=>
  match T f with
  |none=>none
  |some (.mb p)=>match p args h with
   |some (v,h')=>some (.ret v,h')
   |none=>none
  |some (.code code results)=>match cE T n h.next none code (ej 0 args) [] h with
   |some (.panic v,e,ds,h1)=>nV T n results ds (some v) e h h1
   |some (.exit _,_,_,_)=>none
   |some (_,e,ds,h1)=>nV T n results ds none e h h1
   |none=>none
def nV(T:Nat->Option an):Nat->List (Nat×Option (Option Nat))->Dfs->Option Value->Env->Heap->Heap->Option (Res×Heap)
 |0,_,_,_,_,_,_=>none
 |n+1,results,ds,pan,e,h,h1=>
  match ds with
  |[]=>match pan with
   |some v=>some (.panic v,h1)
   |none=>match bZ h1 e results with
    |some vs=>some (.ret (eT vs),gcA h h1 (eT vs))
    |none=>none
  |(.func (.func g) first cap,args)::ds=>match jY T n g (ek first.toList (ek args cap.toList)) pan {h1 with log:=[]}with
   |some (pan',h2)=>nV T n results ds pan' e h {h2 with log:=aH h.next h1.log h2.log}
   |none=>none
  |_=>none
def jY(T:Nat->Option an):Nat->Nat->List Value->Option Value->Heap->Option (Option Value×Heap)
 |0,_,_,_,_=>none
 |n+1,g,args,pan,h=>
  match T g with
  |some (.code code [])=>match gV T n h.next code (ej 0 args) pan h with
   |some (.normal,_,pan',h')=>some (pan',h')
   |some (.ret,_,pan',h')=>some (pan',h')
   |_=>none
  |_=>none
def gV(T:Nat->Option an):Nat->Nat->aT->Env->Option Value->Heap->Option (bE×Env×Option Value×Heap)
 |0,_,_,_,_,_=>none
 |n+1,base,c,e,pan,h=>
  match c with
  | .skip=>some (.normal,e,pan,h)
  | .region ops keep=>match iV T n base ops e pan h with
    |some (.normal,e',pan',h')=>some (.normal,bU e' keep,pan',h')
    |r=>r
  | .seq a b=>match gV T n base a e pan h with
    |some (.normal,e',pan',h')=>gV T n base b e' pan' h'
    |r=>r
  | .cond c a b=>match ev h e c with
    |some (.bool true)=>gV T n base a e pan h
    |some (.bool false)=>gV T n base b e pan h
    |_=>none
  | .ret=>some (.ret,e,pan,h)
  |_=>none
def iV(T:Nat->Option an):Nat->Nat->List aZ->Env->Option Value->Heap->Option (bE×Env×Option Value×Heap)
 |0,_,_,_,_,_=>none
 |n+1,base,ops,e,pan,h=>
  match ops with
  |[]=>some (.normal,e,pan,h)
  |o::os=>match bL e o.guard with
   |some false=>iV T n base os (cC e o.dst (.tuple #[])) pan h
   |some true=>match aop h base e o.op with
    |some (.val v h')=>iV T n base os (cC e o.dst v) pan h'
    |some .recover=>match pan with
     |some v=>iV T n base os (cC e o.dst v) none h
     |none=>iV T n base os (cC e o.dst .nilIface) none h
    |_=>none
   |none=>none
end
def aN(P:Program):Operand->Bool
 | .const v=>cO v
 | .global g=>Nat.blt g P.globals.size
 |_=>true
def eC(P:Program)(t:TypeId):Option Nat:=(P.info? t).map (·.size)
def mI(P:Program)(t:TypeId):Option Nat:=(P.info? t).map (·.bytes)
def iU(P:Program)(t:TypeId):Option Value:=(P.info? t).bind (·.zero)
def BE(P:Program)(t:TypeId):Option (Option Nat):=
 match P.underlying t with
 |some (.struct _)|some (.array _ _)=>(eC P t).map some
 |some _=>some none
 |none=>none
def goL(P:Program)(lf:TypeId->Option (List eN)):Nat->List Field->Option (List eN)
 |_,[]=>some []
 |off,f::fs=>if f.name= "_" ∨f.offset≠off then none else match lf f.type,eC P f.type with
  |some l,some s=>if l.length=s then match goL P lf (off+s) fs with
   |some m=>some (ek l m)
   |none=>none
   else none
  |_,_=>none
def dU(P:Program):Nat->TypeId->Option (List eN)
 |0,_=>none
 |d+1,t=>match P.underlying t with
  |some .bool=>some [.b]
  |some (.int k)=>some [.i k]
  |some .string=>some [.s]
  |some (.array n e)=>match dU P d e,eC P e with
   |some l,some s=>if l.length=s then some (eS n l)else none
   |_,_=>none
  |some (.struct fs)=>if P.stoodInHeld t then none else goL P (dU P d) 0 fs.toList
  |_=>none
def fW(P:Program)(t:TypeId):Bool:=
 match P.underlying t with
 |some (.struct _)|some (.array _ _)=>true
 |_=>false
def oh:Operand->Bool
 | .const _=>true
 |_=>false
def ze:BinOp->Option Bool
 | .eql=>some false
 | .neq=>some true
 |_=>none
def ri(place:Nat->Option (Nat×Nat)):List (Nat×Operand)->Option (List (Nat×Nat×Operand))
 |[]=>some []
 |(i,x)::ps=>match place i,ri place ps with
  |some (o,s),some l=>some ((o,s,x)::l)
  |_,_=>none
def ig(P:Program)(o:Op):Option AOp:=
 if o.operands.toList.all (aN P)then
 match o with
 | .move x| .assign x=>some (.mov x)
 | .pick c a b=>some (.pick c a b)
 | .alloc t=>match iU P t with
   |some z=>if dF (cellsOf z)then some (.new (cellsOf z))else none
   |none=>none
 | .box _ x=>some (.box x)
 | .build t ps=>match iU P t,P.underlying t with
   |some z,some (.struct fs)=>if dF (cellsOf z)/\fs.toList.all (λf=>(eC P f.type).isSome)then(ri (λi=>(fs[i]?).map λf=>(f.offset,P.cellsOf f.type)) ps.toList).map (.build (cellsOf z))else none
   |some z,some (.array _ e)=>match eC P e with
    |some s=>if dF (cellsOf z)then(ri (λi=>some (i*s,s)) ps.toList).map (.build (cellsOf z))else none
    |none=>none
   |_,_=>none
 | .buildSlice t n ps=>match P.underlying t with
   |some (.slice e)=>match eC P e,iU P e with
    |some s,some z=>if n*s<=2 ^ 24/\bM (cellsOf z)=s/\s≠0/\dF (cellsOf z)then(ri (λi=>some (i*s,s)) ps.toList).map (.dz (cellsOf z) n)else none
    |_,_=>none
   |_=>none
 | .load t a=>(BE P t).map λn=> .load n a
 | .store t a v=>(eC P t).map λn=> .store n a v
 | .nilCheck x=>some (.cM x)
 | .binOp op t x y _=>
   match P.underlying t with
   |some (.struct _)|some (.array _ _)=>match op,dU P 100 t with
    | .eql,some ls=>if P.eqGuardType P.depth t then none else some (.bin (.agg false ls) x y)
    | .neq,some ls=>if P.eqGuardType P.depth t then none else some (.bin (.agg true ls) x y)
    |_,_=>none
   |some (.interface _)=>if oh x||oh y then(ze op).map λn=> .bin (.nil .iface n) x y else none
   |some (.pointer _)=>(ze op).map λn=> .bin (.nil .ptr n) x y
   |some (.slice _)=>(ze op).map λn=> .bin (.nil .sl n) x y
   |some (.map _ _)=>(ze op).map λn=> .bin (.nil .map n) x y
   |some (.func _ _ _)=>(ze op).map λn=> .bin (.nil .func n) x y
   |some .bool=>(ze op).map λn=> .bin (.beq n) x y
   |some (.int _)=>some (.bin (.num op) x y)
   |some .string=>some (.bin (.num op) x y)
   |_=>none
 | .unOp op _ x=>some (.un op x)
 | .convert s d x=>match P.underlying s,P.underlying d with
   |some (.int _),some (.int k)=>some (.conv (.int k) x)
   |some .string,some .string=>none
   |some (.slice e),some .string=>match P.underlying e with
    |some (.int .u8)=>none
    |_=>none
   |some .string,some (.slice e)=>match P.underlying e with
    |some (.int .u8)=>none
    |_=>none
   |_,_=>none
 | .makeInterface t x=>match P.underlying t with
   |some (.interface _)=>none
   |some _=>some (.iT t x)
   |none=>none
 | .makeFunc (.func f) fs cs=>some (.fh (.func f) fs.toList cs.toList)
 | .makeMap _ none=>some .mkMap
 | .makeMap t (some (.const (.int _ _)))=>match P.underlying t with
   |some (.map _ _)=>some .mkMap
   |_=>none
 | .makeSlice t l c=>match P.underlying t with
   |some (.slice e)=>match eC P e,iU P e,mI P e with
    |some s,some z,some b=>if bM (cellsOf z)=s/\s≠0/\dF (cellsOf z)then some (.mkSlice (cellsOf z) b l c)else none
    |_,_,_=>none
   |_=>none
 | .slice t x lo hi mx=>if mx.isSome&&hi.isNone then none else match P.underlying t with
   |some .string=>match mx with
    |none=>none
    |some _=>none
   |some (.slice e)=>(eC P e).map λs=> .slice (.sl s) x lo hi mx
   |some (.array n e)=>if n<UNK then(eC P e).map λs=> .slice (.arr n s) x lo hi mx else none
   |some (.pointer a)=>match P.underlying a with
    |some (.array n e)=>if n<UNK then(eC P e).map λs=> .slice (.arr n s) x lo hi mx else none
    |_=>none
   |_=>none
 | .fieldAddr s x f=>match P.underlying s with
   |some (.struct fs)=>match fs[f]? with
    |some f=>match eC P f.type with
     |some (_+1)=>some (.dg f.offset x)
     |_=>none
    |none=>none
   |_=>none
 | .field s x f=>match P.underlying s with
   |some (.struct fs)=>match fs[f]? with
    |some f=>none
    |none=>none
   |_=>none
 | .indexAddr t x i=>match P.underlying t with
   |some (.array n e)=>(eC P e).map λs=> .cQ n s x i
   |some (.slice e)=>(eC P e).map λs=> .aD s x i
   |_=>none
 | .index t x i=>match P.underlying t with
   |some (.array n e)=>match eC P e,BE P e with
    |some s,some a=>some (.uz n s a x i)
    |_,_=>none
   |some .string=>some (.jW x i)
   |_=>none
 | .lookup t m k ok=>match P.underlying t with
   |some (.map kt e)=>match dU P 100 kt,iU P e with
    |some ls,some z=>if flat z then some (.lookup (fW P kt) ls z ok m k)else none
    |_,_=>none
   |_=>none
 | .mapUpdate t m k v=>match P.underlying t with
   |some (.map kt _)=>match dU P 100 kt with
    |some ls=>some (.oz (fW P kt) ls m k v)
    |none=>none
   |_=>none
 | .typeAssert x _ a ok=>match P.underlying a with
   |some (.interface _)=>none
   |some _=>match iU P a with
    |some z=>if flat z then some (.kC a ok z x)else none
    |none=>none
   |none=>none
 | .extract t i=>some (.extract t i)
 | .panic x=>some (.uN x)
 | .range t x=>match P.underlying t with
   |some .string=>none
   |some (.map _ _)=>some (.nP x)
   |_=>none
 | .next x s=>match s with
   |false=>some (.next x false)
   |true=>none
 | .entry x=>some (.entry x)
 | .call c=>match c.callee with
   | .value f=>some (.call f c.args.toList)
   | .invoke _ _=>none
   | .builtin b=>match b,c.argTypes.toList,c.args.toList with
     | .len,[t],[x]=>match P.underlying t with
       |some .string=>some (.len 0 x)
       |some (.slice _)=>some (.len 1 x)
       |some (.map _ _)=>some (.len 2 x)
       |some (.array n _)=>none
       |some (.pointer a)=>match P.underlying a with
        |some (.array n _)=>none
        |_=>none
       |_=>none
     | .cap,[t],[x]=>match P.underlying t with
       |some (.slice _)=>none
       |_=>none
     | .append,[st,xt],[s,x]=>match P.underlying st,P.underlying xt with
       |some (.slice e),some (.int _)=>match iU P e,mI P e,eC P e with
        |some z,some b,some n=>if bM (cellsOf z)=n/\n≠0/\b≠0/\dF (cellsOf z)then none else none
        |_,_,_=>none
       |some (.slice e),some _=>match eC P e,mI P e,iU P e with
        |some n,some b,some z=>if bM (cellsOf z)=n/\n≠0/\b≠0/\dF (cellsOf z)then some (.append n b s x)else none
        |_,_,_=>none
       |_,_=>none
     | .copy,[dt,_],[d,s]=>match P.underlying dt with
       |some (.slice e)=>(eC P e).map λn=> .copy n d s
       |_=>none
     | .max,_,args=>if 2<=c.args.size then some (.eF true args)else none
     | .min,_,args=>if 2<=c.args.size then some (.eF false args)else none
     | .delete,[mt,_],[m,k]=>match P.underlying mt with
       |some (.map kt _)=>match dU P 100 kt with
        |some ls=>none
        |none=>none
       |_=>none
     | .clear,[t],[x]=>match P.underlying t with
       |some (.slice e)=>match iU P e with
        |some z=>if dF (cellsOf z)then some (.clear (cellsOf z) x)else none
        |none=>none
       |_=>none
     | .recover,_,_=>some .recover
     |_,_,_=>none
 | .defer c=>match c.callee with
   | .value f=>some (.kF f c.args.toList)
   |_=>none
 |_=>none
 else none
def lX(nt:Nat):Option Nat->Bool
 |none=>true
 |some t=>Nat.blt t nt
def cD(P:Program)(nt:Nat)(ops:Array Oper):List Oper->Option (List aZ)
 |[]=>some []
 |o::os=>if lX nt o.dst then match ig P o.op,cD P nt ops os with
  |some a,some as=>match o.guard with
   |none=>some (⟨o.dst,a,none⟩::as)
   |some (j,b)=>match(ops[j]?).bind (·.dst)with
    |some t=>some (⟨o.dst,a,some (t,b)⟩::as)
    |none=>none
  |_,_=>none else none
def GS(ops:List Oper)(done:List Nat):Nat->List Oper->List Nat
 |_,[]=>[]
 |i,o::os=>
  if !fP done i&&(o.after.toList.all λe=> !Region.binds .any e||fP done e.on)then i::GS ops done (i+1) os else GS ops done (i+1) os
def eager(ops:List Oper)(q:List Bool):Nat->List Nat->List Nat
 |0,done=>done.reverse
 |n+1,done=>
  let r:=GS ops done 0 ops
  match r.find? (λi=>(bN q i).getD false)with
  |some i=>eager ops q n (i::done)
  |none=>match r with
   |i::_=>eager ops q n (i::done)
   |[]=>done.reverse
def GB(o:Oper):List Nat:=(o.after.toList.filter (Region.binds .any)).map (·.on)
def jT(ops:List Oper)(i:Nat):List Nat:=
 match bN ops i with
 |some o=>GB o
 |none=>[]
def topoOk(as:List aZ)(ops:List Oper)(done:List Nat):List Nat->Bool
 |[]=>true
 |i::is=>(jT ops i).all (fP done)&& !fP done i&&
  (match bN as i with|some a=>jM a.op||is.all λj=>(jT ops j).any (fP (i::is))|none=>false)&&topoOk as ops (i::done) is
def Sb(as:List aZ)(ops:List Oper)(bf:List Nat)(n:Nat):Bool:=
 (List.range n).all fun j=>match bN as j with
   |some a=>(dh a).all λt=>(List.range n).all λp=>match bN as p with
    |some b=> !(b.dst==some t)||fP (jT ops j) p||(match bN bf p with|some m=>Nat.testBit m j|none=>false)
    |none=>false
   |none=>false
def TZ(as:List aZ)(n:Nat):Bool:=
 (List.range n).all fun j=>(List.range n).all fun p=>match bN as j,bN as p with
   |some a,some b=>Nat.beq j p|| !(a.dst==b.dst)||a.dst.isNone
   |_,_=>false
def Q5(ops:List Oper)(bf:List Nat)(n:Nat):Bool:=
 (List.range n).all fun i=>(List.range n).all fun p=>match bN bf i with
   |some m=> !Nat.testBit m p||(jT ops i).any λq=>Nat.beq p q||(match bN bf q with|some mq=>Nat.testBit mq p|none=>false)
   |none=>false
def xV(as:List aZ)(ops:List Oper)(ord bf:List Nat):Bool:=
 Nat.beq ord.length ops.length&&ord.all (Nat.blt · ops.length)&&(List.range ops.length).all (fP ord)&&topoOk as ops [] ord&&Sb as ops bf ops.length&&TZ as ops.length&&Q5 ops bf ops.length&&
  as.all λa=>match a.op with| .kF _ _=>false|_=>true
def Ab{α:Type}:List α->Option (List α×α)
 |[]=>none
 |[x]=>some ([],x)
 |x::l=>match Ab l with
  |some (l',y)=>some (x::l',y)
  |none=>none
def Tv(ops:List aZ)(keep:List Nat)(out nx it1 mo nx1 mo1 out1 nxt pr it2:Nat)(ops2:List aZ)(k2:List Nat)(body:aT):Option aT:=
 match Ab ops with
 |some (ops0,⟨some it, .nP x,none⟩)=>
  if it1=it/\it2=it/\nx1=nx/\mo1=mo/\out1=out/\nx≠mo/\it≠nx/\it≠mo then
   some (.rangeMap ops0 it x (keep.filter λt=> !(Nat.beq t it||Nat.beq t nx||Nat.beq t mo)) out nxt pr ops2 k2 body)
  else none
 |_=>none
def fuse? :aT->aT->Option aT
 | .region ops keep, .block out (.loop (.seq (.region [⟨some nx, .next (.tmp it1) false,none⟩,⟨some mo, .extract (.tmp nx1) 0,none⟩] _) (.seq (.cond (.tmp mo1) .skip (.exit out1)) (.block nxt (.seq (.region (⟨some pr, .entry (.tmp it2),none⟩::ops2) k2) body)))))=>
   Tv ops keep out nx it1 mo nx1 mo1 out1 nxt pr it2 ops2 k2 body
 |_,_=>none
def XI(a b:aT):aT:=
 match fuse? a b with
 |some c=>c
 |none=> .seq a b
def comp(P:Program)(nt:Nat):Code->List (List Nat)->Option (aT×List (List Nat))
 | .skip,ks=>some (.skip,ks)
 | .region _ ops draw,ks=>match ks,cD P nt ops ops.toList with
   |k::ks,some as=>
    if draw then
     let ord:=eager ops.toList (as.map λa=>jM a.op) ops.size [];let bf:=(Region.before ops).toList
     if xV as ops.toList ord bf then some (.draw as ord bf k,ks)else none
    else some (.region as k,ks)
   |_,_=>none
 | .seq a b,ks=>match comp P nt a ks with
   |some (a',ks)=>match comp P nt b ks with
    |some (b',ks)=>some (XI a' b',ks)
    |none=>none
   |none=>none
 | .cond c a b,ks=>if aN P c then match comp P nt a ks with
   |some (a',ks)=>match comp P nt b ks with
    |some (b',ks)=>some (.cond c a' b',ks)
    |none=>none
   |none=>none else none
 | .block id b,ks=>match comp P nt b ks with
   |some (b',ks)=>some (.block id b',ks)
   |none=>none
 | .loop b,ks=>match comp P nt b ks with
   |some (b',ks)=>some (.loop b',ks)
   |none=>none
 | .rangeFunc f ps a b,ks=>if aN P f&&ps.toList.all (Nat.blt · nt)then match comp P nt a ks with
   |some (a',ks)=>match comp P nt b ks with
    |some (b',ks)=>some (.rangeFunc f ps.toList a' b',ks)
    |none=>none
   |none=>none else none
 | .scope b,ks=>match comp P nt b ks with
   |some (b',ks)=>some (.scope b',ks)
   |none=>none
 | .label _,ks=>some (.skip,ks)
 | .exit id,ks=>some (.exit id,ks)
 | .ret,ks=>some (.ret,ks)
 |_,_=>none
def Fg(P:Program):List ResultVar->Option (List (Nat×Option (Option Nat)))
 |[]=>some []
 | .tmp t::rs=>(Fg P rs).map ((t,none):: ·)
 | .cell a t::rs=>match BE P t,Fg P rs with
   |some n,some l=>some ((a,some n)::l)
   |_,_=>none
def aJ(P:Program)(f:Func)(ks:List (List Nat)):Option an:=
 match f.body with
 |some c=>if f.name= "runtime.NumGoroutine" then none else match comp P f.ntmps c ks,Fg P f.results.toList with
  |some (ac,[]),some rs=>some (.code ac rs)
  |_,_=>none
 |none=>none
inductive Tr
 |nil|node (l:Tr) (k:Nat) (v:an) (r:Tr)
def Tr.get:Tr->Nat->Option an
 | .nil,_=>none
 | .node l k v r,n=>bif Nat.beq n k then some v else bif Nat.blt n k then l.get n else r.get n
def cL:aT->aT
 | .seq a _=>a
 |c=>c
def cR:aT->aT
 | .seq _ b=>b
 |c=>c
def codeOf:an->aT
 | .code c _=>c
 |_=> .skip
end Go.A
section
namespace Go.A
abbrev a6:=@List.getElem?_eq_getElem
abbrev bl:=@Nat.le_refl
abbrev bu:=@List.mem_cons_of_mem
abbrev bx:=@List.mem_cons_self
abbrev bz:=@List.mem_of_getElem?
abbrev b7:=@Option.ite_none_right_eq_some
abbrev ci:=@Result.andThen_ok
abbrev dk:=@Bool.and_eq_true
abbrev dn:=@List.take_of_length_le
abbrev ec:=@Nat.lt_succ_self
abbrev ed:=@Nat.le_trans
abbrev eA:=@List.length_append
abbrev gk:=@List.getD_eq_getElem?_getD
abbrev go:=@Sem.run_bind
abbrev gy:=@Array.getElem?_setIfInBounds
abbrev gK:=@Nat.zero_le
abbrev gR:=@List.getElem?_append_right
abbrev gS:=@List.getElem?_take_of_lt
abbrev hG:=@List.getElem?_append_left
abbrev hK:=@Sem.run_pure
abbrev hP:=@List.take_length
abbrev hS:=@List.length_map
abbrev hX:=@List.take_append_of_le_length
abbrev j3:=@Nat.zero_add
abbrev kz:=@Nat.lt_of_lt_of_le
abbrev kK:=@List.getElem?_drop
abbrev lp:=@List.length_take
abbrev md:=@List.append_nil
abbrev me:=@List.length_cons
abbrev m6:=@List.getElem?_eq_none
abbrev q9:=@Bool.or_eq_true
abbrev tb:=@List.drop_zero
abbrev ui:=@Nat.lt_irrefl
abbrev ul:=@List.length_set
abbrev ut:=@Array.getD_eq_getD_getElem?
abbrev vy:=@List.take_succ_eq_append_getElem
abbrev wc:=@List.drop_of_length_le
abbrev wd:=@Bool.true_and
abbrev wi:=@List.drop_eq_getElem_cons
abbrev wl:=@List.length_replicate
abbrev wn:=@Bool.and_eq_false_iff
abbrev wp:=@List.map_cons
abbrev wt:=@Bool.or_eq_false_iff
abbrev ww:=@Nat.le_add_right
abbrev wx:=@List.map_append
abbrev wy:=@List.mem_of_mem_take
abbrev xa:=@List.ext_getElem?
abbrev xc:=@List.getElem?_map
abbrev xf:=@Nat.mul_one
abbrev xi:=@Nat.lt_of_le_of_lt
abbrev xj:=@Bool.false_eq_true
abbrev xl:=@Int.eq_ofNat_of_zero_le
abbrev xn:=@Option.map_eq_some_iff
abbrev xp:=@Bool.eq_iff_iff
abbrev xr:=@Nat.min_eq_left
abbrev xx:=@Nat.sub_self
abbrev xC:=@List.take_append_drop
abbrev x8:=@List.drop_drop
abbrev yi:=@List.getElem_mem
abbrev yn:=@List.append_assoc
abbrev yr:=@Nat.lt_succ_of_lt
abbrev At:=@Nat.add_assoc
abbrev AC:=@Bool.and_true
abbrev A1:=@Bool.false_and
abbrev A3:=@Nat.pos_of_ne_zero
abbrev Bo:=@Nat.testBit_two_pow_mul_add
abbrev BT:=@Nat.add_sub_cancel_left
abbrev Cl:=@List.mem_append_left
abbrev Co:=@Nat.blt_eq
abbrev CS:=@List.mem_cons
abbrev Do:=@Nat.add_mul
abbrev D4:=@List.foldl_append
abbrev EQ:=@Nat.le_succ_of_le
abbrev Fd:=@List.mem_or_eq_of_mem_set
abbrev Fr:=@List.mem_append_right
abbrev FX:=@List.drop_append_of_le_length
abbrev GE:=@List.all_eq_true
abbrev GT:=@List.cons_append
abbrev G7:=@List.length_drop
abbrev Hc:=@Nat.le_succ
abbrev Hd:=@Bool.not_true
abbrev Hk:=@Nat.pow_le_pow_right
abbrev Hm:=@List.filter_congr
abbrev Hn:=@Bool.not_eq_true'
abbrev HG:=@List.any_append
abbrev HO:=@List.nil_append
abbrev HR:=@List.toList_toArray
abbrev Id:=@Nat.lt_or_ge
abbrev If:=@Bool.false_or
abbrev In:=@List.filter_cons
abbrev Ix:=@List.filter_append
abbrev IH:=@Bool.and_false
abbrev IR:=@List.getElem?_zipWith
abbrev I0:=@Bool.not_false
abbrev J0:=@Nat.zero_mul
abbrev Kd:=@List.all_append
abbrev K1:=@Nat.testBit_and
abbrev K2:=@Nat.mul_le_mul_right
abbrev LE:=@List.filter_cons_of_neg
abbrev LT:=@Nat.mul_le_mul_left
abbrev M2:=@Array.toList_append
abbrev Nm:=@List.take_succ_cons
abbrev NE:=@List.not_mem_nil
abbrev Ok:=@List.take_zero
abbrev Pi:=@List.nodup_cons
abbrev Ps:=@Option.map_some
abbrev PH:=@List.range_succ
abbrev PP:=@List.length_filter_le
abbrev PQ:=@Array.getElem?_modify
abbrev P1:=@List.getElem?_set
abbrev P2:=@List.all_eq_false
abbrev Qh:=@List.take_add_one
abbrev QP:=@Int.toNat_natCast
abbrev QQ:=@List.getElem?_set_ne
abbrev QR:=@Nat.eq_of_testBit_eq
abbrev R0:=@Nat.mul_le_mul
abbrev So:=@Bool.true_or
abbrev Sp:=@List.drop_length
abbrev Sx:=@Nat.add_zero
abbrev SG:=@List.flatMap_nil
abbrev ST:=@List.filter_cons_of_pos
abbrev SW:=@Bool.and_self
abbrev S4:=@List.mem_append
abbrev UV:=@List.eq_nil_iff_forall_not_mem
abbrev VC:=@List.mem_singleton
abbrev VH:=@List.foldl_cons
abbrev V2:=@List.getElem?_set_self
abbrev WB:=@List.nodup_append
abbrev WC:=@List.length_singleton
abbrev WP:=@List.drop_take
abbrev Xs:=@List.take_take
abbrev Ys:=@List.map_set
end Go.A
end
