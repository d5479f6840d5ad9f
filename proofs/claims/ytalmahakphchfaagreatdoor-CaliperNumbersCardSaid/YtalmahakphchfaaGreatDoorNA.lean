/- The machine: its heap, its operations, its runs, how it is made out of code; nothing of a law. -/
import Derived.CallsIn
import GoSem.Core.Region
import Derived.Lib.Join
set_option linter.all false
namespace Go.A
def UNK:Nat:=4611686018427387904
def aT{α:Type}:List α->Nat->Option α
 |[],_=>none
 |x::_,0=>some x
 |_::l,i+1=>aT l i
def qD{α:Type}:List α->Nat->α->List α
 |[],_,_=>[]
 |_::l,0,y=>y::l
 |x::l,i+1,y=>x::qD l i y
def bB{α:Type}:Nat->List α->List α
 |0,_=>[]
 |_+1,[]=>[]
 |n+1,x::l=>x::bB n l
def bA{α:Type}:Nat->List α->List α
 |0,l=>l
 |_+1,[]=>[]
 |n+1,_::l=>bA n l
def bZ{α:Type}:List α->Nat->List α->List α
 |l,_,[]=>l
 |l,i,y::ys=>bZ (qD l i y) (i+1) ys
def aL{α:Type}:Nat->α->List α
 |0,_=>[]
 |n+1,x=>x::aL n x
def fB:List Nat->Nat->Bool
 |[],_=>false
 |x::l,n=>bif Nat.beq x n then true else fB l n
def dP{α:Type}:List α->List α->List α
 |[],m=>m
 |x::l,m=>x::dP l m
def fR{α:Type}:Nat->List α->List α
 |0,_=>[]
 |n+1,z=>dP z (fR n z)
abbrev Env:=List (Nat×Value)
def geT:Env->Nat->Option Value
 |[],_=>none
 |(k,v)::e,t=>bif Nat.beq k t then some v else geT e t
def cE(e:Env):List Nat->Env
 |[]=>[]
 |t::ts=>match geT e t with
  |some v=>(t,v)::cE e ts
  |none=>cE e ts
inductive dN
 |b|i (k:IntKind)|s
 deriving Repr,DecidableEq,Inhabited
inductive Cv
 |int (k:IntKind)|same|toBytes|toStr|Ru
 deriving Repr,Inhabited
inductive NK
 |ptr|sl|map|func|iface
 deriving Repr,DecidableEq,Inhabited
inductive Bl
 |num (op:BinOp)
 |beq (neq:Bool)
 |nil (k:NK) (neq:Bool)
 |agg (neq:Bool) (ls:List dN)
 deriving Inhabited
inductive ASl
 |str|sl (size:Nat)|arr (n size:Nat)
 deriving Inhabited
inductive AOp
 |mov (x:Operand)
 |pick (c a b:Operand)
 |new (zero:List Value)
 |box (v:Operand)
 |build (zero:List Value) (parts:List (Nat×Nat×Operand))
 |dh (zero:List Value) (len:Nat) (parts:List (Nat×Nat×Operand))
 |load (n:Option Nat) (a:Operand)
 |store (n:Nat) (a v:Operand)
 |bC (x:Operand)
 |bin (op:Bl) (x y:Operand)
 |un (op:UnOp) (x:Operand)
 |conv (c:Cv) (x:Operand)
 |ia (t:TypeId) (x:Operand)
 |dU (fn:Fn) (first captured:List Operand)
 |mkMap
 |mkSlice (zero:List Value) (bytes:Nat) (len cap:Operand)
 |slice (k:ASl) (x:Operand) (lo hi mx:Option Operand)
 |bF (off:Nat) (x:Operand)
 |field (off:Nat) (n:Option Nat) (x:Operand)
 |bI (len size:Nat) (x i:Operand)
 |aH (size:Nat) (x i:Operand)
 |rW (len size:Nat) (n:Option Nat) (x i:Operand)
 |tv (x i:Operand)
 |lookup (ag:Bool) (ls:List dN) (zero:Value) (commaOk:Bool) (m k:Operand)
 |iE (ag:Bool) (ls:List dN) (m k v:Operand)
 |jM (asserted:TypeId) (commaOk:Bool) (zero:Value) (x:Operand)
 |extract (t:Operand) (i:Nat)
 |call (f:Operand) (args:List Operand)
 |len (k:Nat) (x:Operand)
 |jA (n:Nat)
 |cap (x:Operand)
 |append (size bytes:Nat) (s x:Operand)
 |jG (zero:List Value) (bytes:Nat) (s n:Operand)
 |copy (size:Nat) (d s:Operand)
 |clear (z:List Value) (x:Operand)
 |dK (max:Bool) (args:List Operand)
 |delete (ag:Bool) (ls:List dN) (m k:Operand)
 |jv (f:Operand) (args:List Operand)
 |recover
 |sg (x:Operand)
 |range (x:Operand)
 |next (x:Operand) (str:Bool)
 |lU (x:Operand)
 |entry (x:Operand)
 deriving Inhabited
structure bg where
 dst:Option Nat
 op:AOp
 guard:Option (Nat×Bool)
 deriving Inhabited
inductive aQ
 |skip
 |region (ops:List bg) (keep:List Nat)
 |draw (ops:List bg) (order:List Nat) (before:List Nat) (keep:List Nat)
 |seq (a b:aQ)
 |cond (c:Operand) (a b:aQ)
 |block (id:Nat) (b:aQ)
 |loop (b:aQ)
 |scope (b:aQ)
 |rangeFunc (f:Operand) (params:List Nat) (assign body:aQ)
 |rangeMap (ops:List bg) (it:Nat) (x:Operand) (keep:List Nat) (out nxt pr:Nat) (ops2:List bg) (keep2:List Nat) (body:aQ)
 |exit (id:Nat)
 |ret
 deriving Inhabited
inductive br
 |normal|exit (id:Nat)|ret|panic (v:Value)
 deriving Inhabited
inductive bO
 |cells (vs:List Value) (own:Bool) (sz:Nat)
 |map (es:List (Value×Value))
 |tw (es:List (Value×Value))
 |loop (env:Env) (params:List Nat) (assign body:aQ) (st:Nat) (ic:br)
 |j7 (s:ByteArray) (pos:Nat)
 |dead
 deriving Inhabited
structure Heap where
 b8:List (Nat×bO)
 next:Nat
 log:List Nat
 deriving Inhabited
inductive af
 |code (c:aQ) (results:List (Nat×Option (Option Nat)))
 |mQ (p:List Value->Heap->Option (Value×Heap))
 deriving Inhabited
def eZ:List (Nat×bO)->Nat->Option bO
 |[],_=>none
 |(k,o)::l,b=>bif Nat.beq k b then some o else eZ l b
def iA:List (Nat×bO)->Nat->bO->List (Nat×bO)
 |[],_,_=>[]
 |(k,o)::l,b,o'=>bif Nat.beq k b then(k,o')::l else(k,o)::iA l b o'
def Heap.get(h:Heap)(b:Nat):Option bO:=eZ h.b8 b
def uD:Option bO->Option (List (Value×Value))
 |some (.map es)=>some es
 |some (.tw es)=>some es
 |_=>none
def Heap.push(h:Heap)(o:bO):Heap:={h with b8:=(h.next,o)::h.b8,next:=h.next+1}
def Heap.wr(h:Heap)(base b:Nat)(o:bO):Heap:=
 {h with b8:=iA h.b8 b o,log:=bif Nat.blt b base then(bif fB h.log b then h.log else b::h.log)else h.log}
def ji:Value->Bool
 | .bool _| .int _ _| .float _ _| .complex _ _ _| .string _| .nilFunc| .nilIface=>true
 | .pointer none| .slice none _ _| .map none| .chan none=>true
 | .func (.func _) f c=>Nat.beq f.toList.length 0&&Nat.beq c.toList.length 0
 |_=>false
def jV:Value->Bool
 | .iface _ v=>ji v
 |v=>ji v
def cU:List Value->Bool
 |[]=>true
 |v::l=>bif jV v then cU l else false
def flat:Value->Bool
 | .agg cs=>cU cs.toList
 | .iface _ (.agg cs)=>cU cs.toList
 |v=>jV v
def iP:List Value->Bool
 |[]=>true
 |v::l=>bif flat v then iP l else false
def cT:Value->Bool
 | .tuple cs=>iP cs.toList
 |v=>flat v
def cellsOf:Value->List Value
 | .agg cs=>cs.toList
 |v=>[v]
def bK{α:Type}:List α->Nat
 |[]=>0
 |_::l=>bK l+1
def fG(k:IntKind)(n:Int):Int:=
 match n with
 | .ofNat m=>bif Nat.blt m (match k with| .i8=>128| .i16=>32768| .i32=>2147483648| .i64=>9223372036854775808| .u8=>256| .u16=>65536| .u32=>4294967296| .u64=>18446744073709551616)then n else k.wrap n
 | .negSucc m=>bif Nat.blt m (match k with| .i8=>128| .i16=>32768| .i32=>2147483648| .i64=>9223372036854775808|_=>0)then n else k.wrap n
def iy:dN->Value->Value->Option Bool
 | .b, .bool a, .bool b=>some (a==b)
 | .i q, .int k a, .int k' b=>if k=q then if k'=q then some (a==b)else none else none
 | .s, .string a, .string b=>some (a.toList==b.toList)
 |_,_,_=>none
def bG:List dN->List Value->List Value->Option Bool
 |[],[],[]=>some true
 |l::ls,x::xs,y::ys=>match iy l x y with
  |some true=>bG ls xs ys
  |some false=>match bG ls xs ys with
   |some _=>some false
   |none=>none
  |none=>none
 |_,_,_=>none
def pL:Value->Bool
 | .agg _=>true
 |_=>false
def iQ(ag:Bool)(ls:List dN)(k:Value):Bool:=
 match pL k==ag,bG ls (cellsOf k) (cellsOf k)with
 |true,some _=>true
 |_,_=>false
def lZ(ag:Bool)(ls:List dN)(k k':Value):Option Bool:=
 match pL k'==ag with
 |true=>bG ls (cellsOf k) (cellsOf k')
 |false=>none
def gP:NK->Value->Option Bool
 | .ptr, .pointer none=>some true
 | .ptr, .pointer (some _)=>some false
 | .sl, .slice none _ _=>some true
 | .sl, .slice (some _) _ _=>some false
 | .map, .map none=>some true
 | .map, .map (some _)=>some false
 | .func, .nilFunc=>some true
 | .func, .func _ _ _=>some false
 | .iface, .nilIface=>some true
 | .iface, .iface _ _=>some false
 |_,_=>none
def pe(k:NK)(x y:Value):Option Bool:=
 match gP k x,gP k y with
 |some true,some b=>some b
 |some false,some true=>some false
 |_,_=>none
def lP(op:BinOp)(x y:Int):Option Value:=
 match op with
 | .eql=>some (.bool (x==y))
 | .neq=>some (.bool (x !=y))
 | .lss=>some (.bool (decide (x<y)))
 | .leq=>some (.bool (decide (x<=y)))
 | .gtr=>some (.bool (decide (x>y)))
 | .geq=>some (.bool (decide (x≥y)))
 |_=>none
def mC(op:BinOp)(k:IntKind)(x y:Int):Option Value:=
 let slow:Option Value:=
  let a:=BitVec.ofInt k.bits x;let b:=BitVec.ofInt k.bits y
  match op with
  | .and=>some (.int k (k.wrap (a&&&b).toNat))
  | .or=>some (.int k (k.wrap (a|||b).toNat))
  | .xor=>some (.int k (k.wrap (a ^^^ b).toNat))
  | .andNot=>some (.int k (k.wrap (a&&& ~~~b).toNat))
  |_=>none
 match k,x,y with
 | .u64, .ofNat a, .ofNat b=>bif Nat.blt a 18446744073709551616&&Nat.blt b 18446744073709551616 then
  match op with
  | .and=>some (.int .u64 (.ofNat (Nat.land a b)))
  | .or=>some (.int .u64 (.ofNat (Nat.lor a b)))
  | .xor=>some (.int .u64 (.ofNat (Nat.xor a b)))
  | .andNot=>some (.int .u64 (.ofNat (Nat.xor a (Nat.land a b))))
  |_=>none
   else slow
 |_,_,_=>slow
def arith(op:BinOp)(k:IntKind)(x y:Int):Option Value:=
 match op with
 | .add=>some (.int k (fG k (x+y)))
 | .sub=>some (.int k (fG k (x-y)))
 | .mul=>some (.int k (fG k (x*y)))
 | .quo=>if y=0 then none else some (.int k (fG k (x.tdiv y)))
 | .rem=>if y=0 then none else some (.int k (x.tmod y))
 | .and| .or| .xor| .andNot=>mC op k x y
 |_=>lP op x y
def mT(op:BinOp)(k:IntKind)(x y:Int):Option Value:=
 match y with
 | .negSucc _=>none
 | .ofNat n=>match op with
   | .shl=>match k,x with
     | .u64, .ofNat a=>some (.int .u64 (.ofNat (Nat.mod (Nat.shiftLeft a (Nat.min n 64)) 18446744073709551616)))
     |_,_=>some (.int k (k.wrap (x*2 ^ (min n k.bits))))
   | .shr=>match k,x with
     | .u64, .ofNat a=>some (.int .u64 (.ofNat (Nat.shiftRight a (Nat.min n 64))))
     |_,_=>some (.int k (x.fdiv (2 ^ (min n k.bits))))
   |_=>none
def Bd(op:BinOp)(x y:ByteArray):Option Value:=
 match op with
 | .add=>bif Nat.blt (x.size+y.size) 9223372036854775808 then some (.string (x++y))else none
 | .eql=>some (.bool (x.toList==y.toList))
 | .neq=>some (.bool !(x.toList==y.toList))
 | .lss=>some (.bool (Op.bytesLess x.toList y.toList))
 | .leq=>some (.bool (Op.bytesLess x.toList y.toList||x.toList==y.toList))
 | .gtr=>some (.bool !(Op.bytesLess x.toList y.toList||x.toList==y.toList))
 | .geq=>some (.bool !(Op.bytesLess x.toList y.toList))
 |_=>none
def ah(op:BinOp)(x y:Value):Option Value:=
 match op,x,y with
 | .shl, .int k a, .int _ b=>mT .shl k a b
 | .shr, .int k a, .int _ b=>mT .shr k a b
 |op, .int k a, .int k' b=>if k=k' then arith op k a b else none
 |op, .string a, .string b=>Bd op a b
 |_,_,_=>none
def ry(op:UnOp)(x:Value):Option Value:=
 match op,x with
 | .neg, .int k n=>some (.int k (fG k (0-n)))
 | .xor, .int .u64 (.ofNat n)=>bif Nat.blt n 18446744073709551616 then some (.int .u64 (.ofNat (18446744073709551615-n)))else none
 | .not, .bool b=>some (.bool !b)
 |_,_=>none
def ev(h:Heap)(e:Env):Operand->Option Value
 | .tmp t=>geT e t
 | .const v=>some v
 | .global g=>match h.get g with
   |some _=>some (.pointer (some ⟨g,0,none⟩))
   |none=>none
 | .func f=>some (.func (.func f) #[] #[])
def evs(h:Heap)(e:Env):List Operand->Option (List Value)
 |[]=>some []
 |x::xs=>match ev h e x with
  |some v=>match evs h e xs with
   |some vs=>some (v::vs)
   |none=>none
  |none=>none
def iO(h:Heap)(e:Env)(z:List Value):List (Nat×Nat×Operand)->Option (List Value)
 |[]=>some z
 |(off,size,x)::ps=>match ev h e x with
  |some v=>bif Nat.beq (bK (cellsOf v)) size&&Nat.ble (off+size) (bK z)then iO h e (bZ z off (cellsOf v)) ps else none
  |none=>none
inductive cN
 |val (v:Value) (h:Heap)
 |call (fn:Fn) (args:List Value) (h:Heap)
 |jv (f:Value) (args:List Value)
 |panic (v:Value) (h:Heap)
 |recover
 deriving Inhabited
def cK:List Value->Bool
 |[]=>true
 | .agg _::_=>false
 | .tuple _::_=>false
 |_::l=>cK l
def nT(h:Heap)(n:Option Nat):Value->Option Value
 | .pointer (some ⟨b,o,none⟩)=>match h.get b with
   |some (.cells vs _ _)=>match n with
    |none=>aT vs o
    |some n=>let l:=bB n (bA o vs);bif Nat.beq (bK l) n then some (.agg l.toArray)else none
   |_=>none
 |_=>none
def pW(h:Heap)(base n:Nat)(v:Value):Value->Option Heap
 | .pointer (some ⟨b,o,none⟩)=>match h.get b with
   |some (.cells vs true sz)=>bif Nat.beq (bK (cellsOf v)) n&&Nat.ble (o+n) (bK vs)&&cK (cellsOf v)then some (h.wr base b (.cells (bZ vs o (cellsOf v)) true sz))else none
   |_=>none
 |_=>none
def nV:Value->Option Nat
 | .int _ (.ofNat n)=>some n
 |_=>none
def bnd(h:Heap)(e:Env)(dflt:Nat):Option Operand->Option Nat
 |none=>some dflt
 |some x=>match ev h e x with
  |some v=>nV v
  |none=>none
def jL(h:Heap)(e:Env)(size:Nat)(a:Option Addr)(len cap:Nat)(lo hi mx:Option Operand):Option (Value×Heap):=
 match bnd h e 0 lo,bnd h e len hi with
 |some l,some u=>
  match mx with
  |some _=>match bnd h e 0 mx with
   |some m=>bif Nat.ble l u&&Nat.ble u m&&Nat.ble m (bif Nat.beq cap UNK then len else cap)&&Nat.blt m UNK then
    some (.slice (bif Nat.beq m l then a else match a with|some ⟨b,o,none⟩=>some ⟨b,o+l*size,none⟩|a=>a) (u-l) (m-l),h)
    else none
   |none=>none
  |none=>
   bif Nat.beq cap UNK then
    match a with
    |some ⟨b,o,none⟩=>match h.get b with
     |some (.cells vs _ sz)=>
      bif Nat.beq sz size&&Nat.ble l u&&(Nat.ble u len||Nat.ble (o+u*size) (bK vs))then
       bif Nat.blt l len||Nat.blt l u then some (.slice (some ⟨b,o+l*size,none⟩) (u-l) UNK,h)
       else bif Nat.beq l 0 then some (.slice (some ⟨b,o,none⟩) 0 UNK,h)
       else some (.slice (some ⟨h.next,0,none⟩) 0 UNK,h.push (.cells [] false size))
      else none
     |_=>none
    |_=>none
   else bif Nat.ble l u&&Nat.ble u cap then
    some (.slice (bif Nat.beq cap l then a else match a with|some ⟨b,o,none⟩=>some ⟨b,o+l*size,none⟩|a=>a) (u-l) (cap-l),h)
    else none
 |_,_=>none
def fE(h:Heap)(size:Nat):Value->Option (List Value×Nat)
 | .slice none n _=>bif Nat.beq n 0 then some ([],0)else none
 | .slice (some ⟨b,o,none⟩) n _=>match h.get b with
   |some (.cells vs _ _)=>let l:=bB (n*size) (bA o vs);bif Nat.beq (bK l) (n*size)then some (l,n)else none
   |_=>none
 | .slice (some ⟨_,_,some _⟩) n _=>bif Nat.beq n 0 then some ([],0)else none
 | .string s=>bif Nat.beq size 1 then some (s.data.toList.map λb=> .int .u8 b.toNat,s.size)else none
 |_=>none
def jF(h:Heap)(base size bytes:Nat)(s:Value)(new:List Value)(n:Nat):Option (Value×Heap):=
 match s with
 | .slice a len cap=>
   bif Nat.beq n 0 then(bif Nat.ble len cap then some (s,h)else none)else
   bif Nat.ble ((2*(len+n)+768)*bytes) 281474976710656 then
    match a with
    |none=>bif Nat.beq len 0&&Nat.beq cap 0 then some (.slice (some ⟨h.next,0,none⟩) n UNK,h.push (.cells new true size))else none
    |some ⟨b,o,none⟩=>match h.get b with
     |some (.cells vs own sz)=>
      bif Nat.beq cap UNK then
       bif own&&Nat.beq sz size then
        bif Nat.ble (o+(len+n)*size) (bK vs)&&cK new then
         some (.slice (some ⟨b,o,none⟩) (len+n) UNK,h.wr base b (.cells (bZ vs (o+len*size) new) true sz))
        else bif Nat.beq o 0&&Nat.beq (len*size) (bK vs)&&cK new then
         some (.slice (some ⟨h.next,0,none⟩) (len+n) UNK,(h.wr base b .dead).push (.cells (dP vs new) true size))
        else none
       else none
      else bif Nat.ble (len+n) cap then
       bif own&&Nat.ble (o+(len+n)*size) (bK vs)&&cK new then
        some (.slice (some ⟨b,o,none⟩) (len+n) cap,h.wr base b (.cells (bZ vs (o+len*size) new) true sz))
       else none
      else bif Nat.ble (o+len*size) (bK vs)then
       some (.slice (some ⟨h.next,0,none⟩) (len+n) UNK,h.push (.cells (dP (bB (len*size) (bA o vs)) new) true size))
      else none
     |_=>none
    |_=>none
   else none
 |_=>none
def jq(ag:Bool)(ls:List dN)(k:Value):Nat->List (Value×Value)->Option (Option (Nat×Value))
 |_,[]=>some none
 |i,(k',v)::es=>match lZ ag ls k k' with
  |some true=>some (some (i,v))
  |some false=>jq ag ls k (i+1) es
  |none=>none
def Ar{α:Type}:List α->Nat->List α
 |[],_=>[]
 |_::l,0=>l
 |x::l,i+1=>x::Ar l i
def mmA(mx:Bool)(x:Value):List Value->Option Value
 |[]=>some x
 |y::l=>match x,y with
  | .int k a, .int k' b=>if k=k' then mmA mx (.int k (if mx then(if b>a then b else a)else(if b<a then b else a))) l else none
  |_,_=>none
def bytesOf:List Value->Option (List UInt8)
 |[]=>some []
 | .int .u8 (.ofNat n)::l=>match bytesOf l with
   |some bs=>some (UInt8.ofNat n::bs)
   |none=>none
 |_=>none
def o7(h:Heap)(c:Cv)(x:Value):Option (Value×Heap):=
 match c,x with
 | .int k, .int _ n=>some (.int k (fG k n),h)
 | .same, .string s=>some (.string s,h)
 | .toStr, .slice a n c=>match fE h 1 (.slice a n c)with
   |some (l,_)=>match bytesOf l with
    |some bs=>some (.string ⟨bs.toArray⟩,h)
    |none=>none
   |none=>none
 | .toBytes, .string s=>some (.slice (some ⟨h.next,0,none⟩) s.size UNK,h.push (.cells (s.data.toList.map λb=> .int .u8 b.toNat) true 1))
 |_,_=>none
def cM{α:Type}(x:Option Value)(k:Value->Option α):Option α:=
 match x with
 |some v=>k v
 |none=>none
def gV(x:Option (Value×Heap)):Option cN:=
 match x with
 |some (v,h)=>some (.val v h)
 |none=>none
def nO(f:Value)(args:List Value)(h:Heap):Option cN:=
 match f with
 | .func (.func g) first cap=>some (.call (.func g) (dP first.toList (dP args cap.toList)) h)
 | .func (.yield l) first cap=>match cap.toList with
   |[]=>some (.call (.yield l) (dP first.toList args) h)
   |_::_=>none
 |_=>none
def aop(h:Heap)(base:Nat)(e:Env):AOp->Option cN
 | .mov x=>cM (ev h e x) λv=>some (.val v h)
 | .pick c a b=>match ev h e c with
   |some (.bool true)=>cM (ev h e a) λv=>some (.val v h)
   |some (.bool false)=>cM (ev h e b) λv=>some (.val v h)
   |_=>none
 | .new z=>some (.val (.pointer (some ⟨h.next,0,none⟩)) (h.push (.cells z true 1)))
 | .box x=>cM (ev h e x) λv=>some (.val (.pointer (some ⟨h.next,0,none⟩)) (h.push (.cells (cellsOf v) true 1)))
 | .build z ps=>match iO h e z ps with
   |some cs=>some (.val (.agg cs.toArray) h)
   |none=>none
 | .dh z n ps=>match iO h e (fR n z) ps with
   |some cs=>some (.val (.slice (some ⟨h.next,0,none⟩) n n) (h.push (.cells cs true (bK z))))
   |none=>none
 | .load n a=>cM (ev h e a) λa=>cM (nT h n a) λv=>some (.val v h)
 | .store n a v=>cM (ev h e a) fun a=>cM (ev h e v) fun v=>match pW h base n v a with
   |some h'=>some (.val (.tuple #[]) h')
   |none=>none
 | .bC x=>cM (ev h e x) fun v=>match v with
   | .pointer none| .nilIface| .nilFunc=>none
   | .func (.method _) _ _=>none
   |v=>some (.val v h)
 | .bin (.num op) x y=>cM (ev h e x) λx=>cM (ev h e y) λy=>cM (ah op x y) λv=>some (.val v h)
 | .bin (.beq neq) x y=>match ev h e x,ev h e y with
   |some (.bool a),some (.bool b)=>some (.val (.bool (bif neq then !(a==b)else a==b)) h)
   |_,_=>none
 | .bin (.nil k neq) x y=>cM (ev h e x) fun x=>cM (ev h e y) fun y=>match pe k x y with
   |some b=>some (.val (.bool (bif neq then !b else b)) h)
   |none=>none
 | .bin (.agg neq ls) x y=>cM (ev h e x) fun x=>cM (ev h e y) fun y=>match x,y with
   | .agg xs, .agg ys=>match bG ls xs.toList ys.toList with
     |some b=>some (.val (.bool (bif neq then !b else b)) h)
     |none=>none
   |_,_=>none
 | .un op x=>cM (ev h e x) λx=>cM (ry op x) λv=>some (.val v h)
 | .conv c x=>cM (ev h e x) λx=>gV (o7 h c x)
 | .ia t x=>cM (ev h e x) λv=>some (.val (.iface t v) h)
 | .dU fn fs cs=>match evs h e fs,evs h e cs with
   |some fs,some cs=>some (.val (.func fn fs.toArray cs.toArray) h)
   |_,_=>none
 | .mkMap=>some (.val (.map (some h.next)) (h.push (.map [])))
 | .mkSlice z bytes l c=>match ev h e l,ev h e c with
   |some l,some c=>match nV l,nV c with
    |some l,some c=>bif Nat.ble l c&&Nat.ble (bytes*c) 281474976710656&&Nat.blt c UNK then
     some (.val (.slice (some ⟨h.next,0,none⟩) l c) (h.push (.cells (fR c z) true (bK z))))
     else none
    |_,_=>none
   |_,_=>none
 | .slice .str x lo hi none=>match ev h e x with
   |some (.string s)=>match bnd h e 0 lo,bnd h e s.size hi with
    |some l,some u=>bif Nat.ble l u&&Nat.ble u s.size then some (.val (.string (s.extract l u)) h)else none
    |_,_=>none
   |_=>none
 | .slice (.sl size) x lo hi mx=>match ev h e x with
   |some (.slice a len cap)=>gV (jL h e size a len cap lo hi mx)
   |_=>none
 | .slice (.arr n size) x lo hi mx=>match ev h e x with
   |some (.pointer (some a))=>gV (jL h e size (some a) n n lo hi mx)
   |_=>none
 | .slice .str _ _ _ (some _)=>none
 | .bF off x=>match ev h e x with
   |some (.pointer (some ⟨b,o,none⟩))=>some (.val (.pointer (some ⟨b,o+off,none⟩)) h)
   |_=>none
 | .field off n x=>match ev h e x with
   |some (.agg cs)=>match n with
    |none=>cM (aT cs.toList off) λv=>some (.val v h)
    |some n=>let l:=bB n (bA off cs.toList);bif Nat.beq (bK l) n then some (.val (.agg l.toArray) h)else none
   |_=>none
 | .bI len size x i=>match ev h e x,ev h e i with
   |some (.pointer (some ⟨b,o,none⟩)),some (.int _ (.ofNat i))=>bif Nat.blt i len then some (.val (.pointer (some ⟨b,o+i*size,none⟩)) h)else none
   |_,_=>none
 | .aH size x i=>match ev h e x,ev h e i with
   |some (.slice (some ⟨b,o,none⟩) len _),some (.int _ (.ofNat i))=>bif Nat.blt i len then some (.val (.pointer (some ⟨b,o+i*size,none⟩)) h)else none
   |_,_=>none
 | .rW len size n x i=>match ev h e x,ev h e i with
   |some (.agg cs),some (.int _ (.ofNat i))=>bif Nat.blt i len then
    match n with
    |none=>cM (aT cs.toList (i*size)) λv=>some (.val v h)
    |some n=>let l:=bB n (bA (i*size) cs.toList);bif Nat.beq (bK l) n then some (.val (.agg l.toArray) h)else none
    else none
   |_,_=>none
 | .tv x i=>match ev h e x,ev h e i with
   |some (.string s),some (.int _ (.ofNat i))=>match aT s.data.toList i with
    |some b=>some (.val (.int .u8 b.toNat) h)
    |none=>none
   |_,_=>none
 | .lookup ag ls z ok m k=>match ev h e m,ev h e k with
   |some (.map none),some k=>bif iQ ag ls k then some (.val (bif ok then .tuple #[z, .bool false]else z) h)else none
   |some (.map (some r)),some k=>match uD (h.get r)with
    |some es=>bif iQ ag ls k then match jq ag ls k 0 es with
     |some (some (_,v))=>some (.val (bif ok then .tuple #[v, .bool true]else v) h)
     |some none=>some (.val (bif ok then .tuple #[z, .bool false]else z) h)
     |none=>none else none
    |none=>none
   |_,_=>none
 | .iE ag ls m k v=>match ev h e m,ev h e k,ev h e v with
   |some (.map (some r)),some k,some v=>match h.get r with
    |some (.map es)=>bif iQ ag ls k then match jq ag ls k 0 es with
     |some (some (i,_))=>some (.val (.tuple #[]) (h.wr base r (.map (qD es i (k,v)))))
     |some none=>some (.val (.tuple #[]) (h.wr base r (.map (dP es [(k,v)]))))
     |none=>none else none
    |_=>none
   |_,_,_=>none
 | .jM t ok z x=>match ev h e x with
   |some .nilIface=>bif ok then some (.val (.tuple #[z, .bool false]) h)else none
   |some (.iface t' v)=>if t'=t then some (.val (bif ok then .tuple #[v, .bool true]else v) h)
    else bif ok then some (.val (.tuple #[z, .bool false]) h)else none
   |_=>none
 | .extract t i=>match ev h e t with
   |some (.tuple vs)=>cM (aT vs.toList i) λv=>some (.val v h)
   |_=>none
 | .call f args=>match ev h e f,evs h e args with
   |some f,some args=>nO f args h
   |_,_=>none
 | .len 0 x=>match ev h e x with
   |some (.string s)=>some (.val (.int .i64 s.size) h)
   |_=>none
 | .len 1 x=>match ev h e x with
   |some (.slice _ n _)=>some (.val (.int .i64 n) h)
   |_=>none
 | .len _ x=>match ev h e x with
   |some (.map none)=>some (.val (.int .i64 0) h)
   |some (.map (some r))=>match uD (h.get r)with
    |some es=>some (.val (.int .i64 (bK es)) h)
    |none=>none
   |_=>none
 | .jA n=>some (.val (.int .i64 n) h)
 | .cap x=>match ev h e x with
   |some (.slice _ _ c)=>bif Nat.beq c UNK then none else some (.val (.int .i64 c) h)
   |_=>none
 | .append size bytes s x=>match ev h e s,ev h e x with
   |some s,some x=>match fE h size x with
    |some (l,n)=>gV (jF h base size bytes s l n)
    |none=>none
   |_,_=>none
 | .jG z bytes s n=>match ev h e s,ev h e n with
   |some s,some n=>match nV n with
    |some n=>bif Nat.blt n 9223372036854775808&&Nat.ble (n*bytes) 281474976710656 then gV (jF h base (bK z) bytes s (fR n z) n)else none
    |none=>none
   |_,_=>none
 | .copy size d s=>match ev h e d,ev h e s with
   |some (.slice a dl _),some s=>match fE h size s with
    |some (l,n)=>
     let m:=Nat.min n dl
     match a with
     |none=>some (.val (.int .i64 m) h)
     |some ⟨b,o,none⟩=>match h.get b with
      |some (.cells vs true sz)=>bif Nat.ble (o+m*size) (bK vs)&&cK (bB (m*size) l)then
       some (.val (.int .i64 m) (h.wr base b (.cells (bZ vs o (bB (m*size) l)) true sz)))
       else none
      |_=>none
     |_=>none
    |none=>none
   |_,_=>none
 | .clear z x=>match ev h e x with
   |some (.slice a n _)=>
    bif Nat.beq n 0 then some (.val (.tuple #[]) h)else
    match a with
    |none=>some (.val (.tuple #[]) h)
    |some ⟨b,o,none⟩=>match h.get b with
     |some (.cells vs true sz)=>bif Nat.ble (o+bK (fR n z)) (bK vs)&&cK (fR n z)then some (.val (.tuple #[]) (h.wr base b (.cells (bZ vs o (fR n z)) true sz)))else none
     |_=>none
    |_=>none
   |_=>none
 | .dK mx args=>match evs h e args with
   |some (x::l)=>cM (mmA mx x l) λv=>some (.val v h)
   |_=>none
 | .delete ag ls m k=>match ev h e m,ev h e k with
   |some (.map (some r)),some k=>match h.get r with
    |some (.map es)=>bif iQ ag ls k then match jq ag ls k 0 es with
     |some (some (i,_))=>some (.val (.tuple #[]) (h.wr base r (.map (Ar es i))))
     |some none=>some (.val (.tuple #[]) (h.wr base r (.map es)))
     |none=>none else none
    |_=>none
   |some (.map none),some k=>bif iQ ag ls k then some (.val (.tuple #[]) h)else none
   |_,_=>none
 | .jv f args=>match ev h e f,evs h e args with
   |some (.func (.func g) first cap),some args=>some (.jv (.func (.func g) first cap) args)
   |_,_=>none
 | .recover=>some .recover
 | .sg x=>cM (ev h e x) fun v=>match v with
   | .iface _ _=>some (.panic v h)
   |_=>none
 | .range x=>match ev h e x with
   |some (.string s)=>some (.val (.pointer (some ⟨h.next,0,none⟩)) (h.push (.j7 s 0)))
   |_=>none
 | .next x true=>match ev h e x with
   |some (.pointer (some ⟨r,0,none⟩))=>match h.get r with
    |some (.j7 s pos)=>bif Nat.blt pos s.size then
     let d:=Utf8.decode s pos
     some (.val (.tuple #[.bool true, .int .i64 pos, .int .i32 d.1]) (h.wr base r (.j7 s (pos+d.2))))
     else some (.val (.tuple #[.bool false]) h)
    |_=>none
   |_=>none
 | .next _ false=>none
 | .lU _=>none
 | .entry _=>none
inductive Res
 |ret (v:Value)
 |panic (v:Value)
 deriving Inhabited
def eM:Nat->List Value->Env
 |_,[]=>[]
 |i,v::vs=>(i,v)::eM (i+1) vs
def cC(h:Heap)(e:Env):List (Nat×Option (Option Nat))->Option (List Value)
 |[]=>some []
 |(t,none)::rs=>match geT e t with
  |some v=>match cC h e rs with
   |some vs=>some (v::vs)
   |none=>none
  |none=>none
 |(t,some n)::rs=>match geT e t with
  |some a=>match nT h n a with
   |some v=>match cC h e rs with
    |some vs=>some (v::vs)
    |none=>none
   |none=>none
  |none=>none
def fH:List Value->Value
 |[v]=>v
 |vs=> .tuple vs.toArray
def aF(base:Nat)(l:List Nat):List Nat->List Nat
 |[]=>l
 |b::bs=>aF base (bif Nat.blt b base then(bif fB l b then l else b::l)else l) bs
def gO(h:Heap)(base:Nat):List Nat->Bool
 |[]=>true
 |b::bs=>bif Nat.blt b base then
   match h.get b with
   |some (.cells vs _ _)=>bif cU vs then gO h base bs else false
   |some (.map es)=>bif iP (es.map (·.1))&&iP (es.map (·.2))then gO h base bs else false
   |some .dead=>gO h base bs
   |some (.j7 _ _)=>gO h base bs
   |_=>false
  else gO h base bs
def nM{α:Type}:Nat->List α->List α:=bA
def gcA(h0 h:Heap)(v:Value):Heap:=
 bif cT v&&gO h h0.next h.log then {h with b8:=nM (h.next-h0.next) h.b8,next:=h0.next}else h
def iS(e:Env):List Nat->List Value->Option Env
 |[],[]=>some e
 |t::ts,v::vs=>iS ((t,v)::e) ts vs
 |_,_=>none
def bX(e:Env):Option (Nat×Bool)->Option Bool
 |none=>some true
 |some (t,b)=>match geT e t with
  |some (.bool x)=>some (x==b)
  |some _=>some false
  |none=>none
def cI(e:Env)(d:Option Nat)(v:Value):Env:=
 match d with
 |some t=>(t,v)::e
 |none=>e
def jU:Value->Value->Bool
 | .bool a, .bool b=>a==b
 | .int k a, .int k' b=>k==k'&&a==b
 | .string a, .string b=>a.data.toList==b.data.toList
 | .pointer a, .pointer b=>a==b
 | .slice a l c, .slice b l' c'=>a==b&&l==l'&&c==c'
 | .map a, .map b=>a==b
 | .nilIface, .nilIface=>true
 | .nilFunc, .nilFunc=>true
 | .iface t (.int k a), .iface t' (.int k' b)=>t==t'&&k==k'&&a==b
 |_,_=>false
def jh:List Value->List Value->Bool
 |[],[]=>true
 |x::xs,y::ys=>bif jU x y then jh xs ys else false
 |_,_=>false
def iG:Value->Value->Bool
 | .agg a, .agg b=>jh a.toList b.toList
 | .tuple a, .tuple b=>jh a.toList b.toList
 | .func (.func f) a' a, .func (.func g) b' b=>f==g&&(jh a'.toList b'.toList&&jh a.toList b.toList)
 | .func (.yield f) a' a, .func (.yield g) b' b=>f==g&&(jh a'.toList b'.toList&&jh a.toList b.toList)
 |x,y=>jU x y
def On:Option Operand->List Operand
 |some x=>[x]
 |none=>[]
def cS:AOp->List Operand
 | .mov x| .box x| .load _ x| .bC x| .un _ x| .conv _ x| .ia _ x| .bF _ x| .field _ _ x| .jM _ _ _ x| .extract x _| .len _ x| .cap x| .sg x| .range x| .next x _| .lU x| .entry x| .clear _ x=>[x]
 | .pick c a b=>[c,a,b]
 | .build _ ps| .dh _ _ ps=>ps.map (·.2.2)
 | .store _ a v=>[a,v]
 | .bin _ x y| .bI _ _ x y| .aH _ x y| .rW _ _ _ x y| .tv x y| .mkSlice _ _ x y| .lookup _ _ _ _ x y| .delete _ _ x y| .append _ _ x y| .jG _ _ x y| .copy _ x y=>[x,y]
 | .dU _ fs cs=>dP fs cs
 | .slice _ x lo hi mx=>x::dP (On lo) (dP (On hi) (On mx))
 | .iE _ _ m k v=>[m,k,v]
 | .call f as| .jv f as=>f::as
 | .dK _ as=>as
 | .new _| .mkMap| .jA _| .recover=>[]
def wU:List Operand->List Nat
 |[]=>[]
 | .tmp t::l=>t::wU l
 |_::l=>wU l
def cV(o:bg):List Nat:=
 match o.guard with
 |some (t,_)=>t::wU (cS o.op)
 |none=>wU (cS o.op)
def cF:AOp->Bool
 | .mov _| .pick .. | .build .. | .load .. | .bC _| .bin .. | .un .. | .ia .. | .dU .. | .bF .. | .field .. | .bI .. | .aH .. | .rW .. | .tv .. | .lookup .. | .jM .. | .extract .. | .len .. | .jA _| .cap _| .dK .. =>true
 | .conv .toBytes _=>false
 | .conv _ _=>true
 | .slice .. =>true
 |_=>false
def kV:List Operand->Bool
 |[]=>true
 | .global _::_=>false
 |_::l=>kV l
def dw:AOp->Bool
 | .new _| .mkMap=>true
 | .box x=>kV [x]
 | .mkSlice _ _ l c=>kV [l,c]
 | .dh z n ps=>kV (ps.map (·.2.2))
 |_=>false
def jw(o:AOp):Bool:=cF o||dw o
inductive Rk
 |skip|quiet|made (b:Nat)
structure Rec where
 i:Nat
 o:bg
 e:Env
 v:Value
 k:Rk
def pT(h:Heap)(base:Nat)(r:Rec):Bool:=
 match r.k with
 | .quiet=>match aop h base r.e r.o.op with
   |some (.val v' h2)=>iG r.v v'&&Nat.beq h2.next h.next
   |_=>false
 |_=>true
def mX(h:Heap)(base:Nat):List Rec->Bool
 |[]=>true
 |r::rs=>bif pT h base r then mX h base rs else false
def ET(log:List Nat)(r:Rec):Bool:=
 match r.k with
 | .made b=> !fB log b
 |_=>true
def zO(bf:List Nat)(i:Nat):List Nat->Bool
 |[]=>true
 |j::js=>match aT bf j with
  |some m=>bif Nat.testBit m i then zO bf i js else false
  |none=>false
def bL(h:Heap)(base:Nat)(log:List Nat)(mask:Nat):List Rec->Option (List Rec)
 |[]=>some []
 |r::rs=>bif Nat.testBit mask r.i then bL h base log mask rs else
  bif pT h base r&&ET log r then match bL h base log mask rs with
   |some rs'=>some (r::rs')
   |none=>none
  else none
def og(h:Heap):Option Nat->Bool
 |none=>true
 |some l=>match h.get l with
  |some (.loop _ _ _ _ _ _)=>true
  |_=>false
def notReady:Option bO->Bool
 |some (.loop _ _ _ _ 0 .normal)=>false
 |_=>true
def gT:Option af->Bool
 |some (.code _ _)=>false
 |_=>true
abbrev Dfs:=List (Value×List Value)
def E9(e2:Env):Env->Bool
 |[]=>true
 |(t,v)::e=>match geT e2 t with
  |some v'=>bif iG v v' then E9 e2 e else false
  |none=>false
def yJ(e:Env):Env->Bool
 |[]=>true
 |(t,v)::e2=>bif flat v then yJ e e2 else match geT e t with
  |some v'=>bif iG v v' then yJ e e2 else false
  |none=>false
def vk:Env->Env->Bool
 |[],[]=>true
 |(t,v)::e,(t',v')::e'=>bif Nat.beq t t' then bif iG v v' then vk e e' else false else false
 |_,_=>false
def MQ(nxt:Nat)(e eo:Env)(x:br)(e2:Env)(r:Option (br×Env)):Option (Option (br×Env)):=
 match x with
 | .normal=>bif E9 e2 e then some r else none
 | .panic _=>none
 | .exit i=>bif Nat.beq i nxt then(bif E9 e2 e then some r else none)else
   bif yJ eo e2 then match r with
    |none=>some (some (.exit i,e2))
    |some (.exit j,e3)=>bif Nat.beq i j&&vk e2 e3 then some r else none
    |_=>none
   else none
 | .ret=>bif yJ eo e2 then match r with
  |none=>some (some (.ret,e2))
  |some (.ret,e3)=>bif vk e2 e3 then some r else none
  |_=>none
   else none
def pG(fo:Env->Heap->Option (br×Env×Dfs×Heap))(fe:Env->Heap->Option (br×Env×Dfs×Heap))(nxt pr:Nat)(k2:List Nat)(e eo:Env)(h:Heap):List (Value×Value)->Option (Option (br×Env))
 |[]=>some none
 |(k,v)::es=>match fo ((pr, .tuple #[k,v])::e) h with
  |some (.normal,e1,[],h1)=>match fe (cE e1 k2) h1 with
   |some (x,e2,[],h2)=>match h2.log with
    |[]=>match pG fo fe nxt pr k2 e eo h es with
     |some r=>MQ nxt e eo x e2 r
     |none=>none
    |_::_=>none
   |_=>none
  |_=>none
def Gw(out:Nat)(e0:Env)(h:Heap):Option (Option (br×Env))->Option (br×Env×Dfs×Heap)
 |some none=>some (.normal,e0,[],h)
 |some (some (.exit i,e'))=>bif Nat.beq i out then some (.normal,e',[],h)else some (.exit i,e',[],h)
 |some (some (.ret,e'))=>some (.ret,e',[],h)
 |_=>none
def roM(h:Heap)(m:Nat)(es:List (Value×Value)):Heap:={h with b8:=iA h.b8 m (.tw es),log:=[]}
def itE(it:Nat)(h:Heap)(e:Env):Env:=(it, .pointer (some ⟨h.next,0,none⟩))::e
mutual
def ct(T:Nat->Option af):Nat->Nat->Option Nat->aQ->Env->Dfs->Heap->Option (br×Env×Dfs×Heap)
 |0,_,_,_,_,_,_=>none
 |n+1,base,rnd,c,e,ds,h=>
  match c with
  | .skip=>some (.normal,e,ds,h)
  | .region ops keep=>match gh T n base rnd ops e ds h with
    |some (.normal,e',ds',h')=>some (.normal,cE e' keep,ds',h')
    |r=>r
  | .draw ops order before keep=>match eH T n base ops order before [] e h with
    |some (.normal,e',h')=>some (.normal,cE e' keep,ds,h')
    |some (x,e',h')=>some (x,e',ds,h')
    |none=>none
  | .seq a b=>match ct T n base rnd a e ds h with
    |some (.normal,e',ds',h')=>ct T n base rnd b e' ds' h'
    |r=>r
  | .cond c a b=>match ev h e c with
    |some (.bool true)=>ct T n base rnd a e ds h
    |some (.bool false)=>ct T n base rnd b e ds h
    |_=>none
  | .block id b=>match ct T n base rnd b e ds h with
    |some (.exit i,e',ds',h')=>bif Nat.beq i id then some (.normal,e',ds',h')else some (.exit i,e',ds',h')
    |r=>r
  | .loop b=>match ct T n base rnd b e ds h with
    |some (.normal,e',ds',h')=>ct T n base rnd (.loop b) e' ds' h'
    |r=>r
  | .scope b=>ct T n base rnd b e ds h
  | .rangeFunc f ps asg body=>bif og h rnd then match ev h e f with
    |some (.func (.func g) first cap)=>bif gT (T g)then none else
     match iV T n g (dP first.toList (dP [.func (.yield h.next) #[] #[]] cap.toList)) {h.push (.loop e ps asg body 0 .normal)with log:=[]}with
     |some (.ret _,h2)=>match h2.get h.next with
      |some (.loop _ _ _ _ st ic)=>bif Nat.beq st 1 then none else
       some (ic,e,ds,Heap.wr {h2 with log:=aF base h.log h2.log} base h.next .dead)
      |_=>none
     |some (.panic v,h2)=>some (.panic v,e,ds,{h2 with log:=aF base h.log h2.log})
     |none=>none
    |_=>none
    else none
  | .rangeMap ops it x keep out nxt pr ops2 k2 body=>match gh T n base rnd ops e ds h with
    |some (.normal,e0,ds0,h0)=>match ds0 with
     |_::_=>none
     |[]=>match ev h0 e0 x with
      |some (.map none)=>some (.normal,cE e0 keep,[],h0)
      |some (.map (some m))=>match h0.get m with
       |some (.map es)=>Gw out (cE e0 keep) h0 (pG (λe h=>gh T n (h0.next+1) rnd ops2 e [] h) (λe h=>ct T n (h0.next+1) rnd body e [] h) nxt pr k2 (itE it h0 (cE e0 keep)) (cE e0 keep) ((roM h0 m es).push .dead) es)
       |_=>none
      |_=>none
    |r=>r
  | .exit id=>some (.exit id,e,ds,h)
  | .ret=>some (.ret,e,ds,h)
def gh(T:Nat->Option af):Nat->Nat->Option Nat->List bg->Env->Dfs->Heap->Option (br×Env×Dfs×Heap)
 |0,_,_,_,_,_,_=>none
 |n+1,base,rnd,ops,e,ds,h=>
  match ops with
  |[]=>some (.normal,e,ds,h)
  |o::os=>match bX e o.guard with
   |some false=>gh T n base rnd os (cI e o.dst (.tuple #[])) ds h
   |some true=>match aop h base e o.op with
    |some (.val v h')=>gh T n base rnd os (cI e o.dst v) ds h'
    |some (.call fn args h')=>match fN T n fn args {h' with log:=[]}with
     |some (.ret v,h2)=>gh T n base rnd os (cI e o.dst v) ds {h2 with log:=aF base h'.log h2.log}
     |some (.panic v,h2)=>some (.panic v,e,ds,{h2 with log:=aF base h'.log h2.log})
     |none=>none
    |some (.jv f args)=>match rnd with|some _=>none|none=>gh T n base rnd os (cI e o.dst (.tuple #[])) ((f,args)::ds) h
    |some (.panic v h')=>some (.panic v,e,ds,h')
    |_=>none
   |none=>none
def eH(T:Nat->Option af):Nat->Nat->List bg->List Nat->List Nat->List Rec->Env->Heap->Option (br×Env×Heap)
 |0,_,_,_,_,_,_,_=>none
 |n+1,base,ops,order,before,rs,e,h=>
  match order with
  |[]=>some (.normal,e,h)
  |i::is=>match aT ops i,aT before i with
   |some o,some mask=>
    match bX (cE e (cV o)) o.guard with
    |some false=>eH T n base ops is before (⟨i,o,cE e (cV o), .tuple #[], .skip⟩::rs) (cI e o.dst (.tuple #[])) h
    |some true=>
     bif jw o.op then
      match aop h base (cE e (cV o)) o.op with
      |some (.val v h')=>
       bif dw o.op then
        bif mX h' base rs then eH T n base ops is before (⟨i,o,cE e (cV o),v, .made h.next⟩::rs) (cI e o.dst v) h' else none
       else bif Nat.beq h'.next h.next then eH T n base ops is before (⟨i,o,cE e (cV o),v, .quiet⟩::rs) (cI e o.dst v) h
       else bif zO before i is then
        match aop {h with log:=[]} h.next (cE e (cV o)) o.op with
        |some (.val v h2)=>match bL {h2 with log:=aF base h.log h2.log} base h2.log mask rs with
         |some rs'=>eH T n base ops is before rs' (cI e o.dst v) {h2 with log:=aF base h.log h2.log}
         |none=>none
        |_=>none
       else none
      |_=>none
     else
      match aop {h with log:=[]} h.next (cE e (cV o)) o.op with
      |some (.val v h2)=>match bL {h2 with log:=aF base h.log h2.log} base h2.log mask rs with
       |some rs'=>eH T n base ops is before rs' (cI e o.dst v) {h2 with log:=aF base h.log h2.log}
       |none=>none
      |some (.call fn args _)=>match fN T n fn args {h with log:=[]}with
       |some (.ret v,h2)=>match bL {h2 with log:=aF base h.log h2.log} base h2.log mask rs with
        |some rs'=>eH T n base ops is before rs' (cI e o.dst v) {h2 with log:=aF base h.log h2.log}
        |none=>none
       |some (.panic v,h2)=>some (.panic v,[],{h2 with log:=aF base h.log h2.log})
       |none=>none
      |_=>none
    |none=>none
   |_,_=>none
def fN(T:Nat->Option af):Nat->Fn->List Value->Heap->Option (Res×Heap)
 |0,_,_,_=>none
 |n+1,fn,args,h=>
  match fn with
  | .func f=>iV T n f args h
  | .yield l=>match h.get l with
    |some (.loop e ps asg body 0 .normal)=>match iS e ps args with
     |some e1=>match ct T n h.next (some l) asg e1 [] h with
      |some (.normal,e2,ds2,h2)=>bif notReady (h2.get l)then none else match ct T n h.next (some l) body e2 ds2 {h2 with b8:=iA h2.b8 l (.loop e ps asg body 1 .normal)}with
       |some (.normal,_,_,h3)=>match h3.get l with
        |some (.loop _ _ _ _ 1 _)=>some (.ret (.bool true),gcA h {h3 with b8:=iA h3.b8 l (.loop e ps asg body 0 .normal)} (.bool true))
        |_=>none
       |some (.exit i,_,_,h3)=>match h3.get l with
        |some (.loop _ _ _ _ 1 _)=>some (.ret (.bool false),h3.wr h.next l (.loop e ps asg body 2 (.exit i)))
        |_=>none
       |some (.ret,_,_,h3)=>match h3.get l with
        |some (.loop _ _ _ _ 1 _)=>some (.ret (.bool false),h3.wr h.next l (.loop e ps asg body 2 .ret))
        |_=>none
       |_=>none
      |_=>none
     |none=>none
    |_=>none
  |_=>none
def iV(T:Nat->Option af):Nat->Nat->List Value->Heap->Option (Res×Heap)
 |0,_,_,_=>none
 |n+1,f,args,h=>
  match T f with
  |none=>none
  |some (.mQ p)=>match p args h with
   |some (v,h')=>some (.ret v,h')
   |none=>none
  |some (.code code results)=>match ct T n h.next none code (eM 0 args) [] h with
   |some (.panic v,e,ds,h1)=>nA T n results ds (some v) e h h1
   |some (.exit _,_,_,_)=>none
   |some (_,e,ds,h1)=>nA T n results ds none e h h1
   |none=>none
def nA(T:Nat->Option af):Nat->List (Nat×Option (Option Nat))->Dfs->Option Value->Env->Heap->Heap->Option (Res×Heap)
 |0,_,_,_,_,_,_=>none
 |n+1,results,ds,pan,e,h,h1=>
  match ds with
  |[]=>match pan with
   |some v=>some (.panic v,h1)
   |none=>match cC h1 e results with
    |some vs=>some (.ret (fH vs),gcA h h1 (fH vs))
    |none=>none
  |(.func (.func g) first cap,args)::ds=>match jW T n g (dP first.toList (dP args cap.toList)) pan {h1 with log:=[]}with
   |some (pan',h2)=>nA T n results ds pan' e h {h2 with log:=aF h.next h1.log h2.log}
   |none=>none
  |_=>none
def jW(T:Nat->Option af):Nat->Nat->List Value->Option Value->Heap->Option (Option Value×Heap)
 |0,_,_,_,_=>none
 |n+1,g,args,pan,h=>
  match T g with
  |some (.code code [])=>match ir T n h.next code (eM 0 args) pan h with
   |some (.normal,_,pan',h')=>some (pan',h')
   |some (.ret,_,pan',h')=>some (pan',h')
   |_=>none
  |_=>none
def ir(T:Nat->Option af):Nat->Nat->aQ->Env->Option Value->Heap->Option (br×Env×Option Value×Heap)
 |0,_,_,_,_,_=>none
 |n+1,base,c,e,pan,h=>
  match c with
  | .skip=>some (.normal,e,pan,h)
  | .region ops keep=>match jo T n base ops e pan h with
    |some (.normal,e',pan',h')=>some (.normal,cE e' keep,pan',h')
    |r=>r
  | .seq a b=>match ir T n base a e pan h with
    |some (.normal,e',pan',h')=>ir T n base b e' pan' h'
    |r=>r
  | .cond c a b=>match ev h e c with
    |some (.bool true)=>ir T n base a e pan h
    |some (.bool false)=>ir T n base b e pan h
    |_=>none
  | .ret=>some (.ret,e,pan,h)
  |_=>none
def jo(T:Nat->Option af):Nat->Nat->List bg->Env->Option Value->Heap->Option (br×Env×Option Value×Heap)
 |0,_,_,_,_,_=>none
 |n+1,base,ops,e,pan,h=>
  match ops with
  |[]=>some (.normal,e,pan,h)
  |o::os=>match bX e o.guard with
   |some false=>jo T n base os (cI e o.dst (.tuple #[])) pan h
   |some true=>match aop h base e o.op with
    |some (.val v h')=>jo T n base os (cI e o.dst v) pan h'
    |some .recover=>match pan with
     |some v=>jo T n base os (cI e o.dst v) none h
     |none=>jo T n base os (cI e o.dst .nilIface) none h
    |_=>none
   |none=>none
end
def aC(P:Program):Operand->Bool
 | .const v=>cT v
 | .global g=>Nat.blt g P.globals.size
 |_=>true
def dH(P:Program)(t:TypeId):Option Nat:=(P.info? t).map (·.size)
def jr(P:Program)(t:TypeId):Option Nat:=(P.info? t).map (·.bytes)
def gJ(P:Program)(t:TypeId):Option Value:=(P.info? t).bind (·.zero)
def tW(P:Program)(t:TypeId):Option (Option Nat):=
 match P.underlying t with
 |some (.struct _)|some (.array _ _)=>(dH P t).map some
 |some _=>some none
 |none=>none
def goL(P:Program)(lf:TypeId->Option (List dN)):Nat->List Field->Option (List dN)
 |_,[]=>some []
 |off,f::fs=>if f.name= "_" ∨f.offset≠off then none else match lf f.type,dH P f.type with
  |some l,some s=>if l.length=s then match goL P lf (off+s) fs with
   |some m=>some (dP l m)
   |none=>none
   else none
  |_,_=>none
def dA(P:Program):Nat->TypeId->Option (List dN)
 |0,_=>none
 |d+1,t=>match P.underlying t with
  |some .bool=>some [.b]
  |some (.int k)=>some [.i k]
  |some .string=>some [.s]
  |some (.array n e)=>match dA P d e,dH P e with
   |some l,some s=>if l.length=s then some (fR n l)else none
   |_,_=>none
  |some (.struct fs)=>if P.stoodInHeld t then none else goL P (dA P d) 0 fs.toList
  |_=>none
def eX(P:Program)(t:TypeId):Bool:=
 match P.underlying t with
 |some (.struct _)|some (.array _ _)=>true
 |_=>false
def lY:Operand->Bool
 | .const _=>true
 |_=>false
def uK:BinOp->Option Bool
 | .eql=>some false
 | .neq=>some true
 |_=>none
def nY(place:Nat->Option (Nat×Nat)):List (Nat×Operand)->Option (List (Nat×Nat×Operand))
 |[]=>some []
 |(i,x)::ps=>match place i,nY place ps with
  |some (o,s),some l=>some ((o,s,x)::l)
  |_,_=>none
def fT(P:Program)(o:Op):Option AOp:=
 if o.operands.toList.all (aC P)then
 match o with
 | .move x| .assign x=>some (.mov x)
 | .pick c a b=>some (.pick c a b)
 | .alloc t=>match gJ P t with
   |some z=>if cU (cellsOf z)then some (.new (cellsOf z))else none
   |none=>none
 | .box _ x=>some (.box x)
 | .build t ps=>match gJ P t,P.underlying t with
   |some z,some (.struct fs)=>if cU (cellsOf z)/\fs.toList.all (λf=>(dH P f.type).isSome)then(nY (λi=>(fs[i]?).map λf=>(f.offset,P.cellsOf f.type)) ps.toList).map (.build (cellsOf z))else none
   |some z,some (.array _ e)=>match dH P e with
    |some s=>if cU (cellsOf z)then(nY (λi=>some (i*s,s)) ps.toList).map (.build (cellsOf z))else none
    |none=>none
   |_,_=>none
 | .buildSlice t n ps=>match P.underlying t with
   |some (.slice e)=>match dH P e,gJ P e with
    |some s,some z=>if n*s<=2 ^ 24/\bK (cellsOf z)=s/\s≠0/\cU (cellsOf z)then(nY (λi=>some (i*s,s)) ps.toList).map (.dh (cellsOf z) n)else none
    |_,_=>none
   |_=>none
 | .load t a=>(tW P t).map λn=> .load n a
 | .store t a v=>(dH P t).map λn=> .store n a v
 | .nilCheck x=>some (.bC x)
 | .binOp op t x y _=>
   match P.underlying t with
   |some (.struct _)|some (.array _ _)=>match op,dA P 100 t with
    | .eql,some ls=>if P.eqGuardType P.depth t then none else some (.bin (.agg false ls) x y)
    | .neq,some ls=>if P.eqGuardType P.depth t then none else some (.bin (.agg true ls) x y)
    |_,_=>none
   |some (.interface _)=>if lY x||lY y then(uK op).map λn=> .bin (.nil .iface n) x y else none
   |some (.pointer _)=>(uK op).map λn=> .bin (.nil .ptr n) x y
   |some (.slice _)=>(uK op).map λn=> .bin (.nil .sl n) x y
   |some (.map _ _)=>(uK op).map λn=> .bin (.nil .map n) x y
   |some (.func _ _ _)=>(uK op).map λn=> .bin (.nil .func n) x y
   |some .bool=>(uK op).map λn=> .bin (.beq n) x y
   |some (.int _)=>some (.bin (.num op) x y)
   |some .string=>some (.bin (.num op) x y)
   |_=>none
 | .unOp op _ x=>some (.un op x)
 | .convert s d x=>match P.underlying s,P.underlying d with
   |some (.int _),some (.int k)=>some (.conv (.int k) x)
   |some .string,some .string=>some (.conv .same x)
   |some (.slice e),some .string=>match P.underlying e with
    |some (.int .u8)=>some (.conv .toStr x)
    |_=>none
   |some .string,some (.slice e)=>match P.underlying e with
    |some (.int .u8)=>some (.conv .toBytes x)
    |_=>none
   |_,_=>none
 | .makeInterface t x=>match P.underlying t with
   |some (.interface _)=>none
   |some _=>some (.ia t x)
   |none=>none
 | .makeFunc (.func f) fs cs=>some (.dU (.func f) fs.toList cs.toList)
 | .makeMap _ none=>some .mkMap
 | .makeMap t (some (.const (.int _ _)))=>match P.underlying t with
   |some (.map _ _)=>some .mkMap
   |_=>none
 | .makeSlice t l c=>match P.underlying t with
   |some (.slice e)=>match dH P e,gJ P e,jr P e with
    |some s,some z,some b=>if bK (cellsOf z)=s/\s≠0/\cU (cellsOf z)then some (.mkSlice (cellsOf z) b l c)else none
    |_,_,_=>none
   |_=>none
 | .slice t x lo hi mx=>if mx.isSome&&hi.isNone then none else match P.underlying t with
   |some .string=>match mx with
    |none=>some (.slice .str x lo hi none)
    |some _=>none
   |some (.slice e)=>(dH P e).map λs=> .slice (.sl s) x lo hi mx
   |some (.array n e)=>if n<UNK then(dH P e).map λs=> .slice (.arr n s) x lo hi mx else none
   |some (.pointer a)=>match P.underlying a with
    |some (.array n e)=>if n<UNK then(dH P e).map λs=> .slice (.arr n s) x lo hi mx else none
    |_=>none
   |_=>none
 | .fieldAddr s x f=>match P.underlying s with
   |some (.struct fs)=>match fs[f]? with
    |some f=>match dH P f.type with
     |some (_+1)=>some (.bF f.offset x)
     |_=>none
    |none=>none
   |_=>none
 | .field s x f=>match P.underlying s with
   |some (.struct fs)=>match fs[f]? with
    |some f=>(tW P f.type).map λn=> .field f.offset n x
    |none=>none
   |_=>none
 | .indexAddr t x i=>match P.underlying t with
   |some (.array n e)=>(dH P e).map λs=> .bI n s x i
   |some (.slice e)=>(dH P e).map λs=> .aH s x i
   |_=>none
 | .index t x i=>match P.underlying t with
   |some (.array n e)=>match dH P e,tW P e with
    |some s,some a=>some (.rW n s a x i)
    |_,_=>none
   |some .string=>some (.tv x i)
   |_=>none
 | .lookup t m k ok=>match P.underlying t with
   |some (.map kt e)=>match dA P 100 kt,gJ P e with
    |some ls,some z=>if flat z then some (.lookup (eX P kt) ls z ok m k)else none
    |_,_=>none
   |_=>none
 | .mapUpdate t m k v=>match P.underlying t with
   |some (.map kt _)=>match dA P 100 kt with
    |some ls=>some (.iE (eX P kt) ls m k v)
    |none=>none
   |_=>none
 | .typeAssert x _ a ok=>match P.underlying a with
   |some (.interface _)=>none
   |some _=>match gJ P a with
    |some z=>if flat z then some (.jM a ok z x)else none
    |none=>none
   |none=>none
 | .extract t i=>some (.extract t i)
 | .panic x=>some (.sg x)
 | .range t x=>match P.underlying t with
   |some .string=>some (.range x)
   |some (.map _ _)=>some (.lU x)
   |_=>none
 | .next x s=>some (.next x s)
 | .entry x=>some (.entry x)
 | .call c=>match c.callee with
   | .value f=>some (.call f c.args.toList)
   | .invoke _ _=>none
   | .builtin b=>match b,c.argTypes.toList,c.args.toList with
     | .len,[t],[x]=>match P.underlying t with
       |some .string=>some (.len 0 x)
       |some (.slice _)=>some (.len 1 x)
       |some (.map _ _)=>some (.len 2 x)
       |some (.array n _)=>some (.jA n)
       |some (.pointer a)=>match P.underlying a with
        |some (.array n _)=>some (.jA n)
        |_=>none
       |_=>none
     | .cap,[t],[x]=>match P.underlying t with
       |some (.slice _)=>some (.cap x)
       |_=>none
     | .append,[st,xt],[s,x]=>match P.underlying st,P.underlying xt with
       |some (.slice e),some (.int _)=>match gJ P e,jr P e,dH P e with
        |some z,some b,some n=>if bK (cellsOf z)=n/\n≠0/\b≠0/\cU (cellsOf z)then some (.jG (cellsOf z) b s x)else none
        |_,_,_=>none
       |some (.slice e),some _=>match dH P e,jr P e,gJ P e with
        |some n,some b,some z=>if bK (cellsOf z)=n/\n≠0/\b≠0/\cU (cellsOf z)then some (.append n b s x)else none
        |_,_,_=>none
       |_,_=>none
     | .copy,[dt,_],[d,s]=>match P.underlying dt with
       |some (.slice e)=>(dH P e).map λn=> .copy n d s
       |_=>none
     | .max,_,args=>if 2<=c.args.size then some (.dK true args)else none
     | .min,_,args=>if 2<=c.args.size then some (.dK false args)else none
     | .delete,[mt,_],[m,k]=>match P.underlying mt with
       |some (.map kt _)=>match dA P 100 kt with
        |some ls=>some (.delete (eX P kt) ls m k)
        |none=>none
       |_=>none
     | .clear,[t],[x]=>match P.underlying t with
       |some (.slice e)=>match gJ P e with
        |some z=>if cU (cellsOf z)then some (.clear (cellsOf z) x)else none
        |none=>none
       |_=>none
     | .recover,_,_=>some .recover
     |_,_,_=>none
 | .defer c=>match c.callee with
   | .value f=>some (.jv f c.args.toList)
   |_=>none
 |_=>none
 else none
def j4(nt:Nat):Option Nat->Bool
 |none=>true
 |some t=>Nat.blt t nt
def bY(P:Program)(nt:Nat)(ops:Array Oper):List Oper->Option (List bg)
 |[]=>some []
 |o::os=>if j4 nt o.dst then match fT P o.op,bY P nt ops os with
  |some a,some as=>match o.guard with
   |none=>some (⟨o.dst,a,none⟩::as)
   |some (j,b)=>match(ops[j]?).bind (·.dst)with
    |some t=>some (⟨o.dst,a,some (t,b)⟩::as)
    |none=>none
  |_,_=>none else none
def Cp(ops:List Oper)(done:List Nat):Nat->List Oper->List Nat
 |_,[]=>[]
 |i,o::os=>
  if !fB done i&&(o.after.toList.all λe=> !Region.binds .any e||fB done e.on)then i::Cp ops done (i+1) os else Cp ops done (i+1) os
def eager(ops:List Oper)(q:List Bool):Nat->List Nat->List Nat
 |0,done=>done.reverse
 |n+1,done=>
  let r:=Cp ops done 0 ops
  match r.find? (λi=>(aT q i).getD false)with
  |some i=>eager ops q n (i::done)
  |none=>match r with
   |i::_=>eager ops q n (i::done)
   |[]=>done.reverse
def Cb(o:Oper):List Nat:=(o.after.toList.filter (Region.binds .any)).map (·.on)
def iR(ops:List Oper)(i:Nat):List Nat:=
 match aT ops i with
 |some o=>Cb o
 |none=>[]
def topoOk(as:List bg)(ops:List Oper)(done:List Nat):List Nat->Bool
 |[]=>true
 |i::is=>(iR ops i).all (fB done)&& !fB done i&&
  (match aT as i with|some a=>jw a.op||is.all λj=>(iR ops j).any (fB (i::is))|none=>false)&&topoOk as ops (i::done) is
def LI(as:List bg)(ops:List Oper)(bf:List Nat)(n:Nat):Bool:=
 (List.range n).all fun j=>match aT as j with
   |some a=>(cV a).all λt=>(List.range n).all λp=>match aT as p with
    |some b=> !(b.dst==some t)||fB (iR ops j) p||(match aT bf p with|some m=>Nat.testBit m j|none=>false)
    |none=>false
   |none=>false
def No(as:List bg)(n:Nat):Bool:=
 (List.range n).all fun j=>(List.range n).all fun p=>match aT as j,aT as p with
   |some a,some b=>Nat.beq j p|| !(a.dst==b.dst)||a.dst.isNone
   |_,_=>false
def KG(ops:List Oper)(bf:List Nat)(n:Nat):Bool:=
 (List.range n).all fun i=>(List.range n).all fun p=>match aT bf i with
   |some m=> !Nat.testBit m p||(iR ops i).any λq=>Nat.beq p q||(match aT bf q with|some mq=>Nat.testBit mq p|none=>false)
   |none=>false
def uj(as:List bg)(ops:List Oper)(ord bf:List Nat):Bool:=
 Nat.beq ord.length ops.length&&ord.all (Nat.blt · ops.length)&&(List.range ops.length).all (fB ord)&&topoOk as ops [] ord&&LI as ops bf ops.length&&No as ops.length&&KG ops bf ops.length&&
  as.all λa=>match a.op with| .jv _ _=>false|_=>true
def vr{α:Type}:List α->Option (List α×α)
 |[]=>none
 |[x]=>some ([],x)
 |x::l=>match vr l with
  |some (l',y)=>some (x::l',y)
  |none=>none
def MP(ops:List bg)(keep:List Nat)(out nx it1 mo nx1 mo1 out1 nxt pr it2:Nat)(ops2:List bg)(k2:List Nat)(body:aQ):Option aQ:=
 match vr ops with
 |some (ops0,⟨some it, .lU x,none⟩)=>
  if it1=it/\it2=it/\nx1=nx/\mo1=mo/\out1=out/\nx≠mo/\it≠nx/\it≠mo then
   some (.rangeMap ops0 it x (keep.filter λt=> !(Nat.beq t it||Nat.beq t nx||Nat.beq t mo)) out nxt pr ops2 k2 body)
  else none
 |_=>none
def fuse? :aQ->aQ->Option aQ
 | .region ops keep, .block out (.loop (.seq (.region [⟨some nx, .next (.tmp it1) false,none⟩,⟨some mo, .extract (.tmp nx1) 0,none⟩] _) (.seq (.cond (.tmp mo1) .skip (.exit out1)) (.block nxt (.seq (.region (⟨some pr, .entry (.tmp it2),none⟩::ops2) k2) body)))))=>
   MP ops keep out nx it1 mo nx1 mo1 out1 nxt pr it2 ops2 k2 body
 |_,_=>none
def Qr(a b:aQ):aQ:=
 match fuse? a b with
 |some c=>c
 |none=> .seq a b
def comp(P:Program)(nt:Nat):Code->List (List Nat)->Option (aQ×List (List Nat))
 | .skip,ks=>some (.skip,ks)
 | .region _ ops draw,ks=>match ks,bY P nt ops ops.toList with
   |k::ks,some as=>
    if draw then
     let ord:=eager ops.toList (as.map λa=>jw a.op) ops.size [];let bf:=(Region.before ops).toList
     if uj as ops.toList ord bf then some (.draw as ord bf k,ks)else none
    else some (.region as k,ks)
   |_,_=>none
 | .seq a b,ks=>match comp P nt a ks with
   |some (a',ks)=>match comp P nt b ks with
    |some (b',ks)=>some (Qr a' b',ks)
    |none=>none
   |none=>none
 | .cond c a b,ks=>if aC P c then match comp P nt a ks with
   |some (a',ks)=>match comp P nt b ks with
    |some (b',ks)=>some (.cond c a' b',ks)
    |none=>none
   |none=>none else none
 | .block id b,ks=>match comp P nt b ks with
   |some (b',ks)=>some (.block id b',ks)
   |none=>none
 | .loop b,ks=>match comp P nt b ks with
   |some (b',ks)=>some (.loop b',ks)
   |none=>none
 | .rangeFunc f ps a b,ks=>if aC P f&&ps.toList.all (Nat.blt · nt)then match comp P nt a ks with
   |some (a',ks)=>match comp P nt b ks with
    |some (b',ks)=>some (.rangeFunc f ps.toList a' b',ks)
    |none=>none
   |none=>none else none
 | .scope b,ks=>match comp P nt b ks with
   |some (b',ks)=>some (.scope b',ks)
   |none=>none
 | .label _,ks=>some (.skip,ks)
 | .exit id,ks=>some (.exit id,ks)
 | .ret,ks=>some (.ret,ks)
 |_,_=>none
def A4(P:Program):List ResultVar->Option (List (Nat×Option (Option Nat)))
 |[]=>some []
 | .tmp t::rs=>(A4 P rs).map ((t,none):: ·)
 | .cell a t::rs=>match tW P t,A4 P rs with
   |some n,some l=>some ((a,some n)::l)
   |_,_=>none
def aD(P:Program)(f:Func)(ks:List (List Nat)):Option af:=
 match f.body with
 |some c=>if f.name= "runtime.NumGoroutine" then none else match comp P f.ntmps c ks,A4 P f.results.toList with
  |some (ac,[]),some rs=>some (.code ac rs)
  |_,_=>none
 |none=>none
def ksC:aQ->List (List Nat)
 | .region _ k=>[k]
 | .draw _ _ _ k=>[k]
 | .seq a b=>ksC a++ksC b
 | .cond _ a b=>ksC a++ksC b
 | .block _ b=>ksC b
 | .loop b=>ksC b
 | .rangeFunc _ _ a b=>ksC a++ksC b
 | .scope b=>ksC b
 | .rangeMap _ _ _ k _ _ _ _ k2 b=>k::[]::k2::ksC b
 |_=>[]
def ksO:af->List (List Nat)
 | .code c _=>ksC c
 |_=>[]
inductive Tr
 |nil|node (l:Tr) (k:Nat) (v:af) (r:Tr)
def Tr.get:Tr->Nat->Option af
 | .nil,_=>none
 | .node l k v r,n=>bif Nat.beq n k then some v else bif Nat.blt n k then l.get n else r.get n
def cL:aQ->aQ
 | .seq a _=>a
 |c=>c
def cR:aQ->aQ
 | .seq _ b=>b
 |c=>c
def codeOf:af->aQ
 | .code c _=>c
 |_=> .skip
end Go.A
