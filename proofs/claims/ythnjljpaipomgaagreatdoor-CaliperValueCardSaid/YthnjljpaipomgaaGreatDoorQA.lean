/- The machine: its heap, its operations, its runs, how it is made out of code; nothing of a law. -/
import Derived.CallsIn
import GoSem.Core.Region
import Derived.Lib.Join
set_option linter.all false
namespace Go.A
def UNK:Nat:=4611686018427387904
def bK{α:Type}:List α->Nat->Option α
 |[],_=>none
 |x::_,0=>some x
 |_::l,i+1=>bK l i
def rS{α:Type}:List α->Nat->α->List α
 |[],_,_=>[]
 |_::l,0,y=>y::l
 |x::l,i+1,y=>x::rS l i y
def cG{α:Type}:Nat->List α->List α
 |0,_=>[]
 |_+1,[]=>[]
 |n+1,x::l=>x::cG n l
def cw{α:Type}:Nat->List α->List α
 |0,l=>l
 |_+1,[]=>[]
 |n+1,_::l=>cw n l
def cW{α:Type}:List α->Nat->List α->List α
 |l,_,[]=>l
 |l,i,y::ys=>cW (rS l i y) (i+1) ys
def aR{α:Type}:Nat->α->List α
 |0,_=>[]
 |n+1,x=>x::aR n x
def fF:List Nat->Nat->Bool
 |[],_=>false
 |x::l,n=>bif Nat.beq x n then true else fF l n
def dP{α:Type}:List α->List α->List α
 |[],m=>m
 |x::l,m=>x::dP l m
def eW{α:Type}:Nat->List α->List α
 |0,_=>[]
 |n+1,z=>dP z (eW n z)
abbrev Env:=List (Nat×Value)
def geT:Env->Nat->Option Value
 |[],_=>none
 |(k,v)::e,t=>bif Nat.beq k t then some v else geT e t
def bD(e:Env):List Nat->Env
 |[]=>[]
 |t::ts=>match geT e t with
  |some v=>(t,v)::bD e ts
  |none=>bD e ts
inductive dZ
 |b|i (k:IntKind)|s
 deriving Repr,DecidableEq,Inhabited
inductive Cv
 |int (k:IntKind)|same|toBytes|toStr|Wq
 deriving Repr,Inhabited
inductive NK
 |ptr|sl|map|func|iface
 deriving Repr,DecidableEq,Inhabited
inductive Ee
 |num (op:BinOp)
 |beq (neq:Bool)
 |nil (k:NK) (neq:Bool)
 |agg (neq:Bool) (ls:List dZ)
 deriving Inhabited
inductive ASl
 |str|sl (size:Nat)|arr (n size:Nat)
 deriving Inhabited
inductive AOp
 |mov (x:Operand)
 |pick (c a b:Operand)
 |new (zero:List Value)
 |box (v:Operand)
 |build (zero:List Value) (parts:List (Nat×Nat×Operand))
 |dw (zero:List Value) (len:Nat) (parts:List (Nat×Nat×Operand))
 |load (n:Option Nat) (a:Operand)
 |store (n:Nat) (a v:Operand)
 |cg (x:Operand)
 |bin (op:Ee) (x y:Operand)
 |un (op:UnOp) (x:Operand)
 |conv (c:Cv) (x:Operand)
 |iK (t:TypeId) (x:Operand)
 |dV (fn:Fn) (first captured:List Operand)
 |mkMap
 |mkSlice (zero:List Value) (bytes:Nat) (len cap:Operand)
 |slice (k:ASl) (x:Operand) (lo hi mx:Option Operand)
 |dz (off:Nat) (x:Operand)
 |field (off:Nat) (n:Option Nat) (x:Operand)
 |dB (len size:Nat) (x i:Operand)
 |aQ (size:Nat) (x i:Operand)
 |rL (len size:Nat) (n:Option Nat) (x i:Operand)
 |jC (x i:Operand)
 |lookup (ag:Bool) (ls:List dZ) (zero:Value) (commaOk:Bool) (m k:Operand)
 |mE (ag:Bool) (ls:List dZ) (m k v:Operand)
 |jT (asserted:TypeId) (commaOk:Bool) (zero:Value) (x:Operand)
 |extract (t:Operand) (i:Nat)
 |call (f:Operand) (args:List Operand)
 |len (k:Nat) (x:Operand)
 |j9 (n:Nat)
 |cap (x:Operand)
 |append (size bytes:Nat) (s x:Operand)
 |kG (zero:List Value) (bytes:Nat) (s n:Operand)
 |copy (size:Nat) (d s:Operand)
 |clear (z:List Value) (x:Operand)
 |eF (max:Bool) (args:List Operand)
 |delete (ag:Bool) (ls:List dZ) (m k:Operand)
 |jI (f:Operand) (args:List Operand)
 |recover
 |tB (x:Operand)
 |range (x:Operand)
 |next (x:Operand) (str:Bool)
 |nq (x:Operand)
 |entry (x:Operand)
 deriving Inhabited
structure aP where
 dst:Option Nat
 op:AOp
 guard:Option (Nat×Bool)
 deriving Inhabited
inductive aN
 |skip
 |region (ops:List aP) (keep:List Nat)
 |draw (ops:List aP) (order:List Nat) (before:List Nat) (keep:List Nat)
 |seq (a b:aN)
 |cond (c:Operand) (a b:aN)
 |block (id:Nat) (b:aN)
 |loop (b:aN)
 |scope (b:aN)
 |rangeFunc (f:Operand) (params:List Nat) (assign body:aN)
 |rangeMap (ops:List aP) (it:Nat) (x:Operand) (keep:List Nat) (out nxt pr:Nat) (ops2:List aP) (keep2:List Nat) (body:aN)
 |exit (id:Nat)
 |ret
 deriving Inhabited
inductive bk
 |normal|exit (id:Nat)|ret|panic (v:Value)
 deriving Inhabited
inductive bM
 |cells (vs:List Value) (own:Bool) (sz:Nat)
 |map (es:List (Value×Value))
 |qX (es:List (Value×Value))
 |loop (env:Env) (params:List Nat) (assign body:aN) (st:Nat) (iN:bk)
 |lN (s:ByteArray) (pos:Nat)
 |dead
 deriving Inhabited
structure Heap where
 cm:List (Nat×bM)
 next:Nat
 log:List Nat
 deriving Inhabited
inductive aq
 |code (c:aN) (results:List (Nat×Option (Option Nat)))
 |lD (p:List Value->Heap->Option (Value×Heap))
 deriving Inhabited
def fA:List (Nat×bM)->Nat->Option bM
 |[],_=>none
 |(k,o)::l,b=>bif Nat.beq k b then some o else fA l b
def iS:List (Nat×bM)->Nat->bM->List (Nat×bM)
 |[],_,_=>[]
 |(k,o)::l,b,o'=>bif Nat.beq k b then(k,o')::l else(k,o)::iS l b o'
def Heap.get(h:Heap)(b:Nat):Option bM:=fA h.cm b
def rT:Option bM->Option (List (Value×Value))
 |some (.map es)=>some es
 |some (.qX es)=>some es
 |_=>none
def Heap.push(h:Heap)(o:bM):Heap:={h with cm:=(h.next,o)::h.cm,next:=h.next+1}
def Heap.wr(h:Heap)(base b:Nat)(o:bM):Heap:=
 {h with cm:=iS h.cm b o,log:=bif Nat.blt b base then(bif fF h.log b then h.log else b::h.log)else h.log}
def jY:Value->Bool
 | .bool _| .int _ _| .float _ _| .complex _ _ _| .string _| .nilFunc| .nilIface=>true
 | .pointer none| .slice none _ _| .map none| .chan none=>true
 | .func (.func _) f c=>Nat.beq f.toList.length 0&&Nat.beq c.toList.length 0
 |_=>false
def mL:Value->Bool
 | .iface _ v=>jY v
 |v=>jY v
def cZ:List Value->Bool
 |[]=>true
 |v::l=>bif mL v then cZ l else false
def flat:Value->Bool
 | .agg cs=>cZ cs.toList
 | .iface _ (.agg cs)=>cZ cs.toList
 |v=>mL v
def jf:List Value->Bool
 |[]=>true
 |v::l=>bif flat v then jf l else false
def cE:Value->Bool
 | .tuple cs=>jf cs.toList
 |v=>flat v
def cellsOf:Value->List Value
 | .agg cs=>cs.toList
 |v=>[v]
def cF{α:Type}:List α->Nat
 |[]=>0
 |_::l=>cF l+1
def fE(k:IntKind)(n:Int):Int:=
 match n with
 | .ofNat m=>bif Nat.blt m (match k with| .i8=>128| .i16=>32768| .i32=>2147483648| .i64=>9223372036854775808| .u8=>256| .u16=>65536| .u32=>4294967296| .u64=>18446744073709551616)then n else k.wrap n
 | .negSucc m=>bif Nat.blt m (match k with| .i8=>128| .i16=>32768| .i32=>2147483648| .i64=>9223372036854775808|_=>0)then n else k.wrap n
def iG:dZ->Value->Value->Option Bool
 | .b, .bool a, .bool b=>some (a==b)
 | .i q, .int k a, .int k' b=>if k=q then if k'=q then some (a==b)else none else none
 | .s, .string a, .string b=>some (a.toList==b.toList)
 |_,_,_=>none
def bF:List dZ->List Value->List Value->Option Bool
 |[],[],[]=>some true
 |l::ls,x::xs,y::ys=>match iG l x y with
  |some true=>bF ls xs ys
  |some false=>match bF ls xs ys with
   |some _=>some false
   |none=>none
  |none=>none
 |_,_,_=>none
def rM:Value->Bool
 | .agg _=>true
 |_=>false
def jr(ag:Bool)(ls:List dZ)(k:Value):Bool:=
 match rM k==ag,bF ls (cellsOf k) (cellsOf k)with
 |true,some _=>true
 |_,_=>false
def oS(ag:Bool)(ls:List dZ)(k k':Value):Option Bool:=
 match rM k'==ag with
 |true=>bF ls (cellsOf k) (cellsOf k')
 |false=>none
def iF:NK->Value->Option Bool
 | .ptr, .pointer none=>some true
 | .ptr, .pointer (some _)=>some false
 | .sl, .slice none _ _=>some true
 | .sl, .slice (some _) _ _=>some false
 | .map, .map none=>some true
 | .map, .map (some _)=>some false
 | .func, .nilFunc=>some true
 | .func, .func _ _ _=>some false
 | .iface, .nilIface=>some true
 | .iface, .iface _ _=>some false
 |_,_=>none
def pS(k:NK)(x y:Value):Option Bool:=
 match iF k x,iF k y with
 |some true,some b=>some b
 |some false,some true=>some false
 |_,_=>none
def ni(op:BinOp)(x y:Int):Option Value:=
 match op with
 | .eql=>some (.bool (x==y))
 | .neq=>some (.bool (x !=y))
 | .lss=>some (.bool (decide (x<y)))
 | .leq=>some (.bool (decide (x<=y)))
 | .gtr=>some (.bool (decide (x>y)))
 | .geq=>some (.bool (decide (x≥y)))
 |_=>none
def og(op:BinOp)(k:IntKind)(x y:Int):Option Value:=
 let slow:Option Value:=
  let a:=BitVec.ofInt k.bits x;let b:=BitVec.ofInt k.bits y
  match op with
  | .and=>some (.int k (k.wrap (a&&&b).toNat))
  | .or=>some (.int k (k.wrap (a|||b).toNat))
  | .xor=>some (.int k (k.wrap (a ^^^ b).toNat))
  | .andNot=>some (.int k (k.wrap (a&&& ~~~b).toNat))
  |_=>none
 match k,x,y with
 | .u64, .ofNat a, .ofNat b=>bif Nat.blt a 18446744073709551616&&Nat.blt b 18446744073709551616 then
  match op with
  | .and=>some (.int .u64 (.ofNat (Nat.land a b)))
  | .or=>some (.int .u64 (.ofNat (Nat.lor a b)))
  | .xor=>some (.int .u64 (.ofNat (Nat.xor a b)))
  | .andNot=>some (.int .u64 (.ofNat (Nat.xor a (Nat.land a b))))
  |_=>none
   else slow
 |_,_,_=>slow
def arith(op:BinOp)(k:IntKind)(x y:Int):Option Value:=
 match op with
 | .add=>some (.int k (fE k (x+y)))
 | .sub=>some (.int k (fE k (x-y)))
 | .mul=>some (.int k (fE k (x*y)))
 | .quo=>if y=0 then none else some (.int k (fE k (x.tdiv y)))
 | .rem=>if y=0 then none else some (.int k (x.tmod y))
 | .and| .or| .xor| .andNot=>og op k x y
 |_=>ni op x y
def oK(op:BinOp)(k:IntKind)(x y:Int):Option Value:=
 match y with
 | .negSucc _=>none
 | .ofNat n=>match op with
   | .shl=>match k,x with
     | .u64, .ofNat a=>some (.int .u64 (.ofNat (Nat.mod (Nat.shiftLeft a (Nat.min n 64)) 18446744073709551616)))
     |_,_=>some (.int k (k.wrap (x*2 ^ (min n k.bits))))
   | .shr=>match k,x with
     | .u64, .ofNat a=>some (.int .u64 (.ofNat (Nat.shiftRight a (Nat.min n 64))))
     |_,_=>some (.int k (x.fdiv (2 ^ (min n k.bits))))
   |_=>none
def DX(op:BinOp)(x y:ByteArray):Option Value:=
 match op with
 | .add=>bif Nat.blt (x.size+y.size) 9223372036854775808 then some (.string (x++y))else none
 | .eql=>some (.bool (x.toList==y.toList))
 | .neq=>some (.bool !(x.toList==y.toList))
 | .lss=>some (.bool (Op.bytesLess x.toList y.toList))
 | .leq=>some (.bool (Op.bytesLess x.toList y.toList||x.toList==y.toList))
 | .gtr=>some (.bool !(Op.bytesLess x.toList y.toList||x.toList==y.toList))
 | .geq=>some (.bool !(Op.bytesLess x.toList y.toList))
 |_=>none
def an(op:BinOp)(x y:Value):Option Value:=
 match op,x,y with
 | .shl, .int k a, .int _ b=>oK .shl k a b
 | .shr, .int k a, .int _ b=>oK .shr k a b
 |op, .int k a, .int k' b=>if k=k' then arith op k a b else none
 |op, .string a, .string b=>DX op a b
 |_,_,_=>none
def yp(op:UnOp)(x:Value):Option Value:=
 match op,x with
 | .neg, .int k n=>some (.int k (fE k (0-n)))
 | .xor, .int .u64 (.ofNat n)=>bif Nat.blt n 18446744073709551616 then some (.int .u64 (.ofNat (18446744073709551615-n)))else none
 | .not, .bool b=>some (.bool !b)
 |_,_=>none
def ev(h:Heap)(e:Env):Operand->Option Value
 | .tmp t=>geT e t
 | .const v=>some v
 | .global g=>match h.get g with
   |some _=>some (.pointer (some ⟨g,0,none⟩))
   |none=>none
 | .func f=>some (.func (.func f) #[] #[])
def evs(h:Heap)(e:Env):List Operand->Option (List Value)
 |[]=>some []
 |x::xs=>match ev h e x with
  |some v=>match evs h e xs with
   |some vs=>some (v::vs)
   |none=>none
  |none=>none
def je(h:Heap)(e:Env)(z:List Value):List (Nat×Nat×Operand)->Option (List Value)
 |[]=>some z
 |(off,size,x)::ps=>match ev h e x with
  |some v=>bif Nat.beq (cF (cellsOf v)) size&&Nat.ble (off+size) (cF z)then je h e (cW z off (cellsOf v)) ps else none
  |none=>none
inductive cU
 |val (v:Value) (h:Heap)
 |call (fn:Fn) (args:List Value) (h:Heap)
 |jI (f:Value) (args:List Value)
 |panic (v:Value) (h:Heap)
 |recover
 deriving Inhabited
def eC:List Value->Bool
 |[]=>true
 | .agg _::_=>false
 | .tuple _::_=>false
 |_::l=>eC l
def pP(h:Heap)(n:Option Nat):Value->Option Value
 | .pointer (some ⟨b,o,none⟩)=>match h.get b with
   |some (.cells vs _ _)=>match n with
    |none=>bK vs o
    |some n=>let l:=cG n (cw o vs);bif Nat.beq (cF l) n then some (.agg l.toArray)else none
   |_=>none
 |_=>none
def sB(h:Heap)(base n:Nat)(v:Value):Value->Option Heap
 | .pointer (some ⟨b,o,none⟩)=>match h.get b with
   |some (.cells vs true sz)=>bif Nat.beq (cF (cellsOf v)) n&&Nat.ble (o+n) (cF vs)&&eC (cellsOf v)then some (h.wr base b (.cells (cW vs o (cellsOf v)) true sz))else none
   |_=>none
 |_=>none
def pQ:Value->Option Nat
 | .int _ (.ofNat n)=>some n
 |_=>none
def bnd(h:Heap)(e:Env)(dflt:Nat):Option Operand->Option Nat
 |none=>some dflt
 |some x=>match ev h e x with
  |some v=>pQ v
  |none=>none
def iM(h:Heap)(e:Env)(size:Nat)(a:Option Addr)(len cap:Nat)(lo hi mx:Option Operand):Option (Value×Heap):=
 match bnd h e 0 lo,bnd h e len hi with
 |some l,some u=>
  match mx with
  |some _=>match bnd h e 0 mx with
   |some m=>bif Nat.ble l u&&Nat.ble u m&&Nat.ble m (bif Nat.beq cap UNK then len else cap)&&Nat.blt m UNK then
    some (.slice (bif Nat.beq m l then a else match a with|some ⟨b,o,none⟩=>some ⟨b,o+l*size,none⟩|a=>a) (u-l) (m-l),h)
    else none
   |none=>none
  |none=>
   bif Nat.beq cap UNK then
    match a with
    |some ⟨b,o,none⟩=>match h.get b with
     |some (.cells vs _ sz)=>
      bif Nat.beq sz size&&Nat.ble l u&&(Nat.ble u len||Nat.ble (o+u*size) (cF vs))then
       bif Nat.blt l len||Nat.blt l u then some (.slice (some ⟨b,o+l*size,none⟩) (u-l) UNK,h)
       else bif Nat.beq l 0 then some (.slice (some ⟨b,o,none⟩) 0 UNK,h)
       else some (.slice (some ⟨h.next,0,none⟩) 0 UNK,h.push (.cells [] false size))
      else none
     |_=>none
    |_=>none
   else bif Nat.ble l u&&Nat.ble u cap then
    some (.slice (bif Nat.beq cap l then a else match a with|some ⟨b,o,none⟩=>some ⟨b,o+l*size,none⟩|a=>a) (u-l) (cap-l),h)
    else none
 |_,_=>none
def dn(h:Heap)(size:Nat):Value->Option (List Value×Nat)
 | .slice none n _=>bif Nat.beq n 0 then some ([],0)else none
 | .slice (some ⟨b,o,none⟩) n _=>match h.get b with
   |some (.cells vs _ _)=>let l:=cG (n*size) (cw o vs);bif Nat.beq (cF l) (n*size)then some (l,n)else none
   |_=>none
 | .slice (some ⟨_,_,some _⟩) n _=>bif Nat.beq n 0 then some ([],0)else none
 | .string s=>bif Nat.beq size 1 then some (s.data.toList.map λb=> .int .u8 b.toNat,s.size)else none
 |_=>none
def jj(h:Heap)(base size bytes:Nat)(s:Value)(new:List Value)(n:Nat):Option (Value×Heap):=
 match s with
 | .slice a len cap=>
   bif Nat.beq n 0 then(bif Nat.ble len cap then some (s,h)else none)else
   bif Nat.ble ((2*(len+n)+768)*bytes) 281474976710656 then
    match a with
    |none=>bif Nat.beq len 0&&Nat.beq cap 0 then some (.slice (some ⟨h.next,0,none⟩) n UNK,h.push (.cells new true size))else none
    |some ⟨b,o,none⟩=>match h.get b with
     |some (.cells vs own sz)=>
      bif Nat.beq cap UNK then
       bif own&&Nat.beq sz size then
        bif Nat.ble (o+(len+n)*size) (cF vs)&&eC new then
         some (.slice (some ⟨b,o,none⟩) (len+n) UNK,h.wr base b (.cells (cW vs (o+len*size) new) true sz))
        else bif Nat.beq o 0&&Nat.beq (len*size) (cF vs)&&eC new then
         some (.slice (some ⟨h.next,0,none⟩) (len+n) UNK,(h.wr base b .dead).push (.cells (dP vs new) true size))
        else none
       else none
      else bif Nat.ble (len+n) cap then
       bif own&&Nat.ble (o+(len+n)*size) (cF vs)&&eC new then
        some (.slice (some ⟨b,o,none⟩) (len+n) cap,h.wr base b (.cells (cW vs (o+len*size) new) true sz))
       else none
      else bif Nat.ble (o+len*size) (cF vs)then
       some (.slice (some ⟨h.next,0,none⟩) (len+n) UNK,h.push (.cells (dP (cG (len*size) (cw o vs)) new) true size))
      else none
     |_=>none
    |_=>none
   else none
 |_=>none
def mu(ag:Bool)(ls:List dZ)(k:Value):Nat->List (Value×Value)->Option (Option (Nat×Value))
 |_,[]=>some none
 |i,(k',v)::es=>match oS ag ls k k' with
  |some true=>some (some (i,v))
  |some false=>mu ag ls k (i+1) es
  |none=>none
def CZ{α:Type}:List α->Nat->List α
 |[],_=>[]
 |_::l,0=>l
 |x::l,i+1=>x::CZ l i
def mmA(mx:Bool)(x:Value):List Value->Option Value
 |[]=>some x
 |y::l=>match x,y with
  | .int k a, .int k' b=>if k=k' then mmA mx (.int k (if mx then(if b>a then b else a)else(if b<a then b else a))) l else none
  |_,_=>none
def bytesOf:List Value->Option (List UInt8)
 |[]=>some []
 | .int .u8 (.ofNat n)::l=>match bytesOf l with
   |some bs=>some (UInt8.ofNat n::bs)
   |none=>none
 |_=>none
def qZ(h:Heap)(c:Cv)(x:Value):Option (Value×Heap):=
 match c,x with
 | .int k, .int _ n=>some (.int k (fE k n),h)
 | .same, .string s=>some (.string s,h)
 | .toStr, .slice a n c=>match dn h 1 (.slice a n c)with
   |some (l,_)=>match bytesOf l with
    |some bs=>some (.string ⟨bs.toArray⟩,h)
    |none=>none
   |none=>none
 | .toBytes, .string s=>some (.slice (some ⟨h.next,0,none⟩) s.size UNK,h.push (.cells (s.data.toList.map λb=> .int .u8 b.toNat) true 1))
 |_,_=>none
def cO{α:Type}(x:Option Value)(k:Value->Option α):Option α:=
 match x with
 |some v=>k v
 |none=>none
def fH(x:Option (Value×Heap)):Option cU:=
 match x with
 |some (v,h)=>some (.val v h)
 |none=>none
def pG(f:Value)(args:List Value)(h:Heap):Option cU:=
 match f with
 | .func (.func g) first cap=>some (.call (.func g) (dP first.toList (dP args cap.toList)) h)
 | .func (.yield l) first cap=>match cap.toList with
   |[]=>some (.call (.yield l) (dP first.toList args) h)
   |_::_=>none
 |_=>none
def aop(h:Heap)(base:Nat)(e:Env):AOp->Option cU
 | .mov x=>cO (ev h e x) λv=>some (.val v h)
 | .pick c a b=>match ev h e c with
   |some (.bool true)=>cO (ev h e a) λv=>some (.val v h)
   |some (.bool false)=>cO (ev h e b) λv=>some (.val v h)
   |_=>none
 | .new z=>some (.val (.pointer (some ⟨h.next,0,none⟩)) (h.push (.cells z true 1)))
 | .box x=>cO (ev h e x) λv=>some (.val (.pointer (some ⟨h.next,0,none⟩)) (h.push (.cells (cellsOf v) true 1)))
 | .build z ps=>match je h e z ps with
   |some cs=>some (.val (.agg cs.toArray) h)
   |none=>none
 | .dw z n ps=>match je h e (eW n z) ps with
   |some cs=>some (.val (.slice (some ⟨h.next,0,none⟩) n n) (h.push (.cells cs true (cF z))))
   |none=>none
 | .load n a=>cO (ev h e a) λa=>cO (pP h n a) λv=>some (.val v h)
 | .store n a v=>cO (ev h e a) fun a=>cO (ev h e v) fun v=>match sB h base n v a with
   |some h'=>some (.val (.tuple #[]) h')
   |none=>none
 | .cg x=>cO (ev h e x) fun v=>match v with
   | .pointer none| .nilIface| .nilFunc=>none
   | .func (.method _) _ _=>none
   |v=>some (.val v h)
 | .bin (.num op) x y=>cO (ev h e x) λx=>cO (ev h e y) λy=>cO (an op x y) λv=>some (.val v h)
 | .bin (.beq neq) x y=>match ev h e x,ev h e y with
   |some (.bool a),some (.bool b)=>some (.val (.bool (bif neq then !(a==b)else a==b)) h)
   |_,_=>none
 | .bin (.nil k neq) x y=>cO (ev h e x) fun x=>cO (ev h e y) fun y=>match pS k x y with
   |some b=>some (.val (.bool (bif neq then !b else b)) h)
   |none=>none
 | .bin (.agg neq ls) x y=>cO (ev h e x) fun x=>cO (ev h e y) fun y=>match x,y with
   | .agg xs, .agg ys=>match bF ls xs.toList ys.toList with
     |some b=>some (.val (.bool (bif neq then !b else b)) h)
     |none=>none
   |_,_=>none
 | .un op x=>cO (ev h e x) λx=>cO (yp op x) λv=>some (.val v h)
 | .conv c x=>cO (ev h e x) λx=>fH (qZ h c x)
 | .iK t x=>cO (ev h e x) λv=>some (.val (.iface t v) h)
 | .dV fn fs cs=>match evs h e fs,evs h e cs with
   |some fs,some cs=>some (.val (.func fn fs.toArray cs.toArray) h)
   |_,_=>none
 | .mkMap=>some (.val (.map (some h.next)) (h.push (.map [])))
 | .mkSlice z bytes l c=>match ev h e l,ev h e c with
   |some l,some c=>match pQ l,pQ c with
    |some l,some c=>bif Nat.ble l c&&Nat.ble (bytes*c) 281474976710656&&Nat.blt c UNK then
     some (.val (.slice (some ⟨h.next,0,none⟩) l c) (h.push (.cells (eW c z) true (cF z))))
     else none
    |_,_=>none
   |_,_=>none
 | .slice .str x lo hi none=>match ev h e x with
   |some (.string s)=>match bnd h e 0 lo,bnd h e s.size hi with
    |some l,some u=>bif Nat.ble l u&&Nat.ble u s.size then some (.val (.string (s.extract l u)) h)else none
    |_,_=>none
   |_=>none
 | .slice (.sl size) x lo hi mx=>match ev h e x with
   |some (.slice a len cap)=>fH (iM h e size a len cap lo hi mx)
   |_=>none
 | .slice (.arr n size) x lo hi mx=>match ev h e x with
   |some (.pointer (some a))=>fH (iM h e size (some a) n n lo hi mx)
   |_=>none
 | .slice .str _ _ _ (some _)=>none
 | .dz off x=>match ev h e x with
   |some (.pointer (some ⟨b,o,none⟩))=>some (.val (.pointer (some ⟨b,o+off,none⟩)) h)
   |_=>none
 | .field off n x=>match ev h e x with
   |some (.agg cs)=>match n with
    |none=>cO (bK cs.toList off) λv=>some (.val v h)
    |some n=>let l:=cG n (cw off cs.toList);bif Nat.beq (cF l) n then some (.val (.agg l.toArray) h)else none
   |_=>none
 | .dB len size x i=>match ev h e x,ev h e i with
   |some (.pointer (some ⟨b,o,none⟩)),some (.int _ (.ofNat i))=>bif Nat.blt i len then some (.val (.pointer (some ⟨b,o+i*size,none⟩)) h)else none
   |_,_=>none
 | .aQ size x i=>match ev h e x,ev h e i with
   |some (.slice (some ⟨b,o,none⟩) len _),some (.int _ (.ofNat i))=>bif Nat.blt i len then some (.val (.pointer (some ⟨b,o+i*size,none⟩)) h)else none
   |_,_=>none
 | .rL len size n x i=>match ev h e x,ev h e i with
   |some (.agg cs),some (.int _ (.ofNat i))=>bif Nat.blt i len then
    match n with
    |none=>cO (bK cs.toList (i*size)) λv=>some (.val v h)
    |some n=>let l:=cG n (cw (i*size) cs.toList);bif Nat.beq (cF l) n then some (.val (.agg l.toArray) h)else none
    else none
   |_,_=>none
 | .jC x i=>match ev h e x,ev h e i with
   |some (.string s),some (.int _ (.ofNat i))=>match bK s.data.toList i with
    |some b=>some (.val (.int .u8 b.toNat) h)
    |none=>none
   |_,_=>none
 | .lookup ag ls z ok m k=>match ev h e m,ev h e k with
   |some (.map none),some k=>bif jr ag ls k then some (.val (bif ok then .tuple #[z, .bool false]else z) h)else none
   |some (.map (some r)),some k=>match rT (h.get r)with
    |some es=>bif jr ag ls k then match mu ag ls k 0 es with
     |some (some (_,v))=>some (.val (bif ok then .tuple #[v, .bool true]else v) h)
     |some none=>some (.val (bif ok then .tuple #[z, .bool false]else z) h)
     |none=>none else none
    |none=>none
   |_,_=>none
 | .mE ag ls m k v=>match ev h e m,ev h e k,ev h e v with
   |some (.map (some r)),some k,some v=>match h.get r with
    |some (.map es)=>bif jr ag ls k then match mu ag ls k 0 es with
     |some (some (i,_))=>some (.val (.tuple #[]) (h.wr base r (.map (rS es i (k,v)))))
     |some none=>some (.val (.tuple #[]) (h.wr base r (.map (dP es [(k,v)]))))
     |none=>none else none
    |_=>none
   |_,_,_=>none
 | .jT t ok z x=>match ev h e x with
   |some .nilIface=>bif ok then some (.val (.tuple #[z, .bool false]) h)else none
   |some (.iface t' v)=>if t'=t then some (.val (bif ok then .tuple #[v, .bool true]else v) h)
    else bif ok then some (.val (.tuple #[z, .bool false]) h)else none
   |_=>none
 | .extract t i=>match ev h e t with
   |some (.tuple vs)=>cO (bK vs.toList i) λv=>some (.val v h)
   |_=>none
 | .call f args=>match ev h e f,evs h e args with
   |some f,some args=>pG f args h
   |_,_=>none
 | .len 0 x=>match ev h e x with
   |some (.string s)=>some (.val (.int .i64 s.size) h)
   |_=>none
 | .len 1 x=>match ev h e x with
   |some (.slice _ n _)=>some (.val (.int .i64 n) h)
   |_=>none
 | .len _ x=>match ev h e x with
   |some (.map none)=>some (.val (.int .i64 0) h)
   |some (.map (some r))=>match rT (h.get r)with
    |some es=>some (.val (.int .i64 (cF es)) h)
    |none=>none
   |_=>none
 | .j9 n=>some (.val (.int .i64 n) h)
 | .cap x=>match ev h e x with
   |some (.slice _ _ c)=>bif Nat.beq c UNK then none else some (.val (.int .i64 c) h)
   |_=>none
 | .append size bytes s x=>match ev h e s,ev h e x with
   |some s,some x=>match dn h size x with
    |some (l,n)=>fH (jj h base size bytes s l n)
    |none=>none
   |_,_=>none
 | .kG z bytes s n=>match ev h e s,ev h e n with
   |some s,some n=>match pQ n with
    |some n=>bif Nat.blt n 9223372036854775808&&Nat.ble (n*bytes) 281474976710656 then fH (jj h base (cF z) bytes s (eW n z) n)else none
    |none=>none
   |_,_=>none
 | .copy size d s=>match ev h e d,ev h e s with
   |some (.slice a dl _),some s=>match dn h size s with
    |some (l,n)=>
     let m:=Nat.min n dl
     match a with
     |none=>some (.val (.int .i64 m) h)
     |some ⟨b,o,none⟩=>match h.get b with
      |some (.cells vs true sz)=>bif Nat.ble (o+m*size) (cF vs)&&eC (cG (m*size) l)then
       some (.val (.int .i64 m) (h.wr base b (.cells (cW vs o (cG (m*size) l)) true sz)))
       else none
      |_=>none
     |_=>none
    |none=>none
   |_,_=>none
 | .clear z x=>match ev h e x with
   |some (.slice a n _)=>
    bif Nat.beq n 0 then some (.val (.tuple #[]) h)else
    match a with
    |none=>some (.val (.tuple #[]) h)
    |some ⟨b,o,none⟩=>match h.get b with
     |some (.cells vs true sz)=>bif Nat.ble (o+cF (eW n z)) (cF vs)&&eC (eW n z)then some (.val (.tuple #[]) (h.wr base b (.cells (cW vs o (eW n z)) true sz)))else none
     |_=>none
    |_=>none
   |_=>none
 | .eF mx args=>match evs h e args with
   |some (x::l)=>cO (mmA mx x l) λv=>some (.val v h)
   |_=>none
 | .delete ag ls m k=>match ev h e m,ev h e k with
   |some (.map (some r)),some k=>match h.get r with
    |some (.map es)=>bif jr ag ls k then match mu ag ls k 0 es with
     |some (some (i,_))=>some (.val (.tuple #[]) (h.wr base r (.map (CZ es i))))
     |some none=>some (.val (.tuple #[]) (h.wr base r (.map es)))
     |none=>none else none
    |_=>none
   |some (.map none),some k=>bif jr ag ls k then some (.val (.tuple #[]) h)else none
   |_,_=>none
 | .jI f args=>match ev h e f,evs h e args with
   |some (.func (.func g) first cap),some args=>some (.jI (.func (.func g) first cap) args)
   |_,_=>none
 | .recover=>some .recover
 | .tB x=>cO (ev h e x) fun v=>match v with
   | .iface _ _=>some (.panic v h)
   |_=>none
 | .range x=>match ev h e x with
   |some (.string s)=>some (.val (.pointer (some ⟨h.next,0,none⟩)) (h.push (.lN s 0)))
   |_=>none
 | .next x true=>match ev h e x with
   |some (.pointer (some ⟨r,0,none⟩))=>match h.get r with
    |some (.lN s pos)=>bif Nat.blt pos s.size then
     let d:=Utf8.decode s pos
     some (.val (.tuple #[.bool true, .int .i64 pos, .int .i32 d.1]) (h.wr base r (.lN s (pos+d.2))))
     else some (.val (.tuple #[.bool false]) h)
    |_=>none
   |_=>none
 | .next _ false=>none
 | .nq _=>none
 | .entry _=>none
inductive Res
 |ret (v:Value)
 |panic (v:Value)
 deriving Inhabited
def dM:Nat->List Value->Env
 |_,[]=>[]
 |i,v::vs=>(i,v)::dM (i+1) vs
def bL(h:Heap)(e:Env):List (Nat×Option (Option Nat))->Option (List Value)
 |[]=>some []
 |(t,none)::rs=>match geT e t with
  |some v=>match bL h e rs with
   |some vs=>some (v::vs)
   |none=>none
  |none=>none
 |(t,some n)::rs=>match geT e t with
  |some a=>match pP h n a with
   |some v=>match bL h e rs with
    |some vs=>some (v::vs)
    |none=>none
   |none=>none
  |none=>none
def dO:List Value->Value
 |[v]=>v
 |vs=> .tuple vs.toArray
def aB(base:Nat)(l:List Nat):List Nat->List Nat
 |[]=>l
 |b::bs=>aB base (bif Nat.blt b base then(bif fF l b then l else b::l)else l) bs
def fI(h:Heap)(base:Nat):List Nat->Bool
 |[]=>true
 |b::bs=>bif Nat.blt b base then
   match h.get b with
   |some (.cells vs _ _)=>bif cZ vs then fI h base bs else false
   |some (.map es)=>bif jf (es.map (·.1))&&jf (es.map (·.2))then fI h base bs else false
   |some .dead=>fI h base bs
   |some (.lN _ _)=>fI h base bs
   |_=>false
  else fI h base bs
def nH{α:Type}:Nat->List α->List α:=cw
def gcA(h0 h:Heap)(v:Value):Heap:=
 bif cE v&&fI h h0.next h.log then {h with cm:=nH (h.next-h0.next) h.cm,next:=h0.next}else h
def iX(e:Env):List Nat->List Value->Option Env
 |[],[]=>some e
 |t::ts,v::vs=>iX ((t,v)::e) ts vs
 |_,_=>none
def bA(e:Env):Option (Nat×Bool)->Option Bool
 |none=>some true
 |some (t,b)=>match geT e t with
  |some (.bool x)=>some (x==b)
  |some _=>some false
  |none=>none
def bN(e:Env)(d:Option Nat)(v:Value):Env:=
 match d with
 |some t=>(t,v)::e
 |none=>e
def jw:Value->Value->Bool
 | .bool a, .bool b=>a==b
 | .int k a, .int k' b=>k==k'&&a==b
 | .string a, .string b=>a.data.toList==b.data.toList
 | .pointer a, .pointer b=>a==b
 | .slice a l c, .slice b l' c'=>a==b&&l==l'&&c==c'
 | .map a, .map b=>a==b
 | .nilIface, .nilIface=>true
 | .nilFunc, .nilFunc=>true
 | .iface t (.int k a), .iface t' (.int k' b)=>t==t'&&k==k'&&a==b
 |_,_=>false
def jX:List Value->List Value->Bool
 |[],[]=>true
 |x::xs,y::ys=>bif jw x y then jX xs ys else false
 |_,_=>false
def iL:Value->Value->Bool
 | .agg a, .agg b=>jX a.toList b.toList
 | .tuple a, .tuple b=>jX a.toList b.toList
 | .func (.func f) a' a, .func (.func g) b' b=>f==g&&(jX a'.toList b'.toList&&jX a.toList b.toList)
 |x,y=>jw x y
def SU:Option Operand->List Operand
 |some x=>[x]
 |none=>[]
def dh:AOp->List Operand
 | .mov x| .box x| .load _ x| .cg x| .un _ x| .conv _ x| .iK _ x| .dz _ x| .field _ _ x| .jT _ _ _ x| .extract x _| .len _ x| .cap x| .tB x| .range x| .next x _| .nq x| .entry x| .clear _ x=>[x]
 | .pick c a b=>[c,a,b]
 | .build _ ps| .dw _ _ ps=>ps.map (·.2.2)
 | .store _ a v=>[a,v]
 | .bin _ x y| .dB _ _ x y| .aQ _ x y| .rL _ _ _ x y| .jC x y| .mkSlice _ _ x y| .lookup _ _ _ _ x y| .delete _ _ x y| .append _ _ x y| .kG _ _ x y| .copy _ x y=>[x,y]
 | .dV _ fs cs=>dP fs cs
 | .slice _ x lo hi mx=>x::dP (SU lo) (dP (SU hi) (SU mx))
 | .mE _ _ m k v=>[m,k,v]
 | .call f as| .jI f as=>f::as
 | .eF _ as=>as
 | .new _| .mkMap| .j9 _| .recover=>[]
def Ah:List Operand->List Nat
 |[]=>[]
 | .tmp t::l=>t::Ah l
 |_::l=>Ah l
def cA(o:aP):List Nat:=
 match o.guard with
 |some (t,_)=>t::Ah (dh o.op)
 |none=>Ah (dh o.op)
def cQ:AOp->Bool
 | .mov _| .pick .. | .build .. | .load .. | .cg _| .bin .. | .un .. | .iK .. | .dV .. | .dz .. | .field .. | .dB .. | .aQ .. | .rL .. | .jC .. | .lookup .. | .jT .. | .extract .. | .len .. | .j9 _| .cap _| .eF .. =>true
 | .conv .toBytes _=>false
 | .conv _ _=>true
 | .slice .. =>true
 |_=>false
def mF:List Operand->Bool
 |[]=>true
 | .global _::_=>false
 |_::l=>mF l
def dF:AOp->Bool
 | .new _| .mkMap=>true
 | .box x=>mF [x]
 | .mkSlice _ _ l c=>mF [l,c]
 | .dw z n ps=>mF (ps.map (·.2.2))
 |_=>false
def jb(o:AOp):Bool:=cQ o||dF o
inductive Rk
 |skip|quiet|made (b:Nat)
structure Rec where
 i:Nat
 o:aP
 e:Env
 v:Value
 k:Rk
def si(h:Heap)(base:Nat)(r:Rec):Bool:=
 match r.k with
 | .quiet=>match aop h base r.e r.o.op with
   |some (.val v' h2)=>iL r.v v'&&Nat.beq h2.next h.next
   |_=>false
 |_=>true
def mS(h:Heap)(base:Nat):List Rec->Bool
 |[]=>true
 |r::rs=>bif si h base r then mS h base rs else false
def It(log:List Nat)(r:Rec):Bool:=
 match r.k with
 | .made b=> !fF log b
 |_=>true
def oW(bf:List Nat)(i:Nat):List Nat->Bool
 |[]=>true
 |j::js=>match bK bf j with
  |some m=>bif Nat.testBit m i then oW bf i js else false
  |none=>false
def br(h:Heap)(base:Nat)(log:List Nat)(mask:Nat):List Rec->Option (List Rec)
 |[]=>some []
 |r::rs=>bif Nat.testBit mask r.i then br h base log mask rs else
  bif si h base r&&It log r then match br h base log mask rs with
   |some rs'=>some (r::rs')
   |none=>none
  else none
def nr(h:Heap):Option Nat->Bool
 |none=>true
 |some l=>match h.get l with
  |some (.loop _ _ _ _ _ _)=>true
  |_=>false
def notReady:Option bM->Bool
 |some (.loop _ _ _ _ 0 .normal)=>false
 |_=>true
def gw:Option aq->Bool
 |some (.code _ _)=>false
 |_=>true
abbrev Dfs:=List (Value×List Value)
def DY(e2:Env):Env->Bool
 |[]=>true
 |(t,v)::e=>match geT e2 t with
  |some v'=>bif iL v v' then DY e2 e else false
  |none=>false
def xm(e:Env):Env->Bool
 |[]=>true
 |(t,v)::e2=>bif flat v then xm e e2 else match geT e t with
  |some v'=>bif iL v v' then xm e e2 else false
  |none=>false
def tD:Env->Env->Bool
 |[],[]=>true
 |(t,v)::e,(t',v')::e'=>bif Nat.beq t t' then bif iL v v' then tD e e' else false else false
 |_,_=>false
def Ga(nxt:Nat)(e eo:Env)(x:bk)(e2:Env)(r:Option (bk×Env)):Option (Option (bk×Env)):=
 match x with
 | .normal=>bif DY e2 e then some r else none
 | .panic _=>none
 | .exit i=>bif Nat.beq i nxt then(bif DY e2 e then some r else none)else
   bif xm eo e2 then match r with
    |none=>some (some (.exit i,e2))
    |some (.exit j,e3)=>bif Nat.beq i j&&tD e2 e3 then some r else none
    |_=>none
   else none
 | .ret=>bif xm eo e2 then match r with
  |none=>some (some (.ret,e2))
  |some (.ret,e3)=>bif tD e2 e3 then some r else none
  |_=>none
   else none
def ng(fo:Env->Heap->Option (bk×Env×Dfs×Heap))(fe:Env->Heap->Option (bk×Env×Dfs×Heap))(nxt pr:Nat)(k2:List Nat)(e eo:Env)(h:Heap):List (Value×Value)->Option (Option (bk×Env))
 |[]=>some none
 |(k,v)::es=>match fo ((pr, .tuple #[k,v])::e) h with
  |some (.normal,e1,[],h1)=>match fe (bD e1 k2) h1 with
   |some (x,e2,[],h2)=>match h2.log with
    |[]=>match ng fo fe nxt pr k2 e eo h es with
     |some r=>Ga nxt e eo x e2 r
     |none=>none
    |_::_=>none
   |_=>none
  |_=>none
def Hl(out:Nat)(e0:Env)(h:Heap):Option (Option (bk×Env))->Option (bk×Env×Dfs×Heap)
 |some none=>some (.normal,e0,[],h)
 |some (some (.exit i,e'))=>bif Nat.beq i out then some (.normal,e',[],h)else some (.exit i,e',[],h)
 |some (some (.ret,e'))=>some (.ret,e',[],h)
 |_=>none
def roM(h:Heap)(m:Nat)(es:List (Value×Value)):Heap:={h with cm:=iS h.cm m (.qX es),log:=[]}
def itE(it:Nat)(h:Heap)(e:Env):Env:=(it, .pointer (some ⟨h.next,0,none⟩))::e
mutual
def cC(T:Nat->Option aq):Nat->Nat->Option Nat->aN->Env->Dfs->Heap->Option (bk×Env×Dfs×Heap)
 |0,_,_,_,_,_,_=>none
 |n+1,base,rnd,c,e,ds,h=>
  match c with
  | .skip=>some (.normal,e,ds,h)
  | .region ops keep=>match fZ T n base rnd ops e ds h with
    |some (.normal,e',ds',h')=>some (.normal,bD e' keep,ds',h')
    |r=>r
  | .draw ops order before keep=>match dU T n base ops order before [] e h with
    |some (.normal,e',h')=>some (.normal,bD e' keep,ds,h')
    |some (x,e',h')=>some (x,e',ds,h')
    |none=>none
  | .seq a b=>match cC T n base rnd a e ds h with
    |some (.normal,e',ds',h')=>cC T n base rnd b e' ds' h'
    |r=>r
  | .cond c a b=>match ev h e c with
    |some (.bool true)=>cC T n base rnd a e ds h
    |some (.bool false)=>cC T n base rnd b e ds h
    |_=>none
  | .block id b=>match cC T n base rnd b e ds h with
    |some (.exit i,e',ds',h')=>bif Nat.beq i id then some (.normal,e',ds',h')else some (.exit i,e',ds',h')
    |r=>r
  | .loop b=>match cC T n base rnd b e ds h with
    |some (.normal,e',ds',h')=>cC T n base rnd (.loop b) e' ds' h'
    |r=>r
  | .scope b=>cC T n base rnd b e ds h
  | .rangeFunc f ps asg body=>bif nr h rnd then match ev h e f with
    |some (.func (.func g) first cap)=>bif gw (T g)then none else
     match iJ T n g (dP first.toList (dP [.func (.yield h.next) #[] #[]] cap.toList)) {h.push (.loop e ps asg body 0 .normal)with log:=[]}with
     |some (.ret _,h2)=>match h2.get h.next with
      |some (.loop _ _ _ _ st iN)=>bif Nat.beq st 1 then none else
       some (iN,e,ds,Heap.wr {h2 with log:=aB base h.log h2.log} base h.next .dead)
      |_=>none
     |some (.panic v,h2)=>some (.panic v,e,ds,{h2 with log:=aB base h.log h2.log})
     |none=>none
    |_=>none
    else none
  | .rangeMap ops it x keep out nxt pr ops2 k2 body=>match fZ T n base rnd ops e ds h with
    |some (.normal,e0,ds0,h0)=>match ds0 with
     |_::_=>none
     |[]=>match ev h0 e0 x with
      |some (.map none)=>some (.normal,bD e0 keep,[],h0)
      |some (.map (some m))=>match h0.get m with
       |some (.map es)=>Hl out (bD e0 keep) h0 (ng (λe h=>fZ T n (h0.next+1) rnd ops2 e [] h) (λe h=>cC T n (h0.next+1) rnd body e [] h) nxt pr k2 (itE it h0 (bD e0 keep)) (bD e0 keep) ((roM h0 m es).push .dead) es)
       |_=>none
      |_=>none
    |r=>r
  | .exit id=>some (.exit id,e,ds,h)
  | .ret=>some (.ret,e,ds,h)
def fZ(T:Nat->Option aq):Nat->Nat->Option Nat->List aP->Env->Dfs->Heap->Option (bk×Env×Dfs×Heap)
 |0,_,_,_,_,_,_=>none
 |n+1,base,rnd,ops,e,ds,h=>
  match ops with
  |[]=>some (.normal,e,ds,h)
  |o::os=>match bA e o.guard with
   |some false=>fZ T n base rnd os (bN e o.dst (.tuple #[])) ds h
   |some true=>match aop h base e o.op with
    |some (.val v h')=>fZ T n base rnd os (bN e o.dst v) ds h'
    |some (.call fn args h')=>match gG T n fn args {h' with log:=[]}with
     |some (.ret v,h2)=>fZ T n base rnd os (bN e o.dst v) ds {h2 with log:=aB base h'.log h2.log}
     |some (.panic v,h2)=>some (.panic v,e,ds,{h2 with log:=aB base h'.log h2.log})
     |none=>none
    |some (.jI f args)=>match rnd with|some _=>none|none=>fZ T n base rnd os (bN e o.dst (.tuple #[])) ((f,args)::ds) h
    |some (.panic v h')=>some (.panic v,e,ds,h')
    |_=>none
   |none=>none
def dU(T:Nat->Option aq):Nat->Nat->List aP->List Nat->List Nat->List Rec->Env->Heap->Option (bk×Env×Heap)
 |0,_,_,_,_,_,_,_=>none
 |n+1,base,ops,order,before,rs,e,h=>
  match order with
  |[]=>some (.normal,e,h)
  |i::is=>match bK ops i,bK before i with
   |some o,some mask=>
    match bA (bD e (cA o)) o.guard with
    |some false=>dU T n base ops is before (⟨i,o,bD e (cA o), .tuple #[], .skip⟩::rs) (bN e o.dst (.tuple #[])) h
    |some true=>
     bif jb o.op then
      match aop h base (bD e (cA o)) o.op with
      |some (.val v h')=>
       bif dF o.op then
        bif mS h' base rs then dU T n base ops is before (⟨i,o,bD e (cA o),v, .made h.next⟩::rs) (bN e o.dst v) h' else none
       else bif Nat.beq h'.next h.next then dU T n base ops is before (⟨i,o,bD e (cA o),v, .quiet⟩::rs) (bN e o.dst v) h
       else bif oW before i is then
        match aop {h with log:=[]} h.next (bD e (cA o)) o.op with
        |some (.val v h2)=>match br {h2 with log:=aB base h.log h2.log} base h2.log mask rs with
         |some rs'=>dU T n base ops is before rs' (bN e o.dst v) {h2 with log:=aB base h.log h2.log}
         |none=>none
        |_=>none
       else none
      |_=>none
     else
      match aop {h with log:=[]} h.next (bD e (cA o)) o.op with
      |some (.val v h2)=>match br {h2 with log:=aB base h.log h2.log} base h2.log mask rs with
       |some rs'=>dU T n base ops is before rs' (bN e o.dst v) {h2 with log:=aB base h.log h2.log}
       |none=>none
      |some (.call fn args _)=>match gG T n fn args {h with log:=[]}with
       |some (.ret v,h2)=>match br {h2 with log:=aB base h.log h2.log} base h2.log mask rs with
        |some rs'=>dU T n base ops is before rs' (bN e o.dst v) {h2 with log:=aB base h.log h2.log}
        |none=>none
       |some (.panic v,h2)=>some (.panic v,[],{h2 with log:=aB base h.log h2.log})
       |none=>none
      |_=>none
    |none=>none
   |_,_=>none
def gG(T:Nat->Option aq):Nat->Fn->List Value->Heap->Option (Res×Heap)
 |0,_,_,_=>none
 |n+1,fn,args,h=>
  match fn with
  | .func f=>iJ T n f args h
  | .yield l=>match h.get l with
    |some (.loop e ps asg body 0 .normal)=>match iX e ps args with
     |some e1=>match cC T n h.next (some l) asg e1 [] h with
      |some (.normal,e2,ds2,h2)=>bif notReady (h2.get l)then none else match cC T n h.next (some l) body e2 ds2 {h2 with cm:=iS h2.cm l (.loop e ps asg body 1 .normal)}with
       |some (.normal,_,_,h3)=>match h3.get l with
        |some (.loop _ _ _ _ 1 _)=>some (.ret (.bool true),gcA h {h3 with cm:=iS h3.cm l (.loop e ps asg body 0 .normal)} (.bool true))
        |_=>none
       |some (.exit i,_,_,h3)=>match h3.get l with
        |some (.loop _ _ _ _ 1 _)=>some (.ret (.bool false),h3.wr h.next l (.loop e ps asg body 2 (.exit i)))
        |_=>none
       |some (.ret,_,_,h3)=>match h3.get l with
        |some (.loop _ _ _ _ 1 _)=>some (.ret (.bool false),h3.wr h.next l (.loop e ps asg body 2 .ret))
        |_=>none
       |_=>none
      |_=>none
     |none=>none
    |_=>none
  |_=>none
def iJ(T:Nat->Option aq):Nat->Nat->List Value->Heap->Option (Res×Heap)
 |0,_,_,_=>none
 |n+1,f,args,h=>
  match T f with
  |none=>none
  |some (.lD p)=>match p args h with
   |some (v,h')=>some (.ret v,h')
   |none=>none
  |some (.code code results)=>match cC T n h.next none code (dM 0 args) [] h with
   |some (.panic v,e,ds,h1)=>nE T n results ds (some v) e h h1
   |some (.exit _,_,_,_)=>none
   |some (_,e,ds,h1)=>nE T n results ds none e h h1
   |none=>none
def nE(T:Nat->Option aq):Nat->List (Nat×Option (Option Nat))->Dfs->Option Value->Env->Heap->Heap->Option (Res×Heap)
 |0,_,_,_,_,_,_=>none
 |n+1,results,ds,pan,e,h,h1=>
  match ds with
  |[]=>match pan with
   |some v=>some (.panic v,h1)
   |none=>match bL h1 e results with
    |some vs=>some (.ret (dO vs),gcA h h1 (dO vs))
    |none=>none
  |(.func (.func g) first cap,args)::ds=>match jF T n g (dP first.toList (dP args cap.toList)) pan {h1 with log:=[]}with
   |some (pan',h2)=>nE T n results ds pan' e h {h2 with log:=aB h.next h1.log h2.log}
   |none=>none
  |_=>none
def jF(T:Nat->Option aq):Nat->Nat->List Value->Option Value->Heap->Option (Option Value×Heap)
 |0,_,_,_,_=>none
 |n+1,g,args,pan,h=>
  match T g with
  |some (.code code [])=>match gH T n h.next code (dM 0 args) pan h with
   |some (.normal,_,pan',h')=>some (pan',h')
   |some (.ret,_,pan',h')=>some (pan',h')
   |_=>none
  |_=>none
def gH(T:Nat->Option aq):Nat->Nat->aN->Env->Option Value->Heap->Option (bk×Env×Option Value×Heap)
 |0,_,_,_,_,_=>none
 |n+1,base,c,e,pan,h=>
  match c with
  | .skip=>some (.normal,e,pan,h)
  | .region ops keep=>match iO T n base ops e pan h with
    |some (.normal,e',pan',h')=>some (.normal,bD e' keep,pan',h')
    |r=>r
  | .seq a b=>match gH T n base a e pan h with
    |some (.normal,e',pan',h')=>gH T n base b e' pan' h'
    |r=>r
  | .cond c a b=>match ev h e c with
    |some (.bool true)=>gH T n base a e pan h
    |some (.bool false)=>gH T n base b e pan h
    |_=>none
  | .ret=>some (.ret,e,pan,h)
  |_=>none
def iO(T:Nat->Option aq):Nat->Nat->List aP->Env->Option Value->Heap->Option (bk×Env×Option Value×Heap)
 |0,_,_,_,_,_=>none
 |n+1,base,ops,e,pan,h=>
  match ops with
  |[]=>some (.normal,e,pan,h)
  |o::os=>match bA e o.guard with
   |some false=>iO T n base os (bN e o.dst (.tuple #[])) pan h
   |some true=>match aop h base e o.op with
    |some (.val v h')=>iO T n base os (bN e o.dst v) pan h'
    |some .recover=>match pan with
     |some v=>iO T n base os (bN e o.dst v) none h
     |none=>iO T n base os (bN e o.dst .nilIface) none h
    |_=>none
   |none=>none
end
def aH(P:Program):Operand->Bool
 | .const v=>cE v
 | .global g=>Nat.blt g P.globals.size
 |_=>true
def dX(P:Program)(t:TypeId):Option Nat:=(P.info? t).map (·.size)
def j5(P:Program)(t:TypeId):Option Nat:=(P.info? t).map (·.bytes)
def iz(P:Program)(t:TypeId):Option Value:=(P.info? t).bind (·.zero)
def vR(P:Program)(t:TypeId):Option (Option Nat):=
 match P.underlying t with
 |some (.struct _)|some (.array _ _)=>(dX P t).map some
 |some _=>some none
 |none=>none
def goL(P:Program)(lf:TypeId->Option (List dZ)):Nat->List Field->Option (List dZ)
 |_,[]=>some []
 |off,f::fs=>if f.name= "_" ∨f.offset≠off then none else match lf f.type,dX P f.type with
  |some l,some s=>if l.length=s then match goL P lf (off+s) fs with
   |some m=>some (dP l m)
   |none=>none
   else none
  |_,_=>none
def dN(P:Program):Nat->TypeId->Option (List dZ)
 |0,_=>none
 |d+1,t=>match P.underlying t with
  |some .bool=>some [.b]
  |some (.int k)=>some [.i k]
  |some .string=>some [.s]
  |some (.array n e)=>match dN P d e,dX P e with
   |some l,some s=>if l.length=s then some (eW n l)else none
   |_,_=>none
  |some (.struct fs)=>if P.stoodInHeld t then none else goL P (dN P d) 0 fs.toList
  |_=>none
def fm(P:Program)(t:TypeId):Bool:=
 match P.underlying t with
 |some (.struct _)|some (.array _ _)=>true
 |_=>false
def nJ:Operand->Bool
 | .const _=>true
 |_=>false
def wX:BinOp->Option Bool
 | .eql=>some false
 | .neq=>some true
 |_=>none
def pY(place:Nat->Option (Nat×Nat)):List (Nat×Operand)->Option (List (Nat×Nat×Operand))
 |[]=>some []
 |(i,x)::ps=>match place i,pY place ps with
  |some (o,s),some l=>some ((o,s,x)::l)
  |_,_=>none
def gO(P:Program)(o:Op):Option AOp:=
 if o.operands.toList.all (aH P)then
 match o with
 | .move x| .assign x=>some (.mov x)
 | .pick c a b=>some (.pick c a b)
 | .alloc t=>match iz P t with
   |some z=>if cZ (cellsOf z)then some (.new (cellsOf z))else none
   |none=>none
 | .box _ x=>some (.box x)
 | .build t ps=>match iz P t,P.underlying t with
   |some z,some (.struct fs)=>if cZ (cellsOf z)/\fs.toList.all (λf=>(dX P f.type).isSome)then(pY (λi=>(fs[i]?).map λf=>(f.offset,P.cellsOf f.type)) ps.toList).map (.build (cellsOf z))else none
   |some z,some (.array _ e)=>match dX P e with
    |some s=>if cZ (cellsOf z)then(pY (λi=>some (i*s,s)) ps.toList).map (.build (cellsOf z))else none
    |none=>none
   |_,_=>none
 | .buildSlice t n ps=>match P.underlying t with
   |some (.slice e)=>match dX P e,iz P e with
    |some s,some z=>if n*s<=2 ^ 24/\cF (cellsOf z)=s/\s≠0/\cZ (cellsOf z)then(pY (λi=>some (i*s,s)) ps.toList).map (.dw (cellsOf z) n)else none
    |_,_=>none
   |_=>none
 | .load t a=>(vR P t).map λn=> .load n a
 | .store t a v=>(dX P t).map λn=> .store n a v
 | .nilCheck x=>some (.cg x)
 | .binOp op t x y _=>
   match P.underlying t with
   |some (.struct _)|some (.array _ _)=>match op,dN P 100 t with
    | .eql,some ls=>if P.eqGuardType P.depth t then none else some (.bin (.agg false ls) x y)
    | .neq,some ls=>if P.eqGuardType P.depth t then none else some (.bin (.agg true ls) x y)
    |_,_=>none
   |some (.interface _)=>if nJ x||nJ y then(wX op).map λn=> .bin (.nil .iface n) x y else none
   |some (.pointer _)=>(wX op).map λn=> .bin (.nil .ptr n) x y
   |some (.slice _)=>(wX op).map λn=> .bin (.nil .sl n) x y
   |some (.map _ _)=>(wX op).map λn=> .bin (.nil .map n) x y
   |some (.func _ _ _)=>(wX op).map λn=> .bin (.nil .func n) x y
   |some .bool=>(wX op).map λn=> .bin (.beq n) x y
   |some (.int _)=>some (.bin (.num op) x y)
   |some .string=>some (.bin (.num op) x y)
   |_=>none
 | .unOp op _ x=>some (.un op x)
 | .convert s d x=>match P.underlying s,P.underlying d with
   |some (.int _),some (.int k)=>some (.conv (.int k) x)
   |some .string,some .string=>some (.conv .same x)
   |some (.slice e),some .string=>match P.underlying e with
    |some (.int .u8)=>some (.conv .toStr x)
    |_=>none
   |some .string,some (.slice e)=>match P.underlying e with
    |some (.int .u8)=>some (.conv .toBytes x)
    |_=>none
   |_,_=>none
 | .makeInterface t x=>match P.underlying t with
   |some (.interface _)=>none
   |some _=>some (.iK t x)
   |none=>none
 | .makeFunc (.func f) fs cs=>some (.dV (.func f) fs.toList cs.toList)
 | .makeMap _ none=>some .mkMap
 | .makeMap t (some (.const (.int _ _)))=>match P.underlying t with
   |some (.map _ _)=>some .mkMap
   |_=>none
 | .makeSlice t l c=>match P.underlying t with
   |some (.slice e)=>match dX P e,iz P e,j5 P e with
    |some s,some z,some b=>if cF (cellsOf z)=s/\s≠0/\cZ (cellsOf z)then some (.mkSlice (cellsOf z) b l c)else none
    |_,_,_=>none
   |_=>none
 | .slice t x lo hi mx=>if mx.isSome&&hi.isNone then none else match P.underlying t with
   |some .string=>match mx with
    |none=>some (.slice .str x lo hi none)
    |some _=>none
   |some (.slice e)=>(dX P e).map λs=> .slice (.sl s) x lo hi mx
   |some (.array n e)=>if n<UNK then(dX P e).map λs=> .slice (.arr n s) x lo hi mx else none
   |some (.pointer a)=>match P.underlying a with
    |some (.array n e)=>if n<UNK then(dX P e).map λs=> .slice (.arr n s) x lo hi mx else none
    |_=>none
   |_=>none
 | .fieldAddr s x f=>match P.underlying s with
   |some (.struct fs)=>match fs[f]? with
    |some f=>match dX P f.type with
     |some (_+1)=>some (.dz f.offset x)
     |_=>none
    |none=>none
   |_=>none
 | .field s x f=>match P.underlying s with
   |some (.struct fs)=>match fs[f]? with
    |some f=>(vR P f.type).map λn=> .field f.offset n x
    |none=>none
   |_=>none
 | .indexAddr t x i=>match P.underlying t with
   |some (.array n e)=>(dX P e).map λs=> .dB n s x i
   |some (.slice e)=>(dX P e).map λs=> .aQ s x i
   |_=>none
 | .index t x i=>match P.underlying t with
   |some (.array n e)=>match dX P e,vR P e with
    |some s,some a=>some (.rL n s a x i)
    |_,_=>none
   |some .string=>some (.jC x i)
   |_=>none
 | .lookup t m k ok=>match P.underlying t with
   |some (.map kt e)=>match dN P 100 kt,iz P e with
    |some ls,some z=>if flat z then some (.lookup (fm P kt) ls z ok m k)else none
    |_,_=>none
   |_=>none
 | .mapUpdate t m k v=>match P.underlying t with
   |some (.map kt _)=>match dN P 100 kt with
    |some ls=>some (.mE (fm P kt) ls m k v)
    |none=>none
   |_=>none
 | .typeAssert x _ a ok=>match P.underlying a with
   |some (.interface _)=>none
   |some _=>match iz P a with
    |some z=>if flat z then some (.jT a ok z x)else none
    |none=>none
   |none=>none
 | .extract t i=>some (.extract t i)
 | .panic x=>some (.tB x)
 | .range t x=>match P.underlying t with
   |some .string=>some (.range x)
   |some (.map _ _)=>some (.nq x)
   |_=>none
 | .next x s=>some (.next x s)
 | .entry x=>some (.entry x)
 | .call c=>match c.callee with
   | .value f=>some (.call f c.args.toList)
   | .invoke _ _=>none
   | .builtin b=>match b,c.argTypes.toList,c.args.toList with
     | .len,[t],[x]=>match P.underlying t with
       |some .string=>some (.len 0 x)
       |some (.slice _)=>some (.len 1 x)
       |some (.map _ _)=>some (.len 2 x)
       |some (.array n _)=>some (.j9 n)
       |some (.pointer a)=>match P.underlying a with
        |some (.array n _)=>some (.j9 n)
        |_=>none
       |_=>none
     | .cap,[t],[x]=>match P.underlying t with
       |some (.slice _)=>some (.cap x)
       |_=>none
     | .append,[st,xt],[s,x]=>match P.underlying st,P.underlying xt with
       |some (.slice e),some (.int _)=>match iz P e,j5 P e,dX P e with
        |some z,some b,some n=>if cF (cellsOf z)=n/\n≠0/\b≠0/\cZ (cellsOf z)then some (.kG (cellsOf z) b s x)else none
        |_,_,_=>none
       |some (.slice e),some _=>match dX P e,j5 P e,iz P e with
        |some n,some b,some z=>if cF (cellsOf z)=n/\n≠0/\b≠0/\cZ (cellsOf z)then some (.append n b s x)else none
        |_,_,_=>none
       |_,_=>none
     | .copy,[dt,_],[d,s]=>match P.underlying dt with
       |some (.slice e)=>(dX P e).map λn=> .copy n d s
       |_=>none
     | .max,_,args=>if 2<=c.args.size then some (.eF true args)else none
     | .min,_,args=>if 2<=c.args.size then some (.eF false args)else none
     | .delete,[mt,_],[m,k]=>match P.underlying mt with
       |some (.map kt _)=>match dN P 100 kt with
        |some ls=>some (.delete (fm P kt) ls m k)
        |none=>none
       |_=>none
     | .clear,[t],[x]=>match P.underlying t with
       |some (.slice e)=>match iz P e with
        |some z=>if cZ (cellsOf z)then some (.clear (cellsOf z) x)else none
        |none=>none
       |_=>none
     | .recover,_,_=>some .recover
     |_,_,_=>none
 | .defer c=>match c.callee with
   | .value f=>some (.jI f c.args.toList)
   |_=>none
 |_=>none
 else none
def lJ(nt:Nat):Option Nat->Bool
 |none=>true
 |some t=>Nat.blt t nt
def cB(P:Program)(nt:Nat)(ops:Array Oper):List Oper->Option (List aP)
 |[]=>some []
 |o::os=>if lJ nt o.dst then match gO P o.op,cB P nt ops os with
  |some a,some as=>match o.guard with
   |none=>some (⟨o.dst,a,none⟩::as)
   |some (j,b)=>match(ops[j]?).bind (·.dst)with
    |some t=>some (⟨o.dst,a,some (t,b)⟩::as)
    |none=>none
  |_,_=>none else none
def Fg(ops:List Oper)(done:List Nat):Nat->List Oper->List Nat
 |_,[]=>[]
 |i,o::os=>
  if !fF done i&&(o.after.toList.all λe=> !Region.binds .any e||fF done e.on)then i::Fg ops done (i+1) os else Fg ops done (i+1) os
def eager(ops:List Oper)(q:List Bool):Nat->List Nat->List Nat
 |0,done=>done.reverse
 |n+1,done=>
  let r:=Fg ops done 0 ops
  match r.find? (λi=>(bK q i).getD false)with
  |some i=>eager ops q n (i::done)
  |none=>match r with
   |i::_=>eager ops q n (i::done)
   |[]=>done.reverse
def EX(o:Oper):List Nat:=(o.after.toList.filter (Region.binds .any)).map (·.on)
def jt(ops:List Oper)(i:Nat):List Nat:=
 match bK ops i with
 |some o=>EX o
 |none=>[]
def topoOk(as:List aP)(ops:List Oper)(done:List Nat):List Nat->Bool
 |[]=>true
 |i::is=>(jt ops i).all (fF done)&& !fF done i&&
  (match bK as i with|some a=>jb a.op||is.all λj=>(jt ops j).any (fF (i::is))|none=>false)&&topoOk as ops (i::done) is
def PY(as:List aP)(ops:List Oper)(bf:List Nat)(n:Nat):Bool:=
 (List.range n).all fun j=>match bK as j with
   |some a=>(cA a).all λt=>(List.range n).all λp=>match bK as p with
    |some b=> !(b.dst==some t)||fF (jt ops j) p||(match bK bf p with|some m=>Nat.testBit m j|none=>false)
    |none=>false
   |none=>false
def RQ(as:List aP)(n:Nat):Bool:=
 (List.range n).all fun j=>(List.range n).all fun p=>match bK as j,bK as p with
   |some a,some b=>Nat.beq j p|| !(a.dst==b.dst)||a.dst.isNone
   |_,_=>false
def OS(ops:List Oper)(bf:List Nat)(n:Nat):Bool:=
 (List.range n).all fun i=>(List.range n).all fun p=>match bK bf i with
   |some m=> !Nat.testBit m p||(jt ops i).any λq=>Nat.beq p q||(match bK bf q with|some mq=>Nat.testBit mq p|none=>false)
   |none=>false
def wm(as:List aP)(ops:List Oper)(ord bf:List Nat):Bool:=
 Nat.beq ord.length ops.length&&ord.all (Nat.blt · ops.length)&&(List.range ops.length).all (fF ord)&&topoOk as ops [] ord&&PY as ops bf ops.length&&RQ as ops.length&&OS ops bf ops.length&&
  as.all λa=>match a.op with| .jI _ _=>false|_=>true
def yq{α:Type}:List α->Option (List α×α)
 |[]=>none
 |[x]=>some ([],x)
 |x::l=>match yq l with
  |some (l',y)=>some (x::l',y)
  |none=>none
def Rf(ops:List aP)(keep:List Nat)(out nx it1 mo nx1 mo1 out1 nxt pr it2:Nat)(ops2:List aP)(k2:List Nat)(body:aN):Option aN:=
 match yq ops with
 |some (ops0,⟨some it, .nq x,none⟩)=>
  if it1=it/\it2=it/\nx1=nx/\mo1=mo/\out1=out/\nx≠mo/\it≠nx/\it≠mo then
   some (.rangeMap ops0 it x (keep.filter λt=> !(Nat.beq t it||Nat.beq t nx||Nat.beq t mo)) out nxt pr ops2 k2 body)
  else none
 |_=>none
def fuse? :aN->aN->Option aN
 | .region ops keep, .block out (.loop (.seq (.region [⟨some nx, .next (.tmp it1) false,none⟩,⟨some mo, .extract (.tmp nx1) 0,none⟩] _) (.seq (.cond (.tmp mo1) .skip (.exit out1)) (.block nxt (.seq (.region (⟨some pr, .entry (.tmp it2),none⟩::ops2) k2) body)))))=>
   Rf ops keep out nx it1 mo nx1 mo1 out1 nxt pr it2 ops2 k2 body
 |_,_=>none
def Vk(a b:aN):aN:=
 match fuse? a b with
 |some c=>c
 |none=> .seq a b
def comp(P:Program)(nt:Nat):Code->List (List Nat)->Option (aN×List (List Nat))
 | .skip,ks=>some (.skip,ks)
 | .region _ ops draw,ks=>match ks,cB P nt ops ops.toList with
   |k::ks,some as=>
    if draw then
     let ord:=eager ops.toList (as.map λa=>jb a.op) ops.size [];let bf:=(Region.before ops).toList
     if wm as ops.toList ord bf then some (.draw as ord bf k,ks)else none
    else some (.region as k,ks)
   |_,_=>none
 | .seq a b,ks=>match comp P nt a ks with
   |some (a',ks)=>match comp P nt b ks with
    |some (b',ks)=>some (Vk a' b',ks)
    |none=>none
   |none=>none
 | .cond c a b,ks=>if aH P c then match comp P nt a ks with
   |some (a',ks)=>match comp P nt b ks with
    |some (b',ks)=>some (.cond c a' b',ks)
    |none=>none
   |none=>none else none
 | .block id b,ks=>match comp P nt b ks with
   |some (b',ks)=>some (.block id b',ks)
   |none=>none
 | .loop b,ks=>match comp P nt b ks with
   |some (b',ks)=>some (.loop b',ks)
   |none=>none
 | .rangeFunc f ps a b,ks=>if aH P f&&ps.toList.all (Nat.blt · nt)then match comp P nt a ks with
   |some (a',ks)=>match comp P nt b ks with
    |some (b',ks)=>some (.rangeFunc f ps.toList a' b',ks)
    |none=>none
   |none=>none else none
 | .scope b,ks=>match comp P nt b ks with
   |some (b',ks)=>some (.scope b',ks)
   |none=>none
 | .label _,ks=>some (.skip,ks)
 | .exit id,ks=>some (.exit id,ks)
 | .ret,ks=>some (.ret,ks)
 |_,_=>none
def DK(P:Program):List ResultVar->Option (List (Nat×Option (Option Nat)))
 |[]=>some []
 | .tmp t::rs=>(DK P rs).map ((t,none):: ·)
 | .cell a t::rs=>match vR P t,DK P rs with
   |some n,some l=>some ((a,some n)::l)
   |_,_=>none
def aM(P:Program)(f:Func)(ks:List (List Nat)):Option aq:=
 match f.body with
 |some c=>if f.name= "runtime.NumGoroutine" then none else match comp P f.ntmps c ks,DK P f.results.toList with
  |some (ac,[]),some rs=>some (.code ac rs)
  |_,_=>none
 |none=>none
inductive Tr
 |nil|node (l:Tr) (k:Nat) (v:aq) (r:Tr)
def Tr.get:Tr->Nat->Option aq
 | .nil,_=>none
 | .node l k v r,n=>bif Nat.beq n k then some v else bif Nat.blt n k then l.get n else r.get n
def cL:aN->aN
 | .seq a _=>a
 |c=>c
def cR:aN->aN
 | .seq _ b=>b
 |c=>c
def codeOf:aq->aN
 | .code c _=>c
 |_=> .skip
end Go.A
section
namespace Go.A
abbrev bl:=@Nat.le_refl
abbrev bx:=@List.getElem?_eq_getElem
abbrev bz:=@List.mem_cons_of_mem
abbrev b6:=@List.mem_cons_self
abbrev b7:=@Result.andThen_ok
abbrev dk:=@Option.ite_none_right_eq_some
abbrev ec:=@List.length_append
abbrev ed:=@Bool.and_eq_true
abbrev ey:=@Sem.run_bind
abbrev eA:=@List.mem_of_getElem?
abbrev gd:=@Nat.le_trans
abbrev gk:=@List.take_of_length_le
abbrev go:=@Nat.lt_succ_self
abbrev gy:=@Array.getElem?_setIfInBounds
abbrev gK:=@List.getElem?_append_right
abbrev gR:=@Sem.run_pure
abbrev gS:=@List.getElem?_take_of_lt
abbrev hG:=@List.getElem?_append_left
abbrev hK:=@Nat.lt_of_lt_of_le
abbrev hX:=@Nat.zero_add
abbrev j3:=@List.take_append_of_le_length
abbrev kK:=@List.getD_eq_getElem?_getD
abbrev lp:=@List.length_set
abbrev md:=@Nat.zero_le
abbrev me:=@List.getElem?_drop
abbrev m6:=@List.length_take
abbrev oB:=@Bool.or_eq_true
abbrev oC:=@List.append_nil
abbrev pm:=@List.length_cons
abbrev po:=@List.length_map
abbrev pp:=@Nat.lt_irrefl
abbrev pt:=@Array.getD_eq_getD_getElem?
abbrev py:=@List.drop_zero
abbrev pA:=@List.drop_of_length_le
abbrev pB:=@List.drop_eq_getElem_cons
abbrev pC:=@Bool.and_eq_false_iff
abbrev pD:=@List.map_cons
abbrev qr:=@Bool.or_eq_false_iff
abbrev qt:=@Nat.le_add_right
abbrev q9:=@List.take_length
abbrev rb:=@List.getElem?_map
abbrev rc:=@Bool.false_eq_true
abbrev re:=@List.getElem?_eq_none
abbrev rg:=@Option.map_eq_some_iff
abbrev rh:=@Nat.pow_le_pow_right
abbrev rn:=@Bool.true_and
abbrev rp:=@Int.eq_ofNat_of_zero_le
abbrev rr:=@List.append_assoc
abbrev rt:=@Nat.mul_one
abbrev rv:=@List.take_append_drop
abbrev sb:=@Nat.add_sub_cancel_left
abbrev sf:=@List.drop_drop
abbrev sh:=@Nat.lt_of_le_of_lt
abbrev sm:=@List.getElem_mem
abbrev sx:=@Nat.add_mul
abbrev sy:=@List.drop_append_of_le_length
abbrev sT:=@Nat.mul_le_mul_left
abbrev tb:=@Nat.lt_succ_of_lt
abbrev te:=@Nat.add_assoc
abbrev ti:=@Nat.le_succ
abbrev tk:=@List.map_append
abbrev tp:=@Nat.min_eq_left
abbrev tx:=@Nat.pos_of_ne_zero
abbrev tz:=@Nat.testBit_two_pow_mul_add
abbrev ub:=@Nat.blt_eq
abbrev ui:=@List.mem_cons
abbrev ul:=@Nat.sub_self
abbrev ut:=@Nat.pow_succ
abbrev u3:=@List.ext_getElem?
abbrev vd:=@List.nil_append
abbrev vj:=@Bool.eq_iff_iff
abbrev vx:=@Nat.zero_mul
abbrev vy:=@List.flatMap_append
abbrev wc:=@List.cons_append
abbrev wd:=@List.mem_singleton
abbrev wi:=@List.filter_append
abbrev wl:=@List.length_singleton
abbrev wn:=@List.mem_or_eq_of_mem_set
abbrev wp:=@List.mem_append
abbrev wt:=@List.mem_of_mem_take
abbrev ww:=@Nat.add_zero
abbrev wx:=@Nat.mul_le_mul_right
abbrev wy:=@Int.toNat_natCast
abbrev xa:=@Nat.le_succ_of_le
abbrev xc:=@Bool.false_or
abbrev xf:=@Bool.and_true
abbrev xi:=@List.filter_cons_of_neg
abbrev xj:=@Array.toList_append
abbrev xl:=@List.take_succ_cons
abbrev xn:=@List.toList_toArray
abbrev xp:=@List.take_zero
abbrev xr:=@List.not_mem_nil
abbrev xx:=@Nat.pow_pos
abbrev xG:=@Nat.lt_or_ge
abbrev xP:=@Option.map_some
abbrev yi:=@Array.getElem?_modify
abbrev yn:=@List.filter_congr
abbrev yr:=@List.foldl_append
abbrev zc:=@List.getElem?_set
abbrev zd:=@Bool.false_and
abbrev zp:=@List.drop_length
abbrev zs:=@List.take_succ_eq_append_getElem
abbrev zt:=@List.flatMap_nil
abbrev zz:=@List.filter_cons_of_pos
abbrev zB:=@List.getElem?_cons_succ
abbrev zE:=@Bool.and_self
abbrev At:=@List.nodup_cons
abbrev AC:=@List.eq_nil_iff_forall_not_mem
abbrev A1:=@List.range_succ
abbrev A3:=@Nat.one_mul
abbrev BT:=@List.take_add_one
abbrev Cl:=@Array.getElem?_toList
abbrev Co:=@List.length_filter_le
abbrev Do:=@Nat.mul_le_mul
abbrev Ej:=@List.drop_left
abbrev EQ:=@List.drop_take
abbrev Fd:=@List.take_take
abbrev Fr:=@List.getElem?_zipWith
abbrev zFS:=@List.all_eq_true
abbrev GE:=@List.drop_append
abbrev GT:=@List.map_take
abbrev G5:=@List.all_cons
end Go.A
end
