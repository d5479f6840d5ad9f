/- The machine: its heap, its operations, its runs, how it is made out of code; nothing of a law. -/
import Derived.CallsIn
import GoSem.Core.Region
import Derived.Lib.Join
set_option linter.all false
def Go.ω{p:Prop}(h:p:=by omega):p:=h
def Go.ρ{p:Prop}(h:p:=by rfl):p:=h
def Go.τ{p:Prop}(h:p:=by assumption):p:=h
namespace Go.A
def UNK:Nat:=4611686018427387904
def bN{α:Type}:List α->Nat->Option α
 |[],_=>none
 |x::_,0=>some x
 |_::l,i+1=>bN l i
def uq{α:Type}:List α->Nat->α->List α
 |[],_,_=>[]
 |_::l,0,y=>y::l
 |x::l,i+1,y=>x::uq l i y
def cm{α:Type}:Nat->List α->List α
 |0,_=>[]
 |_+1,[]=>[]
 |n+1,x::l=>x::cm n l
def bQ{α:Type}:Nat->List α->List α
 |0,l=>l
 |_+1,[]=>[]
 |n+1,_::l=>bQ n l
def dP{α:Type}:List α->Nat->List α->List α
 |l,_,[]=>l
 |l,i,y::ys=>dP (uq l i y) (i+1) ys
def aL{α:Type}:Nat->α->List α
 |0,_=>[]
 |n+1,x=>x::aL n x
def gL:List Nat->Nat->Bool
 |[],_=>false
 |x::l,n=>bif Nat.beq x n then true else gL l n
def eL{α:Type}:List α->List α->List α
 |[],m=>m
 |x::l,m=>x::eL l m
def eR{α:Type}:Nat->List α->List α
 |0,_=>[]
 |n+1,z=>eL z (eR n z)
abbrev Env:=List (Nat×Value)
def geT:Env->Nat->Option Value
 |[],_=>none
 |(k,v)::e,t=>bif Nat.beq k t then some v else geT e t
def cZ(e:Env):List Nat->Env
 |[]=>[]
 |t::ts=>match geT e t with
  |some v=>(t,v)::cZ e ts
  |none=>cZ e ts
inductive eS
 |b|i (k:IntKind)|s
 deriving Repr,DecidableEq,Inhabited
inductive Cv
 |int (k:IntKind)|same|toBytes|toStr|ZM
 deriving Repr,Inhabited
inductive NK
 |ptr|sl|map|func|iface
 deriving Repr,DecidableEq,Inhabited
inductive Gw
 |num (op:BinOp)
 |beq (neq:Bool)
 |nil (k:NK) (neq:Bool)
 |agg (neq:Bool) (ls:List eS)
 deriving Inhabited
inductive ASl
 |str|sl (size:Nat)|arr (n size:Nat)
 deriving Inhabited
inductive AOp
 |mov (x:Operand)
 |pick (c a b:Operand)
 |new (zero:List Value)
 |box (v:Operand)
 |build (zero:List Value) (parts:List (Nat×Nat×Operand))
 |dy (zero:List Value) (len:Nat) (parts:List (Nat×Nat×Operand))
 |load (n:Option Nat) (a:Operand)
 |store (n:Nat) (a v:Operand)
 |cT (x:Operand)
 |bin (op:Gw) (x y:Operand)
 |un (op:UnOp) (x:Operand)
 |conv (c:Cv) (x:Operand)
 |jw (t:TypeId) (x:Operand)
 |eG (fn:Fn) (first captured:List Operand)
 |mkMap
 |mkSlice (zero:List Value) (bytes:Nat) (len cap:Operand)
 |slice (k:ASl) (x:Operand) (lo hi mx:Option Operand)
 |dN (off:Nat) (x:Operand)
 |field (off:Nat) (n:Option Nat) (x:Operand)
 |dx (len size:Nat) (x i:Operand)
 |aC (size:Nat) (x i:Operand)
 |vh (len size:Nat) (n:Option Nat) (x i:Operand)
 |kj (x i:Operand)
 |lookup (ag:Bool) (ls:List eS) (zero:Value) (commaOk:Bool) (m k:Operand)
 |ot (ag:Bool) (ls:List eS) (m k v:Operand)
 |lZ (asserted:TypeId) (commaOk:Bool) (zero:Value) (x:Operand)
 |extract (t:Operand) (i:Nat)
 |call (f:Operand) (args:List Operand)
 |len (k:Nat) (x:Operand)
 |oR (n:Nat)
 |cap (x:Operand)
 |append (size bytes:Nat) (s x:Operand)
 |oh (zero:List Value) (bytes:Nat) (s n:Operand)
 |copy (size:Nat) (d s:Operand)
 |clear (z:List Value) (x:Operand)
 |ej (max:Bool) (args:List Operand)
 |delete (ag:Bool) (ls:List eS) (m k:Operand)
 |lI (f:Operand) (args:List Operand)
 |recover
 |wC (x:Operand)
 |range (x:Operand)
 |next (x:Operand) (str:Bool)
 |oU (x:Operand)
 |entry (x:Operand)
 deriving Inhabited
structure bg where
 dst:Option Nat
 op:AOp
 guard:Option (Nat×Bool)
 deriving Inhabited
inductive aZ
 |skip
 |region (ops:List bg) (keep:List Nat)
 |draw (ops:List bg) (order:List Nat) (before:List Nat) (keep:List Nat)
 |seq (a b:aZ)
 |cond (c:Operand) (a b:aZ)
 |block (id:Nat) (b:aZ)
 |loop (b:aZ)
 |scope (b:aZ)
 |rangeFunc (f:Operand) (params:List Nat) (assign body:aZ)
 |rangeMap (ops:List bg) (it:Nat) (x:Operand) (keep:List Nat) (out nxt pr:Nat) (ops2:List bg) (keep2:List Nat) (body:aZ)
 |exit (id:Nat)
 |ret
 deriving Inhabited
inductive bO
 |normal|exit (id:Nat)|ret|panic (v:Value)
 deriving Inhabited
inductive bT
 |cells (vs:List Value) (own:Bool) (sz:Nat)
 |map (es:List (Value×Value))
 |xO (es:List (Value×Value))
 |loop (env:Env) (params:List Nat) (assign body:aZ) (st:Nat) (jy:bO)
 |oH (s:ByteArray) (pos:Nat)
 |dead
 deriving Inhabited
structure Heap where
 cU:List (Nat×bT)
 next:Nat
 log:List Nat
 deriving Inhabited
abbrev η(h:Heap):Heap:={h with log:=[]}
inductive aq
 |code (c:aZ) (results:List (Nat×Option (Option Nat)))
 |mW (p:List Value->Heap->Option (Value×Heap))
 deriving Inhabited
def fT:List (Nat×bT)->Nat->Option bT
 |[],_=>none
 |(k,o)::l,b=>bif Nat.beq k b then some o else fT l b
def jI:List (Nat×bT)->Nat->bT->List (Nat×bT)
 |[],_,_=>[]
 |(k,o)::l,b,o'=>bif Nat.beq k b then(k,o')::l else(k,o)::jI l b o'
def Heap.get(h:Heap)(b:Nat):Option bT:=fT h.cU b
def zL:Option bT->Option (List (Value×Value))
 |some (.map es)=>some es
 |some (.xO es)=>some es
 |_=>none
def Heap.push(h:Heap)(o:bT):Heap:={h with cU:=(h.next,o)::h.cU,next:=h.next+1}
def Heap.wr(h:Heap)(base b:Nat)(o:bT):Heap:=
 {h with cU:=jI h.cU b o,log:=bif Nat.blt b base then(bif gL h.log b then h.log else b::h.log)else h.log}
def mI:Value->Bool
 | .bool _| .int _ _| .float _ _| .complex _ _ _| .string _| .nilFunc| .nilIface=>true
 | .pointer none| .slice none _ _| .map none| .chan none=>true
 | .func (.func _) f c=>Nat.beq f.toList.length 0&&Nat.beq c.toList.length 0
 |_=>false
def oV:Value->Bool
 | .iface _ v=>mI v
 |v=>mI v
def dQ:List Value->Bool
 |[]=>true
 |v::l=>bif oV v then dQ l else false
def flat:Value->Bool
 | .agg cs=>dQ cs.toList
 | .iface _ (.agg cs)=>dQ cs.toList
 |v=>oV v
def jf:List Value->Bool
 |[]=>true
 |v::l=>bif flat v then jf l else false
def dA:Value->Bool
 | .tuple cs=>jf cs.toList
 |v=>flat v
def cellsOf:Value->List Value
 | .agg cs=>cs.toList
 |v=>[v]
def bS{α:Type}:List α->Nat
 |[]=>0
 |_::l=>bS l+1
def fU(k:IntKind)(n:Int):Int:=
 match n with
 | .ofNat m=>bif Nat.blt m (match k with| .i8=>128| .i16=>32768| .i32=>2147483648| .i64=>9223372036854775808| .u8=>256| .u16=>65536| .u32=>4294967296| .u64=>18446744073709551616)then n else k.wrap n
 | .negSucc m=>bif Nat.blt m (match k with| .i8=>128| .i16=>32768| .i32=>2147483648| .i64=>9223372036854775808|_=>0)then n else k.wrap n
def jG:eS->Value->Value->Option Bool
 | .b, .bool a, .bool b=>some (a==b)
 | .i q, .int k a, .int k' b=>if k=q then if k'=q then some (a==b)else none else none
 | .s, .string a, .string b=>some (a.toList==b.toList)
 |_,_,_=>none
def bU:List eS->List Value->List Value->Option Bool
 |[],[],[]=>some true
 |l::ls,x::xs,y::ys=>match jG l x y with
  |some true=>bU ls xs ys
  |some false=>match bU ls xs ys with
   |some _=>some false
   |none=>none
  |none=>none
 |_,_,_=>none
def uj:Value->Bool
 | .agg _=>true
 |_=>false
def lD(ag:Bool)(ls:List eS)(k:Value):Bool:=
 match uj k==ag,bU ls (cellsOf k) (cellsOf k)with
 |true,some _=>true
 |_,_=>false
def sj(ag:Bool)(ls:List eS)(k k':Value):Option Bool:=
 match uj k'==ag with
 |true=>bU ls (cellsOf k) (cellsOf k')
 |false=>none
def iX:NK->Value->Option Bool
 | .ptr, .pointer none=>some true
 | .ptr, .pointer (some _)=>some false
 | .sl, .slice none _ _=>some true
 | .sl, .slice (some _) _ _=>some false
 | .map, .map none=>some true
 | .map, .map (some _)=>some false
 | .func, .nilFunc=>some true
 | .func, .func _ _ _=>some false
 | .iface, .nilIface=>some true
 | .iface, .iface _ _=>some false
 |_,_=>none
def sG(k:NK)(x y:Value):Option Bool:=
 match iX k x,iX k y with
 |some true,some b=>some b
 |some false,some true=>some false
 |_,_=>none
def oO(op:BinOp)(x y:Int):Option Value:=
 match op with
 | .eql=>some (.bool (x==y))
 | .neq=>some (.bool (x !=y))
 | .lss=>some (.bool (decide (x<y)))
 | .leq=>some (.bool (decide (x<=y)))
 | .gtr=>some (.bool (decide (x>y)))
 | .geq=>some (.bool (decide (x≥y)))
 |_=>none
def qk(op:BinOp)(k:IntKind)(x y:Int):Option Value:=
 let slow:Option Value:=
  let a:=BitVec.ofInt k.bits x;let b:=BitVec.ofInt k.bits y
  match op with
  | .and=>some (.int k (k.wrap (a&&&b).toNat))
  | .or=>some (.int k (k.wrap (a|||b).toNat))
  | .xor=>some (.int k (k.wrap (a ^^^ b).toNat))
  | .andNot=>some (.int k (k.wrap (a&&& ~~~b).toNat))
  |_=>none
 match k,x,y with
 | .u64, .ofNat a, .ofNat b=>bif Nat.blt a 18446744073709551616&&Nat.blt b 18446744073709551616 then
  match op with
  | .and=>some (.int .u64 (.ofNat (Nat.land a b)))
  | .or=>some (.int .u64 (.ofNat (Nat.lor a b)))
  | .xor=>some (.int .u64 (.ofNat (Nat.xor a b)))
  | .andNot=>some (.int .u64 (.ofNat (Nat.xor a (Nat.land a b))))
  |_=>none
   else slow
 |_,_,_=>slow
def arith(op:BinOp)(k:IntKind)(x y:Int):Option Value:=
 match op with
 | .add=>some (.int k (fU k (x+y)))
 | .sub=>some (.int k (fU k (x-y)))
 | .mul=>some (.int k (fU k (x*y)))
 | .quo=>if y=0 then none else some (.int k (fU k (x.tdiv y)))
 | .rem=>if y=0 then none else some (.int k (x.tmod y))
 | .and| .or| .xor| .andNot=>qk op k x y
 |_=>oO op x y
def qX(op:BinOp)(k:IntKind)(x y:Int):Option Value:=
 match y with
 | .negSucc _=>none
 | .ofNat n=>match op with
   | .shl=>match k,x with
     | .u64, .ofNat a=>some (.int .u64 (.ofNat (Nat.mod (Nat.shiftLeft a (Nat.min n 64)) 18446744073709551616)))
     |_,_=>some (.int k (k.wrap (x*2 ^ (min n k.bits))))
   | .shr=>match k,x with
     | .u64, .ofNat a=>some (.int .u64 (.ofNat (Nat.shiftRight a (Nat.min n 64))))
     |_,_=>some (.int k (x.fdiv (2 ^ (min n k.bits))))
   |_=>none
def Gi(op:BinOp)(x y:ByteArray):Option Value:=
 match op with
 | .add=>bif Nat.blt (x.size+y.size) 9223372036854775808 then some (.string (x++y))else none
 | .eql=>some (.bool (x.toList==y.toList))
 | .neq=>some (.bool !(x.toList==y.toList))
 | .lss=>some (.bool (Op.bytesLess x.toList y.toList))
 | .leq=>some (.bool (Op.bytesLess x.toList y.toList||x.toList==y.toList))
 | .gtr=>some (.bool !(Op.bytesLess x.toList y.toList||x.toList==y.toList))
 | .geq=>some (.bool !(Op.bytesLess x.toList y.toList))
 |_=>none
def af(op:BinOp)(x y:Value):Option Value:=
 match op,x,y with
 | .shl, .int k a, .int _ b=>qX .shl k a b
 | .shr, .int k a, .int _ b=>qX .shr k a b
 |op, .int k a, .int k' b=>if k=k' then arith op k a b else none
 |op, .string a, .string b=>Gi op a b
 |_,_,_=>none
def vH(op:UnOp)(x:Value):Option Value:=
 match op,x with
 | .neg, .int k n=>some (.int k (fU k (0-n)))
 | .xor, .int .u64 (.ofNat n)=>bif Nat.blt n 18446744073709551616 then some (.int .u64 (.ofNat (18446744073709551615-n)))else none
 | .not, .bool b=>some (.bool !b)
 |_,_=>none
def ev(h:Heap)(e:Env):Operand->Option Value
 | .tmp t=>geT e t
 | .const v=>some v
 | .global g=>match h.get g with
   |some _=>some (.pointer (some ⟨g,0,none⟩))
   |none=>none
 | .func f=>some (.func (.func f) #[] #[])
def evs(h:Heap)(e:Env):List Operand->Option (List Value)
 |[]=>some []
 |x::xs=>match ev h e x with
  |some v=>match evs h e xs with
   |some vs=>some (v::vs)
   |none=>none
  |none=>none
def jO(h:Heap)(e:Env)(z:List Value):List (Nat×Nat×Operand)->Option (List Value)
 |[]=>some z
 |(off,size,x)::ps=>match ev h e x with
  |some v=>bif Nat.beq (bS (cellsOf v)) size&&Nat.ble (off+size) (bS z)then jO h e (dP z off (cellsOf v)) ps else none
  |none=>none
inductive dI
 |val (v:Value) (h:Heap)
 |call (fn:Fn) (args:List Value) (h:Heap)
 |lI (f:Value) (args:List Value)
 |panic (v:Value) (h:Heap)
 |recover
 deriving Inhabited
def eN:List Value->Bool
 |[]=>true
 | .agg _::_=>false
 | .tuple _::_=>false
 |_::l=>eN l
def sw(h:Heap)(n:Option Nat):Value->Option Value
 | .pointer (some ⟨b,o,none⟩)=>match h.get b with
   |some (.cells vs _ _)=>match n with
    |none=>bN vs o
    |some n=>let l:=cm n (bQ o vs);bif Nat.beq (bS l) n then some (.agg l.toArray)else none
   |_=>none
 |_=>none
def uG(h:Heap)(base n:Nat)(v:Value):Value->Option Heap
 | .pointer (some ⟨b,o,none⟩)=>match h.get b with
   |some (.cells vs true sz)=>bif Nat.beq (bS (cellsOf v)) n&&Nat.ble (o+n) (bS vs)&&eN (cellsOf v)then some (h.wr base b (.cells (dP vs o (cellsOf v)) true sz))else none
   |_=>none
 |_=>none
def rF:Value->Option Nat
 | .int _ (.ofNat n)=>some n
 |_=>none
def bnd(h:Heap)(e:Env)(dflt:Nat):Option Operand->Option Nat
 |none=>some dflt
 |some x=>match ev h e x with
  |some v=>rF v
  |none=>none
def hM(h:Heap)(e:Env)(size:Nat)(a:Option Addr)(len cap:Nat)(lo hi mx:Option Operand):Option (Value×Heap):=
 match bnd h e 0 lo,bnd h e len hi with
 |some l,some u=>
  match mx with
  |some _=>match bnd h e 0 mx with
   |some m=>bif Nat.ble l u&&Nat.ble u m&&Nat.ble m (bif Nat.beq cap UNK then len else cap)&&Nat.blt m UNK then
    some (.slice (bif Nat.beq m l then a else match a with|some ⟨b,o,none⟩=>some ⟨b,o+l*size,none⟩|a=>a) (u-l) (m-l),h)
    else none
   |none=>none
  |none=>
   bif Nat.beq cap UNK then
    match a with
    |some ⟨b,o,none⟩=>match h.get b with
     |some (.cells vs _ sz)=>
      bif Nat.beq sz size&&Nat.ble l u&&(Nat.ble u len||Nat.ble (o+u*size) (bS vs))then
       bif Nat.blt l len||Nat.blt l u then some (.slice (some ⟨b,o+l*size,none⟩) (u-l) UNK,h)
       else bif Nat.beq l 0 then some (.slice (some ⟨b,o,none⟩) 0 UNK,h)
       else some (.slice (some ⟨h.next,0,none⟩) 0 UNK,h.push (.cells [] false size))
      else none
     |_=>none
    |_=>none
   else bif Nat.ble l u&&Nat.ble u cap then
    some (.slice (bif Nat.beq cap l then a else match a with|some ⟨b,o,none⟩=>some ⟨b,o+l*size,none⟩|a=>a) (u-l) (cap-l),h)
    else none
 |_,_=>none
def dg(h:Heap)(size:Nat):Value->Option (List Value×Nat)
 | .slice none n _=>bif Nat.beq n 0 then some ([],0)else none
 | .slice (some ⟨b,o,none⟩) n _=>match h.get b with
   |some (.cells vs _ _)=>let l:=cm (n*size) (bQ o vs);bif Nat.beq (bS l) (n*size)then some (l,n)else none
   |_=>none
 | .slice (some ⟨_,_,some _⟩) n _=>bif Nat.beq n 0 then some ([],0)else none
 | .string s=>bif Nat.beq size 1 then some (s.data.toList.map λb=> .int .u8 b.toNat,s.size)else none
 |_=>none
def jV(h:Heap)(base size bytes:Nat)(s:Value)(new:List Value)(n:Nat):Option (Value×Heap):=
 match s with
 | .slice a len cap=>
   bif Nat.beq n 0 then(bif Nat.ble len cap then some (s,h)else none)else
   bif Nat.ble ((2*(len+n)+768)*bytes) 281474976710656 then
    match a with
    |none=>bif Nat.beq len 0&&Nat.beq cap 0 then some (.slice (some ⟨h.next,0,none⟩) n UNK,h.push (.cells new true size))else none
    |some ⟨b,o,none⟩=>match h.get b with
     |some (.cells vs own sz)=>
      bif Nat.beq cap UNK then
       bif own&&Nat.beq sz size then
        bif Nat.ble (o+(len+n)*size) (bS vs)&&eN new then
         some (.slice (some ⟨b,o,none⟩) (len+n) UNK,h.wr base b (.cells (dP vs (o+len*size) new) true sz))
        else bif Nat.beq o 0&&Nat.beq (len*size) (bS vs)&&eN new then
         some (.slice (some ⟨h.next,0,none⟩) (len+n) UNK,(h.wr base b .dead).push (.cells (eL vs new) true size))
        else none
       else none
      else bif Nat.ble (len+n) cap then
       bif own&&Nat.ble (o+(len+n)*size) (bS vs)&&eN new then
        some (.slice (some ⟨b,o,none⟩) (len+n) cap,h.wr base b (.cells (dP vs (o+len*size) new) true sz))
       else none
      else bif Nat.ble (o+len*size) (bS vs)then
       some (.slice (some ⟨h.next,0,none⟩) (len+n) UNK,h.push (.cells (eL (cm (len*size) (bQ o vs)) new) true size))
      else none
     |_=>none
    |_=>none
   else none
 |_=>none
def rE(ag:Bool)(ls:List eS)(k:Value):Nat->List (Value×Value)->Option (Option (Nat×Value))
 |_,[]=>some none
 |i,(k',v)::es=>match sj ag ls k k' with
  |some true=>some (some (i,v))
  |some false=>rE ag ls k (i+1) es
  |none=>none
def Vo{α:Type}:List α->Nat->List α
 |[],_=>[]
 |_::l,0=>l
 |x::l,i+1=>x::Vo l i
def mmA(mx:Bool)(x:Value):List Value->Option Value
 |[]=>some x
 |y::l=>match x,y with
  | .int k a, .int k' b=>if k=k' then mmA mx (.int k (if mx then(if b>a then b else a)else(if b<a then b else a))) l else none
  |_,_=>none
def bytesOf:List Value->Option (List UInt8)
 |[]=>some []
 | .int .u8 (.ofNat n)::l=>match bytesOf l with
   |some bs=>some (UInt8.ofNat n::bs)
   |none=>none
 |_=>none
def y5(h:Heap)(c:Cv)(x:Value):Option (Value×Heap):=
 match c,x with
 | .int k, .int _ n=>some (.int k (fU k n),h)
 | .same, .string s=>some (.string s,h)
 | .toStr, .slice a n c=>match dg h 1 (.slice a n c)with
   |some (l,_)=>match bytesOf l with
    |some bs=>some (.string ⟨bs.toArray⟩,h)
    |none=>none
   |none=>none
 | .toBytes, .string s=>some (.slice (some ⟨h.next,0,none⟩) s.size UNK,h.push (.cells (s.data.toList.map λb=> .int .u8 b.toNat) true 1))
 |_,_=>none
def dD{α:Type}(x:Option Value)(k:Value->Option α):Option α:=
 match x with
 |some v=>k v
 |none=>none
def fW(x:Option (Value×Heap)):Option dI:=
 match x with
 |some (v,h)=>some (.val v h)
 |none=>none
def rX(f:Value)(args:List Value)(h:Heap):Option dI:=
 match f with
 | .func (.func g) first cap=>some (.call (.func g) (eL first.toList (eL args cap.toList)) h)
 | .func (.yield l) first cap=>match cap.toList with
   |[]=>some (.call (.yield l) (eL first.toList args) h)
   |_::_=>none
 |_=>none
def aop(h:Heap)(base:Nat)(e:Env):AOp->Option dI
 | .mov x=>dD (ev h e x) λv=>some (.val v h)
 | .pick c a b=>match ev h e c with
   |some (.bool true)=>dD (ev h e a) λv=>some (.val v h)
   |some (.bool false)=>dD (ev h e b) λv=>some (.val v h)
   |_=>none
 | .new z=>some (.val (.pointer (some ⟨h.next,0,none⟩)) (h.push (.cells z true 1)))
 | .box x=>dD (ev h e x) λv=>some (.val (.pointer (some ⟨h.next,0,none⟩)) (h.push (.cells (cellsOf v) true 1)))
 | .build z ps=>match jO h e z ps with
   |some cs=>some (.val (.agg cs.toArray) h)
   |none=>none
 | .dy z n ps=>match jO h e (eR n z) ps with
   |some cs=>some (.val (.slice (some ⟨h.next,0,none⟩) n n) (h.push (.cells cs true (bS z))))
   |none=>none
 | .load n a=>dD (ev h e a) λa=>dD (sw h n a) λv=>some (.val v h)
 | .store n a v=>dD (ev h e a) fun a=>dD (ev h e v) fun v=>match uG h base n v a with
   |some h'=>some (.val (.tuple #[]) h')
   |none=>none
 | .cT x=>dD (ev h e x) fun v=>match v with
   | .pointer none| .nilIface| .nilFunc=>none
   | .func (.method _) _ _=>none
   |v=>some (.val v h)
 | .bin (.num op) x y=>dD (ev h e x) λx=>dD (ev h e y) λy=>dD (af op x y) λv=>some (.val v h)
 | .bin (.beq neq) x y=>match ev h e x,ev h e y with
   |some (.bool a),some (.bool b)=>some (.val (.bool (bif neq then !(a==b)else a==b)) h)
   |_,_=>none
 | .bin (.nil k neq) x y=>dD (ev h e x) fun x=>dD (ev h e y) fun y=>match sG k x y with
   |some b=>some (.val (.bool (bif neq then !b else b)) h)
   |none=>none
 | .bin (.agg neq ls) x y=>dD (ev h e x) fun x=>dD (ev h e y) fun y=>match x,y with
   | .agg xs, .agg ys=>match bU ls xs.toList ys.toList with
     |some b=>some (.val (.bool (bif neq then !b else b)) h)
     |none=>none
   |_,_=>none
 | .un op x=>dD (ev h e x) λx=>dD (vH op x) λv=>some (.val v h)
 | .conv c x=>dD (ev h e x) λx=>fW (y5 h c x)
 | .jw t x=>dD (ev h e x) λv=>some (.val (.iface t v) h)
 | .eG fn fs cs=>match evs h e fs,evs h e cs with
   |some fs,some cs=>some (.val (.func fn fs.toArray cs.toArray) h)
   |_,_=>none
 | .mkMap=>some (.val (.map (some h.next)) (h.push (.map [])))
 | .mkSlice z bytes l c=>match ev h e l,ev h e c with
   |some l,some c=>match rF l,rF c with
    |some l,some c=>bif Nat.ble l c&&Nat.ble (bytes*c) 281474976710656&&Nat.blt c UNK then
     some (.val (.slice (some ⟨h.next,0,none⟩) l c) (h.push (.cells (eR c z) true (bS z))))
     else none
    |_,_=>none
   |_,_=>none
 | .slice .str x lo hi none=>match ev h e x with
   |some (.string s)=>match bnd h e 0 lo,bnd h e s.size hi with
    |some l,some u=>bif Nat.ble l u&&Nat.ble u s.size then some (.val (.string (s.extract l u)) h)else none
    |_,_=>none
   |_=>none
 | .slice (.sl size) x lo hi mx=>match ev h e x with
   |some (.slice a len cap)=>fW (hM h e size a len cap lo hi mx)
   |_=>none
 | .slice (.arr n size) x lo hi mx=>match ev h e x with
   |some (.pointer (some a))=>fW (hM h e size (some a) n n lo hi mx)
   |_=>none
 | .slice .str _ _ _ (some _)=>none
 | .dN off x=>match ev h e x with
   |some (.pointer (some ⟨b,o,none⟩))=>some (.val (.pointer (some ⟨b,o+off,none⟩)) h)
   |_=>none
 | .field off n x=>match ev h e x with
   |some (.agg cs)=>match n with
    |none=>dD (bN cs.toList off) λv=>some (.val v h)
    |some n=>let l:=cm n (bQ off cs.toList);bif Nat.beq (bS l) n then some (.val (.agg l.toArray) h)else none
   |_=>none
 | .dx len size x i=>match ev h e x,ev h e i with
   |some (.pointer (some ⟨b,o,none⟩)),some (.int _ (.ofNat i))=>bif Nat.blt i len then some (.val (.pointer (some ⟨b,o+i*size,none⟩)) h)else none
   |_,_=>none
 | .aC size x i=>match ev h e x,ev h e i with
   |some (.slice (some ⟨b,o,none⟩) len _),some (.int _ (.ofNat i))=>bif Nat.blt i len then some (.val (.pointer (some ⟨b,o+i*size,none⟩)) h)else none
   |_,_=>none
 | .vh len size n x i=>match ev h e x,ev h e i with
   |some (.agg cs),some (.int _ (.ofNat i))=>bif Nat.blt i len then
    match n with
    |none=>dD (bN cs.toList (i*size)) λv=>some (.val v h)
    |some n=>let l:=cm n (bQ (i*size) cs.toList);bif Nat.beq (bS l) n then some (.val (.agg l.toArray) h)else none
    else none
   |_,_=>none
 | .kj x i=>match ev h e x,ev h e i with
   |some (.string s),some (.int _ (.ofNat i))=>match bN s.data.toList i with
    |some b=>some (.val (.int .u8 b.toNat) h)
    |none=>none
   |_,_=>none
 | .lookup ag ls z ok m k=>match ev h e m,ev h e k with
   |some (.map none),some k=>bif lD ag ls k then some (.val (bif ok then .tuple #[z, .bool false]else z) h)else none
   |some (.map (some r)),some k=>match zL (h.get r)with
    |some es=>bif lD ag ls k then match rE ag ls k 0 es with
     |some (some (_,v))=>some (.val (bif ok then .tuple #[v, .bool true]else v) h)
     |some none=>some (.val (bif ok then .tuple #[z, .bool false]else z) h)
     |none=>none else none
    |none=>none
   |_,_=>none
 | .ot ag ls m k v=>match ev h e m,ev h e k,ev h e v with
   |some (.map (some r)),some k,some v=>match h.get r with
    |some (.map es)=>bif lD ag ls k then match rE ag ls k 0 es with
     |some (some (i,_))=>some (.val (.tuple #[]) (h.wr base r (.map (uq es i (k,v)))))
     |some none=>some (.val (.tuple #[]) (h.wr base r (.map (eL es [(k,v)]))))
     |none=>none else none
    |_=>none
   |_,_,_=>none
 | .lZ t ok z x=>match ev h e x with
   |some .nilIface=>bif ok then some (.val (.tuple #[z, .bool false]) h)else none
   |some (.iface t' v)=>if t'=t then some (.val (bif ok then .tuple #[v, .bool true]else v) h)
    else bif ok then some (.val (.tuple #[z, .bool false]) h)else none
   |_=>none
 | .extract t i=>match ev h e t with
   |some (.tuple vs)=>dD (bN vs.toList i) λv=>some (.val v h)
   |_=>none
 | .call f args=>match ev h e f,evs h e args with
   |some f,some args=>rX f args h
   |_,_=>none
 | .len 0 x=>match ev h e x with
   |some (.string s)=>some (.val (.int .i64 s.size) h)
   |_=>none
 | .len 1 x=>match ev h e x with
   |some (.slice _ n _)=>some (.val (.int .i64 n) h)
   |_=>none
 | .len _ x=>match ev h e x with
   |some (.map none)=>some (.val (.int .i64 0) h)
   |some (.map (some r))=>match zL (h.get r)with
    |some es=>some (.val (.int .i64 (bS es)) h)
    |none=>none
   |_=>none
 | .oR n=>some (.val (.int .i64 n) h)
 | .cap x=>match ev h e x with
   |some (.slice _ _ c)=>bif Nat.beq c UNK then none else some (.val (.int .i64 c) h)
   |_=>none
 | .append size bytes s x=>match ev h e s,ev h e x with
   |some s,some x=>match dg h size x with
    |some (l,n)=>fW (jV h base size bytes s l n)
    |none=>none
   |_,_=>none
 | .oh z bytes s n=>match ev h e s,ev h e n with
   |some s,some n=>match rF n with
    |some n=>bif Nat.blt n 9223372036854775808&&Nat.ble (n*bytes) 281474976710656 then fW (jV h base (bS z) bytes s (eR n z) n)else none
    |none=>none
   |_,_=>none
 | .copy size d s=>match ev h e d,ev h e s with
   |some (.slice a dl _),some s=>match dg h size s with
    |some (l,n)=>
     let m:=Nat.min n dl
     match a with
     |none=>some (.val (.int .i64 m) h)
     |some ⟨b,o,none⟩=>match h.get b with
      |some (.cells vs true sz)=>bif Nat.ble (o+m*size) (bS vs)&&eN (cm (m*size) l)then
       some (.val (.int .i64 m) (h.wr base b (.cells (dP vs o (cm (m*size) l)) true sz)))
       else none
      |_=>none
     |_=>none
    |none=>none
   |_,_=>none
 | .clear z x=>match ev h e x with
   |some (.slice a n _)=>
    bif Nat.beq n 0 then some (.val (.tuple #[]) h)else
    match a with
    |none=>some (.val (.tuple #[]) h)
    |some ⟨b,o,none⟩=>match h.get b with
     |some (.cells vs true sz)=>bif Nat.ble (o+bS (eR n z)) (bS vs)&&eN (eR n z)then some (.val (.tuple #[]) (h.wr base b (.cells (dP vs o (eR n z)) true sz)))else none
     |_=>none
    |_=>none
   |_=>none
 | .ej mx args=>match evs h e args with
   |some (x::l)=>dD (mmA mx x l) λv=>some (.val v h)
   |_=>none
 | .delete ag ls m k=>match ev h e m,ev h e k with
   |some (.map (some r)),some k=>match h.get r with
    |some (.map es)=>bif lD ag ls k then match rE ag ls k 0 es with
     |some (some (i,_))=>some (.val (.tuple #[]) (h.wr base r (.map (Vo es i))))
     |some none=>some (.val (.tuple #[]) (h.wr base r (.map es)))
     |none=>none else none
    |_=>none
   |some (.map none),some k=>bif lD ag ls k then some (.val (.tuple #[]) h)else none
   |_,_=>none
 | .lI f args=>match ev h e f,evs h e args with
   |some (.func (.func g) first cap),some args=>some (.lI (.func (.func g) first cap) args)
   |_,_=>none
 | .recover=>some .recover
 | .wC x=>dD (ev h e x) fun v=>match v with
   | .iface _ _=>some (.panic v h)
   |_=>none
 | .range x=>match ev h e x with
   |some (.string s)=>some (.val (.pointer (some ⟨h.next,0,none⟩)) (h.push (.oH s 0)))
   |_=>none
 | .next x true=>match ev h e x with
   |some (.pointer (some ⟨r,0,none⟩))=>match h.get r with
    |some (.oH s pos)=>bif Nat.blt pos s.size then
     let d:=Utf8.decode s pos
     some (.val (.tuple #[.bool true, .int .i64 pos, .int .i32 d.1]) (h.wr base r (.oH s (pos+d.2))))
     else some (.val (.tuple #[.bool false]) h)
    |_=>none
   |_=>none
 | .next _ false=>none
 | .oU _=>none
 | .entry _=>none
inductive Res
 |ret (v:Value)
 |panic (v:Value)
 deriving Inhabited
def fu:Nat->List Value->Env
 |_,[]=>[]
 |i,v::vs=>(i,v)::fu (i+1) vs
def cI(h:Heap)(e:Env):List (Nat×Option (Option Nat))->Option (List Value)
 |[]=>some []
 |(t,none)::rs=>match geT e t with
  |some v=>match cI h e rs with
   |some vs=>some (v::vs)
   |none=>none
  |none=>none
 |(t,some n)::rs=>match geT e t with
  |some a=>match sw h n a with
   |some v=>match cI h e rs with
    |some vs=>some (v::vs)
    |none=>none
   |none=>none
  |none=>none
def fB:List Value->Value
 |[v]=>v
 |vs=> .tuple vs.toArray
def aJ(base:Nat)(l:List Nat):List Nat->List Nat
 |[]=>l
 |b::bs=>aJ base (bif Nat.blt b base then(bif gL l b then l else b::l)else l) bs
def gJ(h:Heap)(base:Nat):List Nat->Bool
 |[]=>true
 |b::bs=>bif Nat.blt b base then
   match h.get b with
   |some (.cells vs _ _)=>bif dQ vs then gJ h base bs else false
   |some (.map es)=>bif jf (es.map (·.1))&&jf (es.map (·.2))then gJ h base bs else false
   |some .dead=>gJ h base bs
   |some (.oH _ _)=>gJ h base bs
   |_=>false
  else gJ h base bs
def pK{α:Type}:Nat->List α->List α:=bQ
def gcA(h0 h:Heap)(v:Value):Heap:=
 bif dA v&&gJ h h0.next h.log then {h with cU:=pK (h.next-h0.next) h.cU,next:=h0.next}else h
def j8(e:Env):List Nat->List Value->Option Env
 |[],[]=>some e
 |t::ts,v::vs=>j8 ((t,v)::e) ts vs
 |_,_=>none
def cg(e:Env):Option (Nat×Bool)->Option Bool
 |none=>some true
 |some (t,b)=>match geT e t with
  |some (.bool x)=>some (x==b)
  |some _=>some false
  |none=>none
def cN(e:Env)(d:Option Nat)(v:Value):Env:=
 match d with
 |some t=>(t,v)::e
 |none=>e
def kU:Value->Value->Bool
 | .bool a, .bool b=>a==b
 | .int k a, .int k' b=>k==k'&&a==b
 | .string a, .string b=>a.data.toList==b.data.toList
 | .pointer a, .pointer b=>a==b
 | .slice a l c, .slice b l' c'=>a==b&&l==l'&&c==c'
 | .map a, .map b=>a==b
 | .nilIface, .nilIface=>true
 | .nilFunc, .nilFunc=>true
 | .iface t (.int k a), .iface t' (.int k' b)=>t==t'&&k==k'&&a==b
 |_,_=>false
def j7:List Value->List Value->Bool
 |[],[]=>true
 |x::xs,y::ys=>bif kU x y then j7 xs ys else false
 |_,_=>false
def jj:Value->Value->Bool
 | .agg a, .agg b=>j7 a.toList b.toList
 | .tuple a, .tuple b=>j7 a.toList b.toList
 | .func (.func f) a' a, .func (.func g) b' b=>f==g&&(j7 a'.toList b'.toList&&j7 a.toList b.toList)
 |x,y=>kU x y
def VY:Option Operand->List Operand
 |some x=>[x]
 |none=>[]
def dO:AOp->List Operand
 | .mov x| .box x| .load _ x| .cT x| .un _ x| .conv _ x| .jw _ x| .dN _ x| .field _ _ x| .lZ _ _ _ x| .extract x _| .len _ x| .cap x| .wC x| .range x| .next x _| .oU x| .entry x| .clear _ x=>[x]
 | .pick c a b=>[c,a,b]
 | .build _ ps| .dy _ _ ps=>ps.map (·.2.2)
 | .store _ a v=>[a,v]
 | .bin _ x y| .dx _ _ x y| .aC _ x y| .vh _ _ _ x y| .kj x y| .mkSlice _ _ x y| .lookup _ _ _ _ x y| .delete _ _ x y| .append _ _ x y| .oh _ _ x y| .copy _ x y=>[x,y]
 | .eG _ fs cs=>eL fs cs
 | .slice _ x lo hi mx=>x::eL (VY lo) (eL (VY hi) (VY mx))
 | .ot _ _ m k v=>[m,k,v]
 | .call f as| .lI f as=>f::as
 | .ej _ as=>as
 | .new _| .mkMap| .oR _| .recover=>[]
def B0:List Operand->List Nat
 |[]=>[]
 | .tmp t::l=>t::B0 l
 |_::l=>B0 l
def dK(o:bg):List Nat:=
 match o.guard with
 |some (t,_)=>t::B0 (dO o.op)
 |none=>B0 (dO o.op)
def dB:AOp->Bool
 | .mov _| .pick .. | .build .. | .load .. | .cT _| .bin .. | .un .. | .jw .. | .eG .. | .dN .. | .field .. | .dx .. | .aC .. | .vh .. | .kj .. | .lookup .. | .lZ .. | .extract .. | .len .. | .oR _| .cap _| .ej .. =>true
 | .conv .toBytes _=>false
 | .conv _ _=>true
 | .slice .. =>true
 |_=>false
def nS:List Operand->Bool
 |[]=>true
 | .global _::_=>false
 |_::l=>nS l
def dX:AOp->Bool
 | .new _| .mkMap=>true
 | .box x=>nS [x]
 | .mkSlice _ _ l c=>nS [l,c]
 | .dy z n ps=>nS (ps.map (·.2.2))
 |_=>false
def lJ(o:AOp):Bool:=dB o||dX o
inductive Rk
 |skip|quiet|made (b:Nat)
structure Rec where
 i:Nat
 o:bg
 e:Env
 v:Value
 k:Rk
def uB(h:Heap)(base:Nat)(r:Rec):Bool:=
 match r.k with
 | .quiet=>match aop h base r.e r.o.op with
   |some (.val v' h2)=>jj r.v v'&&Nat.beq h2.next h.next
   |_=>false
 |_=>true
def rG(h:Heap)(base:Nat):List Rec->Bool
 |[]=>true
 |r::rs=>bif uB h base r then rG h base rs else false
def KP(log:List Nat)(r:Rec):Bool:=
 match r.k with
 | .made b=> !gL log b
 |_=>true
def Ew(bf:List Nat)(i:Nat):List Nat->Bool
 |[]=>true
 |j::js=>match bN bf j with
  |some m=>bif Nat.testBit m i then Ew bf i js else false
  |none=>false
def bL(h:Heap)(base:Nat)(log:List Nat)(mask:Nat):List Rec->Option (List Rec)
 |[]=>some []
 |r::rs=>bif Nat.testBit mask r.i then bL h base log mask rs else
  bif uB h base r&&KP log r then match bL h base log mask rs with
   |some rs'=>some (r::rs')
   |none=>none
  else none
def qS(h:Heap):Option Nat->Bool
 |none=>true
 |some l=>match h.get l with
  |some (.loop _ _ _ _ _ _)=>true
  |_=>false
def notReady:Option bT->Bool
 |some (.loop _ _ _ _ 0 .normal)=>false
 |_=>true
def iu:Option aq->Bool
 |some (.code _ _)=>false
 |_=>true
abbrev Dfs:=List (Value×List Value)
def La(e2:Env):Env->Bool
 |[]=>true
 |(t,v)::e=>match geT e2 t with
  |some v'=>bif jj v v' then La e2 e else false
  |none=>false
def De(e:Env):Env->Bool
 |[]=>true
 |(t,v)::e2=>bif flat v then De e e2 else match geT e t with
  |some v'=>bif jj v v' then De e e2 else false
  |none=>false
def Ay:Env->Env->Bool
 |[],[]=>true
 |(t,v)::e,(t',v')::e'=>bif Nat.beq t t' then bif jj v v' then Ay e e' else false else false
 |_,_=>false
def Uz(nxt:Nat)(e eo:Env)(x:bO)(e2:Env)(r:Option (bO×Env)):Option (Option (bO×Env)):=
 match x with
 | .normal=>bif La e2 e then some r else none
 | .panic _=>none
 | .exit i=>bif Nat.beq i nxt then(bif La e2 e then some r else none)else
   bif De eo e2 then match r with
    |none=>some (some (.exit i,e2))
    |some (.exit j,e3)=>bif Nat.beq i j&&Ay e2 e3 then some r else none
    |_=>none
   else none
 | .ret=>bif De eo e2 then match r with
  |none=>some (some (.ret,e2))
  |some (.ret,e3)=>bif Ay e2 e3 then some r else none
  |_=>none
   else none
def uf(fo:Env->Heap->Option (bO×Env×Dfs×Heap))(fe:Env->Heap->Option (bO×Env×Dfs×Heap))(nxt pr:Nat)(k2:List Nat)(e eo:Env)(h:Heap):List (Value×Value)->Option (Option (bO×Env))
 |[]=>some none
 |(k,v)::es=>match fo ((pr, .tuple #[k,v])::e) h with
  |some (.normal,e1,[],h1)=>match fe (cZ e1 k2) h1 with
   |some (x,e2,[],h2)=>match h2.log with
    |[]=>match uf fo fe nxt pr k2 e eo h es with
     |some r=>Uz nxt e eo x e2 r
     |none=>none
    |_::_=>none
   |_=>none
  |_=>none
def MO(out:Nat)(e0:Env)(h:Heap):Option (Option (bO×Env))->Option (bO×Env×Dfs×Heap)
 |some none=>some (.normal,e0,[],h)
 |some (some (.exit i,e'))=>bif Nat.beq i out then some (.normal,e',[],h)else some (.exit i,e',[],h)
 |some (some (.ret,e'))=>some (.ret,e',[],h)
 |_=>none
def roM(h:Heap)(m:Nat)(es:List (Value×Value)):Heap:={h with cU:=jI h.cU m (.xO es),log:=[]}
def itE(it:Nat)(h:Heap)(e:Env):Env:=(it, .pointer (some ⟨h.next,0,none⟩))::e
mutual
def di(T:Nat->Option aq):Nat->Nat->Option Nat->aZ->Env->Dfs->Heap->Option (bO×Env×Dfs×Heap)
 |0,_,_,_,_,_,_=>none
 |n+1,base,rnd,c,e,ds,h=>
  match c with
  | .skip=>some (.normal,e,ds,h)
  | .region ops keep=>match iC T n base rnd ops e ds h with
    |some (.normal,e',ds',h')=>some (.normal,cZ e' keep,ds',h')
    |r=>r
  | .draw ops order before keep=>match fG T n base ops order before [] e h with
    |some (.normal,e',h')=>some (.normal,cZ e' keep,ds,h')
    |some (x,e',h')=>some (x,e',ds,h')
    |none=>none
  | .seq a b=>match di T n base rnd a e ds h with
    |some (.normal,e',ds',h')=>di T n base rnd b e' ds' h'
    |r=>r
  | .cond c a b=>match ev h e c with
    |some (.bool true)=>di T n base rnd a e ds h
    |some (.bool false)=>di T n base rnd b e ds h
    |_=>none
  | .block id b=>match di T n base rnd b e ds h with
    |some (.exit i,e',ds',h')=>bif Nat.beq i id then some (.normal,e',ds',h')else some (.exit i,e',ds',h')
    |r=>r
  | .loop b=>match di T n base rnd b e ds h with
    |some (.normal,e',ds',h')=>di T n base rnd (.loop b) e' ds' h'
    |r=>r
  | .scope b=>di T n base rnd b e ds h
  | .rangeFunc f ps asg body=>bif qS h rnd then match ev h e f with
    |some (.func (.func g) first cap)=>bif iu (T g)then none else
     match jM T n g (eL first.toList (eL [.func (.yield h.next) #[] #[]] cap.toList)) {h.push (.loop e ps asg body 0 .normal)with log:=[]}with
     |some (.ret _,h2)=>match h2.get h.next with
      |some (.loop _ _ _ _ st jy)=>bif Nat.beq st 1 then none else
       some (jy,e,ds,Heap.wr {h2 with log:=aJ base h.log h2.log} base h.next .dead)
      |_=>none
     |some (.panic v,h2)=>some (.panic v,e,ds,{h2 with log:=aJ base h.log h2.log})
     |none=>none
    |_=>none
    else none
  | .rangeMap ops it x keep out nxt pr ops2 k2 body=>match iC T n base rnd ops e ds h with
    |some (.normal,e0,ds0,h0)=>match ds0 with
     |_::_=>none
     |[]=>match ev h0 e0 x with
      |some (.map none)=>some (.normal,cZ e0 keep,[],h0)
      |some (.map (some m))=>match h0.get m with
       |some (.map es)=>MO out (cZ e0 keep) h0 (uf (λe h=>iC T n (h0.next+1) rnd ops2 e [] h) (λe h=>di T n (h0.next+1) rnd body e [] h) nxt pr k2 (itE it h0 (cZ e0 keep)) (cZ e0 keep) ((roM h0 m es).push .dead) es)
       |_=>none
      |_=>none
    |r=>r
  | .exit id=>some (.exit id,e,ds,h)
  | .ret=>some (.ret,e,ds,h)
def iC(T:Nat->Option aq):Nat->Nat->Option Nat->List bg->Env->Dfs->Heap->Option (bO×Env×Dfs×Heap)
 |0,_,_,_,_,_,_=>none
 |n+1,base,rnd,ops,e,ds,h=>
  match ops with
  |[]=>some (.normal,e,ds,h)
  |o::os=>match cg e o.guard with
   |some false=>iC T n base rnd os (cN e o.dst (.tuple #[])) ds h
   |some true=>match aop h base e o.op with
    |some (.val v h')=>iC T n base rnd os (cN e o.dst v) ds h'
    |some (.call fn args h')=>match iw T n fn args {h' with log:=[]}with
     |some (.ret v,h2)=>iC T n base rnd os (cN e o.dst v) ds {h2 with log:=aJ base h'.log h2.log}
     |some (.panic v,h2)=>some (.panic v,e,ds,{h2 with log:=aJ base h'.log h2.log})
     |none=>none
    |some (.lI f args)=>match rnd with|some _=>none|none=>iC T n base rnd os (cN e o.dst (.tuple #[])) ((f,args)::ds) h
    |some (.panic v h')=>some (.panic v,e,ds,h')
    |_=>none
   |none=>none
def fG(T:Nat->Option aq):Nat->Nat->List bg->List Nat->List Nat->List Rec->Env->Heap->Option (bO×Env×Heap)
 |0,_,_,_,_,_,_,_=>none
 |n+1,base,ops,order,before,rs,e,h=>
  match order with
  |[]=>some (.normal,e,h)
  |i::is=>match bN ops i,bN before i with
   |some o,some mask=>
    match cg (cZ e (dK o)) o.guard with
    |some false=>fG T n base ops is before (⟨i,o,cZ e (dK o), .tuple #[], .skip⟩::rs) (cN e o.dst (.tuple #[])) h
    |some true=>
     bif lJ o.op then
      match aop h base (cZ e (dK o)) o.op with
      |some (.val v h')=>
       bif dX o.op then
        bif rG h' base rs then fG T n base ops is before (⟨i,o,cZ e (dK o),v, .made h.next⟩::rs) (cN e o.dst v) h' else none
       else bif Nat.beq h'.next h.next then fG T n base ops is before (⟨i,o,cZ e (dK o),v, .quiet⟩::rs) (cN e o.dst v) h
       else bif Ew before i is then
        match aop (η h) h.next (cZ e (dK o)) o.op with
        |some (.val v h2)=>match bL {h2 with log:=aJ base h.log h2.log} base h2.log mask rs with
         |some rs'=>fG T n base ops is before rs' (cN e o.dst v) {h2 with log:=aJ base h.log h2.log}
         |none=>none
        |_=>none
       else none
      |_=>none
     else
      match aop (η h) h.next (cZ e (dK o)) o.op with
      |some (.val v h2)=>match bL {h2 with log:=aJ base h.log h2.log} base h2.log mask rs with
       |some rs'=>fG T n base ops is before rs' (cN e o.dst v) {h2 with log:=aJ base h.log h2.log}
       |none=>none
      |some (.call fn args _)=>match iw T n fn args (η h)with
       |some (.ret v,h2)=>match bL {h2 with log:=aJ base h.log h2.log} base h2.log mask rs with
        |some rs'=>fG T n base ops is before rs' (cN e o.dst v) {h2 with log:=aJ base h.log h2.log}
        |none=>none
       |some (.panic v,h2)=>some (.panic v,[],{h2 with log:=aJ base h.log h2.log})
       |none=>none
      |_=>none
    |none=>none
   |_,_=>none
def iw(T:Nat->Option aq):Nat->Fn->List Value->Heap->Option (Res×Heap)
 |0,_,_,_=>none
 |n+1,fn,args,h=>
  match fn with
  | .func f=>jM T n f args h
  | .yield l=>match h.get l with
    |some (.loop e ps asg body 0 .normal)=>match j8 e ps args with
     |some e1=>match di T n h.next (some l) asg e1 [] h with
      |some (.normal,e2,ds2,h2)=>bif notReady (h2.get l)then none else match di T n h.next (some l) body e2 ds2 {h2 with cU:=jI h2.cU l (.loop e ps asg body 1 .normal)}with
       |some (.normal,_,_,h3)=>match h3.get l with
        |some (.loop _ _ _ _ 1 _)=>some (.ret (.bool true),gcA h {h3 with cU:=jI h3.cU l (.loop e ps asg body 0 .normal)} (.bool true))
        |_=>none
       |some (.exit i,_,_,h3)=>match h3.get l with
        |some (.loop _ _ _ _ 1 _)=>some (.ret (.bool false),h3.wr h.next l (.loop e ps asg body 2 (.exit i)))
        |_=>none
       |some (.ret,_,_,h3)=>match h3.get l with
        |some (.loop _ _ _ _ 1 _)=>some (.ret (.bool false),h3.wr h.next l (.loop e ps asg body 2 .ret))
        |_=>none
       |_=>none
      |_=>none
     |none=>none
    |_=>none
  |_=>none
def jM(T:Nat->Option aq):Nat->Nat->List Value->Heap->Option (Res×Heap)
 |0,_,_,_=>none
 |n+1,f,args,h=>
  match T f with
  |none=>none
  |some (.mW p)=>match p args h with
   |some (v,h')=>some (.ret v,h')
   |none=>none
  |some (.code code results)=>match di T n h.next none code (fu 0 args) [] h with
   |some (.panic v,e,ds,h1)=>rL T n results ds (some v) e h h1
   |some (.exit _,_,_,_)=>none
   |some (_,e,ds,h1)=>rL T n results ds none e h h1
   |none=>none
def rL(T:Nat->Option aq):Nat->List (Nat×Option (Option Nat))->Dfs->Option Value->Env->Heap->Heap->Option (Res×Heap)
 |0,_,_,_,_,_,_=>none
 |n+1,results,ds,pan,e,h,h1=>
  match ds with
  |[]=>match pan with
   |some v=>some (.panic v,h1)
   |none=>match cI h1 e results with
    |some vs=>some (.ret (fB vs),gcA h h1 (fB vs))
    |none=>none
  |(.func (.func g) first cap,args)::ds=>match mK T n g (eL first.toList (eL args cap.toList)) pan (η h1)with
   |some (pan',h2)=>rL T n results ds pan' e h {h2 with log:=aJ h.next h1.log h2.log}
   |none=>none
  |_=>none
def mK(T:Nat->Option aq):Nat->Nat->List Value->Option Value->Heap->Option (Option Value×Heap)
 |0,_,_,_,_=>none
 |n+1,g,args,pan,h=>
  match T g with
  |some (.code code [])=>match jE T n h.next code (fu 0 args) pan h with
   |some (.normal,_,pan',h')=>some (pan',h')
   |some (.ret,_,pan',h')=>some (pan',h')
   |_=>none
  |_=>none
def jE(T:Nat->Option aq):Nat->Nat->aZ->Env->Option Value->Heap->Option (bO×Env×Option Value×Heap)
 |0,_,_,_,_,_=>none
 |n+1,base,c,e,pan,h=>
  match c with
  | .skip=>some (.normal,e,pan,h)
  | .region ops keep=>match lu T n base ops e pan h with
    |some (.normal,e',pan',h')=>some (.normal,cZ e' keep,pan',h')
    |r=>r
  | .seq a b=>match jE T n base a e pan h with
    |some (.normal,e',pan',h')=>jE T n base b e' pan' h'
    |r=>r
  | .cond c a b=>match ev h e c with
    |some (.bool true)=>jE T n base a e pan h
    |some (.bool false)=>jE T n base b e pan h
    |_=>none
  | .ret=>some (.ret,e,pan,h)
  |_=>none
def lu(T:Nat->Option aq):Nat->Nat->List bg->Env->Option Value->Heap->Option (bO×Env×Option Value×Heap)
 |0,_,_,_,_,_=>none
 |n+1,base,ops,e,pan,h=>
  match ops with
  |[]=>some (.normal,e,pan,h)
  |o::os=>match cg e o.guard with
   |some false=>lu T n base os (cN e o.dst (.tuple #[])) pan h
   |some true=>match aop h base e o.op with
    |some (.val v h')=>lu T n base os (cN e o.dst v) pan h'
    |some .recover=>match pan with
     |some v=>lu T n base os (cN e o.dst v) none h
     |none=>lu T n base os (cN e o.dst .nilIface) none h
    |_=>none
   |none=>none
end
def aP(P:Program):Operand->Bool
 | .const v=>dA v
 | .global g=>Nat.blt g P.globals.size
 |_=>true
def eM(P:Program)(t:TypeId):Option Nat:=(P.info? t).map (·.size)
def nE(P:Program)(t:TypeId):Option Nat:=(P.info? t).map (·.bytes)
def jb(P:Program)(t:TypeId):Option Value:=(P.info? t).bind (·.zero)
def Cp(P:Program)(t:TypeId):Option (Option Nat):=
 match P.underlying t with
 |some (.struct _)|some (.array _ _)=>(eM P t).map some
 |some _=>some none
 |none=>none
def goL(P:Program)(lf:TypeId->Option (List eS)):Nat->List Field->Option (List eS)
 |_,[]=>some []
 |off,f::fs=>if f.name= "_" ∨f.offset≠off then none else match lf f.type,eM P f.type with
  |some l,some s=>if l.length=s then match goL P lf (off+s) fs with
   |some m=>some (eL l m)
   |none=>none
   else none
  |_,_=>none
def ew(P:Program):Nat->TypeId->Option (List eS)
 |0,_=>none
 |d+1,t=>match P.underlying t with
  |some .bool=>some [.b]
  |some (.int k)=>some [.i k]
  |some .string=>some [.s]
  |some (.array n e)=>match ew P d e,eM P e with
   |some l,some s=>if l.length=s then some (eR n l)else none
   |_,_=>none
  |some (.struct fs)=>if P.stoodInHeld t then none else goL P (ew P d) 0 fs.toList
  |_=>none
def gK(P:Program)(t:TypeId):Bool:=
 match P.underlying t with
 |some (.struct _)|some (.array _ _)=>true
 |_=>false
def pN:Operand->Bool
 | .const _=>true
 |_=>false
def zO:BinOp->Option Bool
 | .eql=>some false
 | .neq=>some true
 |_=>none
def sN(place:Nat->Option (Nat×Nat)):List (Nat×Operand)->Option (List (Nat×Nat×Operand))
 |[]=>some []
 |(i,x)::ps=>match place i,sN place ps with
  |some (o,s),some l=>some ((o,s,x)::l)
  |_,_=>none
def iy(P:Program)(o:Op):Option AOp:=
 if o.operands.toList.all (aP P)then
 match o with
 | .move x| .assign x=>some (.mov x)
 | .pick c a b=>some (.pick c a b)
 | .alloc t=>match jb P t with
   |some z=>if dQ (cellsOf z)then some (.new (cellsOf z))else none
   |none=>none
 | .box _ x=>some (.box x)
 | .build t ps=>match jb P t,P.underlying t with
   |some z,some (.struct fs)=>if dQ (cellsOf z)/\fs.toList.all (λf=>(eM P f.type).isSome)then(sN (λi=>(fs[i]?).map λf=>(f.offset,P.cellsOf f.type)) ps.toList).map (.build (cellsOf z))else none
   |some z,some (.array _ e)=>match eM P e with
    |some s=>if dQ (cellsOf z)then(sN (λi=>some (i*s,s)) ps.toList).map (.build (cellsOf z))else none
    |none=>none
   |_,_=>none
 | .buildSlice t n ps=>match P.underlying t with
   |some (.slice e)=>match eM P e,jb P e with
    |some s,some z=>if n*s<=2 ^ 24/\bS (cellsOf z)=s/\s≠0/\dQ (cellsOf z)then(sN (λi=>some (i*s,s)) ps.toList).map (.dy (cellsOf z) n)else none
    |_,_=>none
   |_=>none
 | .load t a=>(Cp P t).map λn=> .load n a
 | .store t a v=>(eM P t).map λn=> .store n a v
 | .nilCheck x=>some (.cT x)
 | .binOp op t x y _=>
   match P.underlying t with
   |some (.struct _)|some (.array _ _)=>match op,ew P 100 t with
    | .eql,some ls=>if P.eqGuardType P.depth t then none else some (.bin (.agg false ls) x y)
    | .neq,some ls=>if P.eqGuardType P.depth t then none else some (.bin (.agg true ls) x y)
    |_,_=>none
   |some (.interface _)=>if pN x||pN y then(zO op).map λn=> .bin (.nil .iface n) x y else none
   |some (.pointer _)=>(zO op).map λn=> .bin (.nil .ptr n) x y
   |some (.slice _)=>(zO op).map λn=> .bin (.nil .sl n) x y
   |some (.map _ _)=>(zO op).map λn=> .bin (.nil .map n) x y
   |some (.func _ _ _)=>(zO op).map λn=> .bin (.nil .func n) x y
   |some .bool=>(zO op).map λn=> .bin (.beq n) x y
   |some (.int _)=>some (.bin (.num op) x y)
   |some .string=>some (.bin (.num op) x y)
   |_=>none
 | .unOp op _ x=>some (.un op x)
 | .convert s d x=>match P.underlying s,P.underlying d with
   |some (.int _),some (.int k)=>some (.conv (.int k) x)
   |some .string,some .string=>none
   |some (.slice e),some .string=>match P.underlying e with
    |some (.int .u8)=>none
    |_=>none
   |some .string,some (.slice e)=>match P.underlying e with
    |some (.int .u8)=>none
    |_=>none
   |_,_=>none
 | .makeInterface t x=>match P.underlying t with
   |some (.interface _)=>none
   |some _=>some (.jw t x)
   |none=>none
 | .makeFunc (.func f) fs cs=>some (.eG (.func f) fs.toList cs.toList)
 | .makeMap _ none=>some .mkMap
 | .makeMap t (some (.const (.int _ _)))=>match P.underlying t with
   |some (.map _ _)=>some .mkMap
   |_=>none
 | .makeSlice t l c=>match P.underlying t with
   |some (.slice e)=>match eM P e,jb P e,nE P e with
    |some s,some z,some b=>if bS (cellsOf z)=s/\s≠0/\dQ (cellsOf z)then some (.mkSlice (cellsOf z) b l c)else none
    |_,_,_=>none
   |_=>none
 | .slice t x lo hi mx=>if mx.isSome&&hi.isNone then none else match P.underlying t with
   |some .string=>match mx with
    |none=>none
    |some _=>none
   |some (.slice e)=>(eM P e).map λs=> .slice (.sl s) x lo hi mx
   |some (.array n e)=>if n<UNK then(eM P e).map λs=> .slice (.arr n s) x lo hi mx else none
   |some (.pointer a)=>match P.underlying a with
    |some (.array n e)=>if n<UNK then(eM P e).map λs=> .slice (.arr n s) x lo hi mx else none
    |_=>none
   |_=>none
 | .fieldAddr s x f=>match P.underlying s with
   |some (.struct fs)=>match fs[f]? with
    |some f=>match eM P f.type with
     |some (_+1)=>some (.dN f.offset x)
     |_=>none
    |none=>none
   |_=>none
 | .field s x f=>match P.underlying s with
   |some (.struct fs)=>match fs[f]? with
    |some f=>none
    |none=>none
   |_=>none
 | .indexAddr t x i=>match P.underlying t with
   |some (.array n e)=>(eM P e).map λs=> .dx n s x i
   |some (.slice e)=>(eM P e).map λs=> .aC s x i
   |_=>none
 | .index t x i=>match P.underlying t with
   |some (.array n e)=>match eM P e,Cp P e with
    |some s,some a=>some (.vh n s a x i)
    |_,_=>none
   |some .string=>some (.kj x i)
   |_=>none
 | .lookup t m k ok=>match P.underlying t with
   |some (.map kt e)=>match ew P 100 kt,jb P e with
    |some ls,some z=>if flat z then some (.lookup (gK P kt) ls z ok m k)else none
    |_,_=>none
   |_=>none
 | .mapUpdate t m k v=>match P.underlying t with
   |some (.map kt _)=>match ew P 100 kt with
    |some ls=>some (.ot (gK P kt) ls m k v)
    |none=>none
   |_=>none
 | .typeAssert x _ a ok=>match P.underlying a with
   |some (.interface _)=>none
   |some _=>match jb P a with
    |some z=>if flat z then some (.lZ a ok z x)else none
    |none=>none
   |none=>none
 | .extract t i=>some (.extract t i)
 | .panic x=>some (.wC x)
 | .range t x=>match P.underlying t with
   |some .string=>none
   |some (.map _ _)=>some (.oU x)
   |_=>none
 | .next x s=>match s with
   |false=>some (.next x false)
   |true=>none
 | .entry x=>some (.entry x)
 | .call c=>match c.callee with
   | .value f=>some (.call f c.args.toList)
   | .invoke _ _=>none
   | .builtin b=>match b,c.argTypes.toList,c.args.toList with
     | .len,[t],[x]=>match P.underlying t with
       |some .string=>some (.len 0 x)
       |some (.slice _)=>some (.len 1 x)
       |some (.map _ _)=>some (.len 2 x)
       |some (.array n _)=>none
       |some (.pointer a)=>match P.underlying a with
        |some (.array n _)=>none
        |_=>none
       |_=>none
     | .cap,[t],[x]=>match P.underlying t with
       |some (.slice _)=>none
       |_=>none
     | .append,[st,xt],[s,x]=>match P.underlying st,P.underlying xt with
       |some (.slice e),some (.int _)=>match jb P e,nE P e,eM P e with
        |some z,some b,some n=>if bS (cellsOf z)=n/\n≠0/\b≠0/\dQ (cellsOf z)then none else none
        |_,_,_=>none
       |some (.slice e),some _=>match eM P e,nE P e,jb P e with
        |some n,some b,some z=>if bS (cellsOf z)=n/\n≠0/\b≠0/\dQ (cellsOf z)then some (.append n b s x)else none
        |_,_,_=>none
       |_,_=>none
     | .copy,[dt,_],[d,s]=>match P.underlying dt with
       |some (.slice e)=>(eM P e).map λn=> .copy n d s
       |_=>none
     | .max,_,args=>if 2<=c.args.size then some (.ej true args)else none
     | .min,_,args=>if 2<=c.args.size then some (.ej false args)else none
     | .delete,[mt,_],[m,k]=>match P.underlying mt with
       |some (.map kt _)=>match ew P 100 kt with
        |some ls=>none
        |none=>none
       |_=>none
     | .clear,[t],[x]=>match P.underlying t with
       |some (.slice e)=>match jb P e with
        |some z=>if dQ (cellsOf z)then some (.clear (cellsOf z) x)else none
        |none=>none
       |_=>none
     | .recover,_,_=>some .recover
     |_,_,_=>none
 | .defer c=>match c.callee with
   | .value f=>some (.lI f c.args.toList)
   |_=>none
 |_=>none
 else none
def mQ(nt:Nat):Option Nat->Bool
 |none=>true
 |some t=>Nat.blt t nt
def cS(P:Program)(nt:Nat)(ops:Array Oper):List Oper->Option (List bg)
 |[]=>some []
 |o::os=>if mQ nt o.dst then match iy P o.op,cS P nt ops os with
  |some a,some as=>match o.guard with
   |none=>some (⟨o.dst,a,none⟩::as)
   |some (j,b)=>match(ops[j]?).bind (·.dst)with
    |some t=>some (⟨o.dst,a,some (t,b)⟩::as)
    |none=>none
  |_,_=>none else none
def HS(ops:List Oper)(done:List Nat):Nat->List Oper->List Nat
 |_,[]=>[]
 |i,o::os=>
  if !gL done i&&(o.after.toList.all λe=> !Region.binds .any e||gL done e.on)then i::HS ops done (i+1) os else HS ops done (i+1) os
def eager(ops:List Oper)(q:List Bool):Nat->List Nat->List Nat
 |0,done=>done.reverse
 |n+1,done=>
  let r:=HS ops done 0 ops
  match r.find? (λi=>(bN q i).getD false)with
  |some i=>eager ops q n (i::done)
  |none=>match r with
   |i::_=>eager ops q n (i::done)
   |[]=>done.reverse
def HB(o:Oper):List Nat:=(o.after.toList.filter (Region.binds .any)).map (·.on)
def j6(ops:List Oper)(i:Nat):List Nat:=
 match bN ops i with
 |some o=>HB o
 |none=>[]
def topoOk(as:List bg)(ops:List Oper)(done:List Nat):List Nat->Bool
 |[]=>true
 |i::is=>(j6 ops i).all (gL done)&& !gL done i&&
  (match bN as i with|some a=>lJ a.op||is.all λj=>(j6 ops j).any (gL (i::is))|none=>false)&&topoOk as ops (i::done) is
def Tq(as:List bg)(ops:List Oper)(bf:List Nat)(n:Nat):Bool:=
 (List.range n).all fun j=>match bN as j with
   |some a=>(dK a).all λt=>(List.range n).all λp=>match bN as p with
    |some b=> !(b.dst==some t)||gL (j6 ops j) p||(match bN bf p with|some m=>Nat.testBit m j|none=>false)
    |none=>false
   |none=>false
def U6(as:List bg)(n:Nat):Bool:=
 (List.range n).all fun j=>(List.range n).all fun p=>match bN as j,bN as p with
   |some a,some b=>Nat.beq j p|| !(a.dst==b.dst)||a.dst.isNone
   |_,_=>false
def Sb(ops:List Oper)(bf:List Nat)(n:Nat):Bool:=
 (List.range n).all fun i=>(List.range n).all fun p=>match bN bf i with
   |some m=> !Nat.testBit m p||(j6 ops i).any λq=>Nat.beq p q||(match bN bf q with|some mq=>Nat.testBit mq p|none=>false)
   |none=>false
def y9(as:List bg)(ops:List Oper)(ord bf:List Nat):Bool:=
 Nat.beq ord.length ops.length&&ord.all (Nat.blt · ops.length)&&(List.range ops.length).all (gL ord)&&topoOk as ops [] ord&&Tq as ops bf ops.length&&U6 as ops.length&&Sb ops bf ops.length&&
  as.all λa=>match a.op with| .lI _ _=>false|_=>true
def AK{α:Type}:List α->Option (List α×α)
 |[]=>none
 |[x]=>some ([],x)
 |x::l=>match AK l with
  |some (l',y)=>some (x::l',y)
  |none=>none
def Ux(ops:List bg)(keep:List Nat)(out nx it1 mo nx1 mo1 out1 nxt pr it2:Nat)(ops2:List bg)(k2:List Nat)(body:aZ):Option aZ:=
 match AK ops with
 |some (ops0,⟨some it, .oU x,none⟩)=>
  if it1=it/\it2=it/\nx1=nx/\mo1=mo/\out1=out/\nx≠mo/\it≠nx/\it≠mo then
   some (.rangeMap ops0 it x (keep.filter λt=> !(Nat.beq t it||Nat.beq t nx||Nat.beq t mo)) out nxt pr ops2 k2 body)
  else none
 |_=>none
def fuse? :aZ->aZ->Option aZ
 | .region ops keep, .block out (.loop (.seq (.region [⟨some nx, .next (.tmp it1) false,none⟩,⟨some mo, .extract (.tmp nx1) 0,none⟩] _) (.seq (.cond (.tmp mo1) .skip (.exit out1)) (.block nxt (.seq (.region (⟨some pr, .entry (.tmp it2),none⟩::ops2) k2) body)))))=>
   Ux ops keep out nx it1 mo nx1 mo1 out1 nxt pr it2 ops2 k2 body
 |_,_=>none
def YC(a b:aZ):aZ:=
 match fuse? a b with
 |some c=>c
 |none=> .seq a b
def comp(P:Program)(nt:Nat):Code->List (List Nat)->Option (aZ×List (List Nat))
 | .skip,ks=>some (.skip,ks)
 | .region _ ops draw,ks=>match ks,cS P nt ops ops.toList with
   |k::ks,some as=>
    if draw then
     let ord:=eager ops.toList (as.map λa=>lJ a.op) ops.size [];let bf:=(Region.before ops).toList
     if y9 as ops.toList ord bf then some (.draw as ord bf k,ks)else none
    else some (.region as k,ks)
   |_,_=>none
 | .seq a b,ks=>match comp P nt a ks with
   |some (a',ks)=>match comp P nt b ks with
    |some (b',ks)=>some (YC a' b',ks)
    |none=>none
   |none=>none
 | .cond c a b,ks=>if aP P c then match comp P nt a ks with
   |some (a',ks)=>match comp P nt b ks with
    |some (b',ks)=>some (.cond c a' b',ks)
    |none=>none
   |none=>none else none
 | .block id b,ks=>match comp P nt b ks with
   |some (b',ks)=>some (.block id b',ks)
   |none=>none
 | .loop b,ks=>match comp P nt b ks with
   |some (b',ks)=>some (.loop b',ks)
   |none=>none
 | .rangeFunc f ps a b,ks=>if aP P f&&ps.toList.all (Nat.blt · nt)then match comp P nt a ks with
   |some (a',ks)=>match comp P nt b ks with
    |some (b',ks)=>some (.rangeFunc f ps.toList a' b',ks)
    |none=>none
   |none=>none else none
 | .scope b,ks=>match comp P nt b ks with
   |some (b',ks)=>some (.scope b',ks)
   |none=>none
 | .label _,ks=>some (.skip,ks)
 | .exit id,ks=>some (.exit id,ks)
 | .ret,ks=>some (.ret,ks)
 |_,_=>none
def F3(P:Program):List ResultVar->Option (List (Nat×Option (Option Nat)))
 |[]=>some []
 | .tmp t::rs=>(F3 P rs).map ((t,none):: ·)
 | .cell a t::rs=>match Cp P t,F3 P rs with
   |some n,some l=>some ((a,some n)::l)
   |_,_=>none
def aI(P:Program)(f:Func)(ks:List (List Nat)):Option aq:=
 match f.body with
 |some c=>if f.name= "runtime.NumGoroutine" then none else match comp P f.ntmps c ks,F3 P f.results.toList with
  |some (ac,[]),some rs=>some (.code ac rs)
  |_,_=>none
 |none=>none
def ksC:aZ->List (List Nat)
 | .region _ k=>[k]
 | .draw _ _ _ k=>[k]
 | .seq a b=>ksC a++ksC b
 | .cond _ a b=>ksC a++ksC b
 | .block _ b=>ksC b
 | .loop b=>ksC b
 | .rangeFunc _ _ a b=>ksC a++ksC b
 | .scope b=>ksC b
 | .rangeMap _ _ _ k _ _ _ _ k2 b=>k::[]::k2::ksC b
 |_=>[]
def ksO:aq->List (List Nat)
 | .code c _=>ksC c
 |_=>[]
inductive Tr
 |nil|node (l:Tr) (k:Nat) (v:aq) (r:Tr)
def Tr.get:Tr->Nat->Option aq
 | .nil,_=>none
 | .node l k v r,n=>bif Nat.beq n k then some v else bif Nat.blt n k then l.get n else r.get n
def cL:aZ->aZ
 | .seq a _=>a
 |c=>c
def cR:aZ->aZ
 | .seq _ b=>b
 |c=>c
def codeOf:aq->aZ
 | .code c _=>c
 |_=> .skip
end Go.A
section
namespace Go.A
abbrev bl:=@Nat.le_refl
abbrev bx:=@List.getElem?_eq_getElem
abbrev bz:=@List.mem_cons_of_mem
abbrev b7:=@List.mem_cons_self
abbrev ci:=@List.mem_of_getElem?
abbrev dk:=@List.length_append
abbrev dn:=@List.getD_eq_getElem?_getD
abbrev ec:=@Option.ite_none_right_eq_some
abbrev ed:=@Result.andThen_ok
abbrev eA:=@Nat.lt_succ_self
abbrev gk:=@Bool.and_eq_true
abbrev go:=@List.take_of_length_le
abbrev gy:=@Nat.le_trans
abbrev gR:=@Sem.run_bind
abbrev gS:=@Array.getElem?_setIfInBounds
abbrev hF:=@Nat.zero_add
abbrev hG:=@List.length_set
abbrev hK:=@Nat.zero_le
abbrev hX:=@List.getElem?_append_right
abbrev j3:=@List.length_map
abbrev kz:=@List.getElem?_eq_none
abbrev lp:=@List.length_take
abbrev m6:=@Nat.lt_of_lt_of_le
abbrev oB:=@List.getElem?_append_left
abbrev oC:=@Sem.run_pure
abbrev q9:=@List.take_append_of_le_length
abbrev tb:=@List.length_cons
abbrev wd:=@List.take_length
abbrev wi:=@List.getElem?_take_of_lt
abbrev wl:=@List.append_nil
abbrev wn:=@List.getElem?_drop
abbrev wp:=@Bool.or_eq_true
abbrev wt:=@List.getElem?_map
abbrev ww:=@List.drop_zero
abbrev wx:=@List.length_replicate
abbrev wy:=@List.ext_getElem?
abbrev xa:=@List.take_succ_eq_append_getElem
abbrev xc:=@Nat.lt_irrefl
abbrev xf:=@Array.getD_eq_getD_getElem?
abbrev xi:=@List.drop_of_length_le
abbrev xj:=@Nat.lt_of_le_of_lt
abbrev xl:=@Nat.pow_le_pow_right
abbrev xn:=@Bool.or_eq_false_iff
abbrev xp:=@Nat.le_add_right
abbrev xr:=@Nat.mul_one
abbrev xx:=@Bool.and_eq_false_iff
abbrev xP:=@List.map_cons
abbrev yi:=@Bool.true_and
abbrev yn:=@List.mem_of_mem_take
abbrev yr:=@List.foldl_append
abbrev At:=@List.append_assoc
abbrev AC:=@Nat.pos_of_ne_zero
abbrev A1:=@List.map_append
abbrev A3:=@List.mem_or_eq_of_mem_set
abbrev Bo:=@Nat.add_mul
abbrev BT:=@Option.map_eq_some_iff
abbrev Cl:=@Bool.false_eq_true
abbrev Co:=@List.drop_drop
abbrev CS:=@List.getElem_mem
abbrev Do:=@List.length_singleton
abbrev D4:=@List.nil_append
abbrev Ej:=@List.drop_append_of_le_length
abbrev EQ:=@Nat.lt_succ_of_lt
abbrev Fd:=@Bool.and_true
abbrev Fr:=@List.take_append_drop
abbrev FX:=@Nat.min_eq_left
abbrev GE:=@Nat.testBit_two_pow_mul_add
abbrev GH:=@List.getElem?_replicate
abbrev GT:=@List.mem_append_left
abbrev G7:=@Nat.blt_eq
abbrev Hc:=@Nat.pow_succ
abbrev Hd:=@Nat.add_assoc
abbrev Hk:=@Nat.lt_or_ge
abbrev Hm:=@Nat.le_succ
abbrev Hn:=@Nat.mul_le_mul
abbrev HG:=@List.filter_congr
abbrev HP:=@Nat.le_succ_of_le
abbrev Id:=@Bool.not_eq_true'
abbrev If:=@List.getElem?_set
abbrev In:=@Bool.eq_iff_iff
abbrev Ix:=@List.drop_eq_getElem_cons
abbrev IR:=@List.mem_append_right
abbrev I0:=@Nat.zero_mul
abbrev J0:=@Nat.sub_self
abbrev Kd:=@List.length_drop
abbrev LE:=@Bool.not_true
abbrev LT:=@Nat.mul_le_mul_right
abbrev M2:=@Bool.and_false
abbrev Nm:=@Int.eq_ofNat_of_zero_le
abbrev NE:=@List.flatMap_append
abbrev Ok:=@Nat.mul_le_mul_left
abbrev Pi:=@List.toList_toArray
abbrev Ps:=@List.mem_cons
abbrev PH:=@List.filter_cons
abbrev PP:=@List.all_eq_true
abbrev PQ:=@List.getElem?_zipWith
abbrev P1:=@Bool.not_false
abbrev P2:=@List.range_succ
abbrev QP:=@Nat.testBit_and
abbrev QQ:=@List.all_append
abbrev QR:=@List.any_append
abbrev R0:=@Nat.add_zero
abbrev So:=@List.getElem?_set_ne
abbrev Sp:=@List.take_succ_cons
abbrev Sx:=@Array.toList_append
abbrev ST:=@List.take_zero
abbrev SW:=@List.cons_append
abbrev UV:=@List.getElem?_set_self
abbrev WP:=@List.map_set
abbrev Xs:=@List.length_filter_le
abbrev Ys:=@List.nodup_cons
abbrev ab0:=@List.foldl_cons
abbrev ab1:=@Array.getElem?_modify
abbrev ab2:=@Option.map_some
abbrev ab3:=@List.take_add_one
abbrev ab4:=@Nat.eq_of_testBit_eq
abbrev ab5:=@Nat.one_mul
abbrev ab6:=@Int.le_refl
abbrev ab7:=@List.drop_take
abbrev ab8:=@List.take_take
abbrev ab9:=@Bool.false_and
abbrev ac0:=@List.flatMap_nil
abbrev ac1:=@List.not_mem_nil
abbrev ac2:=@List.eq_of_mem_replicate
abbrev ac3:=@Nat.add_sub_cancel_left
abbrev ac4:=@List.filter_cons_of_neg
abbrev ac5:=@Bool.and_self
abbrev ac6:=@List.filter_append
abbrev ac7:=@List.getElem?_take
abbrev ac9:=@List.length_pos_of_mem
end Go.A
end
