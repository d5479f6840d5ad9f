/- The machine: its heap, its operations, its runs, how it is made out of code; nothing of a law. -/
import Derived.CallsIn
import GoSem.Core.Region
import Derived.Lib.Join
set_option linter.all false
namespace Go.A
def UNK:Nat:=4611686018427387904
def cm{α:Type}:List α→Nat→Option α
 |[],_=>none
 |x::_,0=>some x
 |_::l,i+1=>cm l i
def qc{α:Type}:List α→Nat→α→List α
 |[],_,_=>[]
 |_::l,0,y=>y::l
 |x::l,i+1,y=>x::qc l i y
def bV{α:Type}:Nat→List α→List α
 |0,_=>[]
 |_+1,[]=>[]
 |n+1,x::l=>x::bV n l
def bE{α:Type}:Nat→List α→List α
 |0,l=>l
 |_+1,[]=>[]
 |n+1,_::l=>bE n l
def cU{α:Type}:List α→Nat→List α→List α
 |l,_,[]=>l
 |l,i,y::ys=>cU (qc l i y) (i+1) ys
def aM{α:Type}:Nat→α→List α
 |0,_=>[]
 |n+1,x=>x::aM n x
def fu:List Nat→Nat→Bool
 |[],_=>false
 |x::l,n=>bif Nat.beq x n then true else fu l n
def dQ{α:Type}:List α→List α→List α
 |[],m=>m
 |x::l,m=>x::dQ l m
def eN{α:Type}:Nat→List α→List α
 |0,_=>[]
 |n+1,z=>dQ z (eN n z)
abbrev Env:=List (Nat×Value)
def geT:Env→Nat→Option Value
 |[],_=>none
 |(k,v)::e,t=>bif Nat.beq k t then some v else geT e t
def bG(e:Env):List Nat→Env
 |[]=>[]
 |t::ts=>match geT e t with
  |some v=>(t,v)::bG e ts
  |none=>bG e ts
inductive dP
 |b|i (k:IntKind)|s
 deriving Repr,DecidableEq,Inhabited
inductive Cv
 |int (k:IntKind)|same|toBytes|toStr|OX
 deriving Repr,Inhabited
inductive NK
 |ptr|sl|map|func|iface
 deriving Repr,DecidableEq,Inhabited
inductive Dl
 |num (op:BinOp)
 |beq (neq:Bool)
 |nil (k:NK) (neq:Bool)
 |agg (neq:Bool) (ls:List dP)
 deriving Inhabited
inductive ASl
 |str|sl (size:Nat)|arr (n size:Nat)
 deriving Inhabited
inductive AOp
 |mov (x:Operand)
 |pick (c a b:Operand)
 |new (zero:List Value)
 |box (v:Operand)
 |build (zero:List Value) (parts:List (Nat×Nat×Operand))
 |cT (zero:List Value) (len:Nat) (parts:List (Nat×Nat×Operand))
 |load (n:Option Nat) (a:Operand)
 |store (n:Nat) (a v:Operand)
 |bX (x:Operand)
 |bin (op:Dl) (x y:Operand)
 |un (op:UnOp) (x:Operand)
 |conv (c:Cv) (x:Operand)
 |ir (t:TypeId) (x:Operand)
 |dZ (fn:Fn) (first captured:List Operand)
 |mkMap
 |mkSlice (zero:List Value) (bytes:Nat) (len cap:Operand)
 |slice (k:ASl) (x:Operand) (lo hi mx:Option Operand)
 |dg (off:Nat) (x:Operand)
 |field (off:Nat) (n:Option Nat) (x:Operand)
 |cD (len size:Nat) (x i:Operand)
 |aO (size:Nat) (x i:Operand)
 |rM (len size:Nat) (n:Option Nat) (x i:Operand)
 |iS (x i:Operand)
 |lookup (ag:Bool) (ls:List dP) (zero:Value) (commaOk:Bool) (m k:Operand)
 |nE (ag:Bool) (ls:List dP) (m k v:Operand)
 |jH (asserted:TypeId) (commaOk:Bool) (zero:Value) (x:Operand)
 |extract (t:Operand) (i:Nat)
 |call (f:Operand) (args:List Operand)
 |len (k:Nat) (x:Operand)
 |jv (n:Nat)
 |cap (x:Operand)
 |append (size bytes:Nat) (s x:Operand)
 |jG (zero:List Value) (bytes:Nat) (s n:Operand)
 |copy (size:Nat) (d s:Operand)
 |clear (z:List Value) (x:Operand)
 |dO (max:Bool) (args:List Operand)
 |delete (ag:Bool) (ls:List dP) (m k:Operand)
 |jg (f:Operand) (args:List Operand)
 |recover
 |rP (x:Operand)
 |range (x:Operand)
 |next (x:Operand) (str:Bool)
 |lP (x:Operand)
 |entry (x:Operand)
 deriving Inhabited
structure aZ where
 dst:Option Nat
 op:AOp
 guard:Option (Nat×Bool)
 deriving Inhabited
inductive bn
 |skip
 |region (ops:List aZ) (keep:List Nat)
 |draw (ops:List aZ) (order:List Nat) (before:List Nat) (keep:List Nat)
 |seq (a b:bn)
 |cond (c:Operand) (a b:bn)
 |block (id:Nat) (b:bn)
 |loop (b:bn)
 |scope (b:bn)
 |rangeFunc (f:Operand) (params:List Nat) (assign body:bn)
 |rangeMap (ops:List aZ) (it:Nat) (x:Operand) (keep:List Nat) (out nxt pr:Nat) (ops2:List aZ) (keep2:List Nat) (body:bn)
 |exit (id:Nat)
 |ret
 deriving Inhabited
inductive bA
 |normal|exit (id:Nat)|ret|panic (v:Value)
 deriving Inhabited
inductive bN
 |cells (vs:List Value) (own:Bool) (sz:Nat)
 |map (es:List (Value×Value))
 |sI (es:List (Value×Value))
 |loop (env:Env) (params:List Nat) (assign body:bn) (st:Nat) (gV:bA)
 |j0 (s:ByteArray) (pos:Nat)
 |dead
 deriving Inhabited
structure Heap where
 bM:List (Nat×bN)
 next:Nat
 log:List Nat
 deriving Inhabited
inductive ah
 |code (c:bn) (results:List (Nat×Option (Option Nat)))
 |jV (p:List Value→Heap→Option (Value×Heap))
 deriving Inhabited
def eX:List (Nat×bN)→Nat→Option bN
 |[],_=>none
 |(k,o)::l,b=>bif Nat.beq k b then some o else eX l b
def gW:List (Nat×bN)→Nat→bN→List (Nat×bN)
 |[],_,_=>[]
 |(k,o)::l,b,o'=>bif Nat.beq k b then(k,o')::l else(k,o)::gW l b o'
def Heap.get(h:Heap)(b:Nat):Option bN:=eX h.bM b
def yp:Option bN→Option (List (Value×Value))
 |some (.map es)=>some es
 |some (.sI es)=>some es
 |_=>none
def Heap.push(h:Heap)(o:bN):Heap:={h with bM:=(h.next,o)::h.bM,next:=h.next+1}
def Heap.wr(h:Heap)(base b:Nat)(o:bN):Heap:=
 {h with bM:=gW h.bM b o,log:=bif Nat.blt b base then(bif fu h.log b then h.log else b::h.log)else h.log}
def ji:Value→Bool
 | .bool _| .int _ _| .float _ _| .complex _ _ _| .string _| .nilFunc| .nilIface=>true
 | .pointer none| .slice none _ _| .map none| .chan none=>true
 | .func (.func _) f c=>Nat.beq f.toList.length 0&&Nat.beq c.toList.length 0
 |_=>false
def nc:Value→Bool
 | .iface _ v=>ji v
 |v=>ji v
def cS:List Value→Bool
 |[]=>true
 |v::l=>bif nc v then cS l else false
def flat:Value→Bool
 | .agg cs=>cS cs.toList
 | .iface _ (.agg cs)=>cS cs.toList
 |v=>nc v
def gZ:List Value→Bool
 |[]=>true
 |v::l=>bif flat v then gZ l else false
def cw:Value→Bool
 | .tuple cs=>gZ cs.toList
 |v=>flat v
def cellsOf:Value→List Value
 | .agg cs=>cs.toList
 |v=>[v]
def bR{α:Type}:List α→Nat
 |[]=>0
 |_::l=>bR l+1
def fD(k:IntKind)(n:Int):Int:=
 match n with
 | .ofNat m=>bif Nat.blt m (match k with| .i8=>128| .i16=>32768| .i32=>2147483648| .i64=>9223372036854775808| .u8=>256| .u16=>65536| .u32=>4294967296| .u64=>18446744073709551616)then n else k.wrap n
 | .negSucc m=>bif Nat.blt m (match k with| .i8=>128| .i16=>32768| .i32=>2147483648| .i64=>9223372036854775808|_=>0)then n else k.wrap n
def iW:dP→Value→Value→Option Bool
 | .b, .bool a, .bool b=>some (a==b)
 | .i q, .int k a, .int k' b=>if k=q then if k'=q then some (a==b)else none else none
 | .s, .string a, .string b=>some (a.toList==b.toList)
 |_,_,_=>none
def bI:List dP→List Value→List Value→Option Bool
 |[],[],[]=>some true
 |l::ls,x::xs,y::ys=>match iW l x y with
  |some true=>bI ls xs ys
  |some false=>match bI ls xs ys with
   |some _=>some false
   |none=>none
  |none=>none
 |_,_,_=>none
def pI:Value→Bool
 | .agg _=>true
 |_=>false
def j4(ag:Bool)(ls:List dP)(k:Value):Bool:=
 match pI k==ag,bI ls (cellsOf k) (cellsOf k)with
 |true,some _=>true
 |_,_=>false
def qm(ag:Bool)(ls:List dP)(k k':Value):Option Bool:=
 match pI k'==ag with
 |true=>bI ls (cellsOf k) (cellsOf k')
 |false=>none
def gQ:NK→Value→Option Bool
 | .ptr, .pointer none=>some true
 | .ptr, .pointer (some _)=>some false
 | .sl, .slice none _ _=>some true
 | .sl, .slice (some _) _ _=>some false
 | .map, .map none=>some true
 | .map, .map (some _)=>some false
 | .func, .nilFunc=>some true
 | .func, .func _ _ _=>some false
 | .iface, .nilIface=>some true
 | .iface, .iface _ _=>some false
 |_,_=>none
def nW(k:NK)(x y:Value):Option Bool:=
 match gQ k x,gQ k y with
 |some true,some b=>some b
 |some false,some true=>some false
 |_,_=>none
def lJ(op:BinOp)(x y:Int):Option Value:=
 match op with
 | .eql=>some (.bool (x==y))
 | .neq=>some (.bool (x !=y))
 | .lss=>some (.bool (decide (x<y)))
 | .leq=>some (.bool (decide (x≤y)))
 | .gtr=>some (.bool (decide (x>y)))
 | .geq=>some (.bool (decide (x≥y)))
 |_=>none
def mN(op:BinOp)(k:IntKind)(x y:Int):Option Value:=
 let slow:Option Value:=
  let a:=BitVec.ofInt k.bits x
  let b:=BitVec.ofInt k.bits y
  match op with
  | .and=>some (.int k (k.wrap (a&&&b).toNat))
  | .or=>some (.int k (k.wrap (a|||b).toNat))
  | .xor=>some (.int k (k.wrap (a ^^^ b).toNat))
  | .andNot=>some (.int k (k.wrap (a&&& ~~~b).toNat))
  |_=>none
 match k,x,y with
 | .u64, .ofNat a, .ofNat b=>bif Nat.blt a 18446744073709551616&&Nat.blt b 18446744073709551616 then
  match op with
  | .and=>some (.int .u64 (.ofNat (Nat.land a b)))
  | .or=>some (.int .u64 (.ofNat (Nat.lor a b)))
  | .xor=>some (.int .u64 (.ofNat (Nat.xor a b)))
  | .andNot=>some (.int .u64 (.ofNat (Nat.xor a (Nat.land a b))))
  |_=>none
   else slow
 |_,_,_=>slow
def arith(op:BinOp)(k:IntKind)(x y:Int):Option Value:=
 match op with
 | .add=>some (.int k (fD k (x+y)))
 | .sub=>some (.int k (fD k (x-y)))
 | .mul=>some (.int k (fD k (x*y)))
 | .quo=>if y=0 then none else some (.int k (fD k (x.tdiv y)))
 | .rem=>if y=0 then none else some (.int k (x.tmod y))
 | .and| .or| .xor| .andNot=>mN op k x y
 |_=>lJ op x y
def mC(op:BinOp)(k:IntKind)(x y:Int):Option Value:=
 match y with
 | .negSucc _=>none
 | .ofNat n=>match op with
   | .shl=>match k,x with
     | .u64, .ofNat a=>some (.int .u64 (.ofNat (Nat.mod (Nat.shiftLeft a (Nat.min n 64)) 18446744073709551616)))
     |_,_=>some (.int k (k.wrap (x*2 ^ (min n k.bits))))
   | .shr=>match k,x with
     | .u64, .ofNat a=>some (.int .u64 (.ofNat (Nat.shiftRight a (Nat.min n 64))))
     |_,_=>some (.int k (x.fdiv (2 ^ (min n k.bits))))
   |_=>none
def zO(op:BinOp)(x y:ByteArray):Option Value:=
 match op with
 | .add=>bif Nat.blt (x.size+y.size) 9223372036854775808 then some (.string (x++y))else none
 | .eql=>some (.bool (x.toList==y.toList))
 | .neq=>some (.bool !(x.toList==y.toList))
 | .lss=>some (.bool (Op.bytesLess x.toList y.toList))
 | .leq=>some (.bool (Op.bytesLess x.toList y.toList||x.toList==y.toList))
 | .gtr=>some (.bool !(Op.bytesLess x.toList y.toList||x.toList==y.toList))
 | .geq=>some (.bool !(Op.bytesLess x.toList y.toList))
 |_=>none
def aq(op:BinOp)(x y:Value):Option Value:=
 match op,x,y with
 | .shl, .int k a, .int _ b=>mC .shl k a b
 | .shr, .int k a, .int _ b=>mC .shr k a b
 |op, .int k a, .int k' b=>if k=k' then arith op k a b else none
 |op, .string a, .string b=>zO op a b
 |_,_,_=>none
def qR(op:UnOp)(x:Value):Option Value:=
 match op,x with
 | .neg, .int k n=>some (.int k (fD k (0-n)))
 | .xor, .int .u64 (.ofNat n)=>bif Nat.blt n 18446744073709551616 then some (.int .u64 (.ofNat (18446744073709551615-n)))else none
 | .not, .bool b=>some (.bool !b)
 |_,_=>none
def ev(h:Heap)(e:Env):Operand→Option Value
 | .tmp t=>geT e t
 | .const v=>some v
 | .global g=>match h.get g with
   |some _=>some (.pointer (some ⟨g,0,none⟩))
   |none=>none
 | .func f=>some (.func (.func f) #[] #[])
def evs(h:Heap)(e:Env):List Operand→Option (List Value)
 |[]=>some []
 |x::xs=>match ev h e x with
  |some v=>match evs h e xs with
   |some vs=>some (v::vs)
   |none=>none
  |none=>none
def jL(h:Heap)(e:Env)(z:List Value):List (Nat×Nat×Operand)→Option (List Value)
 |[]=>some z
 |(off,size,x)::ps=>match ev h e x with
  |some v=>bif Nat.beq (bR (cellsOf v)) size&&Nat.ble (off+size) (bR z)then jL h e (cU z off (cellsOf v)) ps else none
  |none=>none
inductive cF
 |val (v:Value) (h:Heap)
 |call (fn:Fn) (args:List Value) (h:Heap)
 |jg (f:Value) (args:List Value)
 |panic (v:Value) (h:Heap)
 |recover
 deriving Inhabited
def eM:List Value→Bool
 |[]=>true
 | .agg _::_=>false
 | .tuple _::_=>false
 |_::l=>eM l
def nP(h:Heap)(n:Option Nat):Value→Option Value
 | .pointer (some ⟨b,o,none⟩)=>match h.get b with
   |some (.cells vs _ _)=>match n with
    |none=>cm vs o
    |some n=>let l:=bV n (bE o vs);bif Nat.beq (bR l) n then some (.agg l.toArray)else none
   |_=>none
 |_=>none
def pz(h:Heap)(base n:Nat)(v:Value):Value→Option Heap
 | .pointer (some ⟨b,o,none⟩)=>match h.get b with
   |some (.cells vs true sz)=>bif Nat.beq (bR (cellsOf v)) n&&Nat.ble (o+n) (bR vs)&&eM (cellsOf v)then some (h.wr base b (.cells (cU vs o (cellsOf v)) true sz))else none
   |_=>none
 |_=>none
def oe:Value→Option Nat
 | .int _ (.ofNat n)=>some n
 |_=>none
def bnd(h:Heap)(e:Env)(dflt:Nat):Option Operand→Option Nat
 |none=>some dflt
 |some x=>match ev h e x with
  |some v=>oe v
  |none=>none
def fQ(h:Heap)(e:Env)(size:Nat)(a:Option Addr)(len cap:Nat)(lo hi mx:Option Operand):Option (Value×Heap):=
 match bnd h e 0 lo,bnd h e len hi with
 |some l,some u=>
  match mx with
  |some _=>match bnd h e 0 mx with
   |some m=>bif Nat.ble l u&&Nat.ble u m&&Nat.ble m (bif Nat.beq cap UNK then len else cap)&&Nat.blt m UNK then
    some (.slice (bif Nat.beq m l then a else match a with|some ⟨b,o,none⟩=>some ⟨b,o+l*size,none⟩|a=>a) (u-l) (m-l),h)
    else none
   |none=>none
  |none=>
   bif Nat.beq cap UNK then
    match a with
    |some ⟨b,o,none⟩=>match h.get b with
     |some (.cells vs _ sz)=>
      bif Nat.beq sz size&&Nat.ble l u&&(Nat.ble u len||Nat.ble (o+u*size) (bR vs))then
       bif Nat.blt l len||Nat.blt l u then some (.slice (some ⟨b,o+l*size,none⟩) (u-l) UNK,h)
       else bif Nat.beq l 0 then some (.slice (some ⟨b,o,none⟩) 0 UNK,h)
       else some (.slice (some ⟨h.next,0,none⟩) 0 UNK,h.push (.cells [] false size))
      else none
     |_=>none
    |_=>none
   else bif Nat.ble l u&&Nat.ble u cap then
    some (.slice (bif Nat.beq cap l then a else match a with|some ⟨b,o,none⟩=>some ⟨b,o+l*size,none⟩|a=>a) (u-l) (cap-l),h)
    else none
 |_,_=>none
def dF(h:Heap)(size:Nat):Value→Option (List Value×Nat)
 | .slice none n _=>bif Nat.beq n 0 then some ([],0)else none
 | .slice (some ⟨b,o,none⟩) n _=>match h.get b with
   |some (.cells vs _ _)=>let l:=bV (n*size) (bE o vs);bif Nat.beq (bR l) (n*size)then some (l,n)else none
   |_=>none
 | .string s=>bif Nat.beq size 1 then some (s.data.toList.map fun b=> .int .u8 b.toNat,s.size)else none
 |_=>none
def iL(h:Heap)(base size bytes:Nat)(s:Value)(new:List Value)(n:Nat):Option (Value×Heap):=
 match s with
 | .slice a len cap=>
   bif Nat.beq n 0 then(bif Nat.ble len cap then some (s,h)else none)else
   bif Nat.ble ((2*(len+n)+768)*bytes) 281474976710656 then
    match a with
    |none=>bif Nat.beq len 0&&Nat.beq cap 0 then some (.slice (some ⟨h.next,0,none⟩) n UNK,h.push (.cells new true size))else none
    |some ⟨b,o,none⟩=>match h.get b with
     |some (.cells vs own sz)=>
      bif Nat.beq cap UNK then
       bif own&&Nat.beq sz size then
        bif Nat.ble (o+(len+n)*size) (bR vs)&&eM new then
         some (.slice (some ⟨b,o,none⟩) (len+n) UNK,h.wr base b (.cells (cU vs (o+len*size) new) true sz))
        else bif Nat.beq o 0&&Nat.beq (len*size) (bR vs)&&eM new then
         some (.slice (some ⟨h.next,0,none⟩) (len+n) UNK,(h.wr base b .dead).push (.cells (dQ vs new) true size))
        else none
       else none
      else bif Nat.ble (len+n) cap then
       bif own&&Nat.ble (o+(len+n)*size) (bR vs)&&eM new then
        some (.slice (some ⟨b,o,none⟩) (len+n) cap,h.wr base b (.cells (cU vs (o+len*size) new) true sz))
       else none
      else bif Nat.ble (o+len*size) (bR vs)then
       some (.slice (some ⟨h.next,0,none⟩) (len+n) UNK,h.push (.cells (dQ (bV (len*size) (bE o vs)) new) true size))
      else none
     |_=>none
    |_=>none
   else none
 |_=>none
def qG(ag:Bool)(ls:List dP)(k:Value):Nat→List (Value×Value)→Option (Option (Nat×Value))
 |_,[]=>some none
 |i,(k',v)::es=>match qm ag ls k k' with
  |some true=>some (some (i,v))
  |some false=>qG ag ls k (i+1) es
  |none=>none
def zX{α:Type}:List α→Nat→List α
 |[],_=>[]
 |_::l,0=>l
 |x::l,i+1=>x::zX l i
def mmA(mx:Bool)(x:Value):List Value→Option Value
 |[]=>some x
 |y::l=>match x,y with
  | .int k a, .int k' b=>if k=k' then mmA mx (.int k (if mx then(if b>a then b else a)else(if b<a then b else a))) l else none
  |_,_=>none
def bytesOf:List Value→Option (List UInt8)
 |[]=>some []
 | .int .u8 (.ofNat n)::l=>match bytesOf l with
   |some bs=>some (UInt8.ofNat n::bs)
   |none=>none
 |_=>none
def oV(h:Heap)(c:Cv)(x:Value):Option (Value×Heap):=
 match c,x with
 | .int k, .int _ n=>some (.int k (fD k n),h)
 | .same, .string s=>some (.string s,h)
 | .toStr, .slice a n c=>match dF h 1 (.slice a n c)with
   |some (l,_)=>match bytesOf l with
    |some bs=>some (.string ⟨bs.toArray⟩,h)
    |none=>none
   |none=>none
 | .toBytes, .string s=>some (.slice (some ⟨h.next,0,none⟩) s.size UNK,h.push (.cells (s.data.toList.map fun b=> .int .u8 b.toNat) true 1))
 |_,_=>none
def cB{α:Type}(x:Option Value)(k:Value→Option α):Option α:=
 match x with
 |some v=>k v
 |none=>none
def fq(x:Option (Value×Heap)):Option cF:=
 match x with
 |some (v,h)=>some (.val v h)
 |none=>none
def nr(f:Value)(args:List Value)(h:Heap):Option cF:=
 match f with
 | .func (.func g) first cap=>some (.call (.func g) (dQ first.toList (dQ args cap.toList)) h)
 | .func (.yield l) first cap=>match cap.toList with
   |[]=>some (.call (.yield l) (dQ first.toList args) h)
   |_::_=>none
 |_=>none
def aop(h:Heap)(base:Nat)(e:Env):AOp→Option cF
 | .mov x=>cB (ev h e x) fun v=>some (.val v h)
 | .pick c a b=>match ev h e c with
   |some (.bool true)=>cB (ev h e a) fun v=>some (.val v h)
   |some (.bool false)=>cB (ev h e b) fun v=>some (.val v h)
   |_=>none
 | .new z=>some (.val (.pointer (some ⟨h.next,0,none⟩)) (h.push (.cells z true 1)))
 | .box x=>cB (ev h e x) fun v=>some (.val (.pointer (some ⟨h.next,0,none⟩)) (h.push (.cells (cellsOf v) true 1)))
 | .build z ps=>match jL h e z ps with
   |some cs=>some (.val (.agg cs.toArray) h)
   |none=>none
 | .cT z n ps=>match jL h e (eN n z) ps with
   |some cs=>some (.val (.slice (some ⟨h.next,0,none⟩) n n) (h.push (.cells cs true (bR z))))
   |none=>none
 | .load n a=>cB (ev h e a) fun a=>cB (nP h n a) fun v=>some (.val v h)
 | .store n a v=>cB (ev h e a) fun a=>cB (ev h e v) fun v=>match pz h base n v a with
   |some h'=>some (.val (.tuple #[]) h')
   |none=>none
 | .bX x=>cB (ev h e x) fun v=>match v with
   | .pointer none| .nilIface| .nilFunc=>none
   | .func (.method _) _ _=>none
   |v=>some (.val v h)
 | .bin (.num op) x y=>cB (ev h e x) fun x=>cB (ev h e y) fun y=>cB (aq op x y) fun v=>some (.val v h)
 | .bin (.beq neq) x y=>match ev h e x,ev h e y with
   |some (.bool a),some (.bool b)=>some (.val (.bool (bif neq then !(a==b)else a==b)) h)
   |_,_=>none
 | .bin (.nil k neq) x y=>cB (ev h e x) fun x=>cB (ev h e y) fun y=>match nW k x y with
   |some b=>some (.val (.bool (bif neq then !b else b)) h)
   |none=>none
 | .bin (.agg neq ls) x y=>cB (ev h e x) fun x=>cB (ev h e y) fun y=>match x,y with
   | .agg xs, .agg ys=>match bI ls xs.toList ys.toList with
     |some b=>some (.val (.bool (bif neq then !b else b)) h)
     |none=>none
   |_,_=>none
 | .un op x=>cB (ev h e x) fun x=>cB (qR op x) fun v=>some (.val v h)
 | .conv c x=>cB (ev h e x) fun x=>fq (oV h c x)
 | .ir t x=>cB (ev h e x) fun v=>some (.val (.iface t v) h)
 | .dZ fn fs cs=>match evs h e fs,evs h e cs with
   |some fs,some cs=>some (.val (.func fn fs.toArray cs.toArray) h)
   |_,_=>none
 | .mkMap=>some (.val (.map (some h.next)) (h.push (.map [])))
 | .mkSlice z bytes l c=>match ev h e l,ev h e c with
   |some l,some c=>match oe l,oe c with
    |some l,some c=>bif Nat.ble l c&&Nat.ble (bytes*c) 281474976710656&&Nat.blt c UNK then
     some (.val (.slice (some ⟨h.next,0,none⟩) l c) (h.push (.cells (eN c z) true (bR z))))
     else none
    |_,_=>none
   |_,_=>none
 | .slice .str x lo hi none=>match ev h e x with
   |some (.string s)=>match bnd h e 0 lo,bnd h e s.size hi with
    |some l,some u=>bif Nat.ble l u&&Nat.ble u s.size then some (.val (.string (s.extract l u)) h)else none
    |_,_=>none
   |_=>none
 | .slice (.sl size) x lo hi mx=>match ev h e x with
   |some (.slice a len cap)=>fq (fQ h e size a len cap lo hi mx)
   |_=>none
 | .slice (.arr n size) x lo hi mx=>match ev h e x with
   |some (.pointer (some a))=>fq (fQ h e size (some a) n n lo hi mx)
   |_=>none
 | .slice .str _ _ _ (some _)=>none
 | .dg off x=>match ev h e x with
   |some (.pointer (some ⟨b,o,none⟩))=>some (.val (.pointer (some ⟨b,o+off,none⟩)) h)
   |_=>none
 | .field off n x=>match ev h e x with
   |some (.agg cs)=>match n with
    |none=>cB (cm cs.toList off) fun v=>some (.val v h)
    |some n=>let l:=bV n (bE off cs.toList);bif Nat.beq (bR l) n then some (.val (.agg l.toArray) h)else none
   |_=>none
 | .cD len size x i=>match ev h e x,ev h e i with
   |some (.pointer (some ⟨b,o,none⟩)),some (.int _ (.ofNat i))=>bif Nat.blt i len then some (.val (.pointer (some ⟨b,o+i*size,none⟩)) h)else none
   |_,_=>none
 | .aO size x i=>match ev h e x,ev h e i with
   |some (.slice (some ⟨b,o,none⟩) len _),some (.int _ (.ofNat i))=>bif Nat.blt i len then some (.val (.pointer (some ⟨b,o+i*size,none⟩)) h)else none
   |_,_=>none
 | .rM len size n x i=>match ev h e x,ev h e i with
   |some (.agg cs),some (.int _ (.ofNat i))=>bif Nat.blt i len then
    match n with
    |none=>cB (cm cs.toList (i*size)) fun v=>some (.val v h)
    |some n=>let l:=bV n (bE (i*size) cs.toList);bif Nat.beq (bR l) n then some (.val (.agg l.toArray) h)else none
    else none
   |_,_=>none
 | .iS x i=>match ev h e x,ev h e i with
   |some (.string s),some (.int _ (.ofNat i))=>match cm s.data.toList i with
    |some b=>some (.val (.int .u8 b.toNat) h)
    |none=>none
   |_,_=>none
 | .lookup ag ls z ok m k=>match ev h e m,ev h e k with
   |some (.map none),some k=>bif j4 ag ls k then some (.val (bif ok then .tuple #[z, .bool false]else z) h)else none
   |some (.map (some r)),some k=>match yp (h.get r)with
    |some es=>bif j4 ag ls k then match qG ag ls k 0 es with
     |some (some (_,v))=>some (.val (bif ok then .tuple #[v, .bool true]else v) h)
     |some none=>some (.val (bif ok then .tuple #[z, .bool false]else z) h)
     |none=>none else none
    |none=>none
   |_,_=>none
 | .nE ag ls m k v=>match ev h e m,ev h e k,ev h e v with
   |some (.map (some r)),some k,some v=>match h.get r with
    |some (.map es)=>bif j4 ag ls k then match qG ag ls k 0 es with
     |some (some (i,_))=>some (.val (.tuple #[]) (h.wr base r (.map (qc es i (k,v)))))
     |some none=>some (.val (.tuple #[]) (h.wr base r (.map (dQ es [(k,v)]))))
     |none=>none else none
    |_=>none
   |_,_,_=>none
 | .jH t ok z x=>match ev h e x with
   |some .nilIface=>bif ok then some (.val (.tuple #[z, .bool false]) h)else none
   |some (.iface t' v)=>if t'=t then some (.val (bif ok then .tuple #[v, .bool true]else v) h)
    else bif ok then some (.val (.tuple #[z, .bool false]) h)else none
   |_=>none
 | .extract t i=>match ev h e t with
   |some (.tuple vs)=>cB (cm vs.toList i) fun v=>some (.val v h)
   |_=>none
 | .call f args=>match ev h e f,evs h e args with
   |some f,some args=>nr f args h
   |_,_=>none
 | .len 0 x=>match ev h e x with
   |some (.string s)=>some (.val (.int .i64 s.size) h)
   |_=>none
 | .len 1 x=>match ev h e x with
   |some (.slice _ n _)=>some (.val (.int .i64 n) h)
   |_=>none
 | .len _ x=>match ev h e x with
   |some (.map none)=>some (.val (.int .i64 0) h)
   |some (.map (some r))=>match yp (h.get r)with
    |some es=>some (.val (.int .i64 (bR es)) h)
    |none=>none
   |_=>none
 | .jv n=>some (.val (.int .i64 n) h)
 | .cap x=>match ev h e x with
   |some (.slice _ _ c)=>bif Nat.beq c UNK then none else some (.val (.int .i64 c) h)
   |_=>none
 | .append size bytes s x=>match ev h e s,ev h e x with
   |some s,some x=>match dF h size x with
    |some (l,n)=>fq (iL h base size bytes s l n)
    |none=>none
   |_,_=>none
 | .jG z bytes s n=>match ev h e s,ev h e n with
   |some s,some n=>match oe n with
    |some n=>bif Nat.blt n 9223372036854775808&&Nat.ble (n*bytes) 281474976710656 then fq (iL h base (bR z) bytes s (eN n z) n)else none
    |none=>none
   |_,_=>none
 | .copy size d s=>match ev h e d,ev h e s with
   |some (.slice a dl _),some s=>match dF h size s with
    |some (l,n)=>
     let m:=Nat.min n dl
     match a with
     |none=>some (.val (.int .i64 m) h)
     |some ⟨b,o,none⟩=>match h.get b with
      |some (.cells vs true sz)=>bif Nat.ble (o+m*size) (bR vs)&&eM (bV (m*size) l)then
       some (.val (.int .i64 m) (h.wr base b (.cells (cU vs o (bV (m*size) l)) true sz)))
       else none
      |_=>none
     |_=>none
    |none=>none
   |_,_=>none
 | .clear z x=>match ev h e x with
   |some (.slice a n _)=>
    bif Nat.beq n 0 then some (.val (.tuple #[]) h)else
    match a with
    |none=>some (.val (.tuple #[]) h)
    |some ⟨b,o,none⟩=>match h.get b with
     |some (.cells vs true sz)=>bif Nat.ble (o+bR (eN n z)) (bR vs)&&eM (eN n z)then some (.val (.tuple #[]) (h.wr base b (.cells (cU vs o (eN n z)) true sz)))else none
     |_=>none
    |_=>none
   |_=>none
 | .dO mx args=>match evs h e args with
   |some (x::l)=>cB (mmA mx x l) fun v=>some (.val v h)
   |_=>none
 | .delete ag ls m k=>match ev h e m,ev h e k with
   |some (.map (some r)),some k=>match h.get r with
    |some (.map es)=>bif j4 ag ls k then match qG ag ls k 0 es with
     |some (some (i,_))=>some (.val (.tuple #[]) (h.wr base r (.map (zX es i))))
     |some none=>some (.val (.tuple #[]) (h.wr base r (.map es)))
     |none=>none else none
    |_=>none
   |some (.map none),some k=>bif j4 ag ls k then some (.val (.tuple #[]) h)else none
   |_,_=>none
 | .jg f args=>match ev h e f,evs h e args with
   |some (.func (.func g) first cap),some args=>some (.jg (.func (.func g) first cap) args)
   |_,_=>none
 | .recover=>some .recover
 | .rP x=>cB (ev h e x) fun v=>match v with
   | .iface _ _=>some (.panic v h)
   |_=>none
 | .range x=>match ev h e x with
   |some (.string s)=>some (.val (.pointer (some ⟨h.next,0,none⟩)) (h.push (.j0 s 0)))
   |_=>none
 | .next x true=>match ev h e x with
   |some (.pointer (some ⟨r,0,none⟩))=>match h.get r with
    |some (.j0 s pos)=>bif Nat.blt pos s.size then
     let d:=Utf8.decode s pos
     some (.val (.tuple #[.bool true, .int .i64 pos, .int .i32 d.1]) (h.wr base r (.j0 s (pos+d.2))))
     else some (.val (.tuple #[.bool false]) h)
    |_=>none
   |_=>none
 | .next _ false=>none
 | .lP _=>none
 | .entry _=>none
inductive Res
 |ret (v:Value)
 |panic (v:Value)
 deriving Inhabited
def ez:Nat→List Value→Env
 |_,[]=>[]
 |i,v::vs=>(i,v)::ez (i+1) vs
def cH(h:Heap)(e:Env):List (Nat×Option (Option Nat))→Option (List Value)
 |[]=>some []
 |(t,none)::rs=>match geT e t with
  |some v=>match cH h e rs with
   |some vs=>some (v::vs)
   |none=>none
  |none=>none
 |(t,some n)::rs=>match geT e t with
  |some a=>match nP h n a with
   |some v=>match cH h e rs with
    |some vs=>some (v::vs)
    |none=>none
   |none=>none
  |none=>none
def fP:List Value→Value
 |[v]=>v
 |vs=> .tuple vs.toArray
def aD(base:Nat)(l:List Nat):List Nat→List Nat
 |[]=>l
 |b::bs=>aD base (bif Nat.blt b base then(bif fu l b then l else b::l)else l) bs
def fN(h:Heap)(base:Nat):List Nat→Bool
 |[]=>true
 |b::bs=>bif Nat.blt b base then
   match h.get b with
   |some (.cells vs _ _)=>bif cS vs then fN h base bs else false
   |some (.map es)=>bif gZ (es.map (·.1))&&gZ (es.map (·.2))then fN h base bs else false
   |some .dead=>fN h base bs
   |some (.j0 _ _)=>fN h base bs
   |_=>false
  else fN h base bs
def nD{α:Type}:Nat→List α→List α:=bE
def gcA(h0 h:Heap)(v:Value):Heap:=
 bif cw v&&fN h h0.next h.log then {h with bM:=nD (h.next-h0.next) h.bM,next:=h0.next}else h
def iP(e:Env):List Nat→List Value→Option Env
 |[],[]=>some e
 |t::ts,v::vs=>iP ((t,v)::e) ts vs
 |_,_=>none
def bJ(e:Env):Option (Nat×Bool)→Option Bool
 |none=>some true
 |some (t,b)=>match geT e t with
  |some (.bool x)=>some (x==b)
  |some _=>some false
  |none=>none
def bO(e:Env)(d:Option Nat)(v:Value):Env:=
 match d with
 |some t=>(t,v)::e
 |none=>e
def lu:Value→Value→Bool
 | .bool a, .bool b=>a==b
 | .int k a, .int k' b=>k==k'&&a==b
 | .string a, .string b=>a.data.toList==b.data.toList
 | .pointer a, .pointer b=>a==b
 | .slice a l c, .slice b l' c'=>a==b&&l==l'&&c==c'
 | .map a, .map b=>a==b
 | .nilIface, .nilIface=>true
 | .nilFunc, .nilFunc=>true
 | .iface t (.int k a), .iface t' (.int k' b)=>t==t'&&k==k'&&a==b
 |_,_=>false
def j5:List Value→List Value→Bool
 |[],[]=>true
 |x::xs,y::ys=>bif lu x y then j5 xs ys else false
 |_,_=>false
def jK:Value→Value→Bool
 | .agg a, .agg b=>j5 a.toList b.toList
 | .tuple a, .tuple b=>j5 a.toList b.toList
 | .func (.func f) a' a, .func (.func g) b' b=>f==g&&(j5 a'.toList b'.toList&&j5 a.toList b.toList)
 |x,y=>lu x y
def K6:Option Operand→List Operand
 |some x=>[x]
 |none=>[]
def cI:AOp→List Operand
 | .mov x| .box x| .load _ x| .bX x| .un _ x| .conv _ x| .ir _ x| .dg _ x| .field _ _ x| .jH _ _ _ x| .extract x _| .len _ x| .cap x| .rP x| .range x| .next x _| .lP x| .entry x| .clear _ x=>[x]
 | .pick c a b=>[c,a,b]
 | .build _ ps| .cT _ _ ps=>ps.map (·.2.2)
 | .store _ a v=>[a,v]
 | .bin _ x y| .cD _ _ x y| .aO _ x y| .rM _ _ _ x y| .iS x y| .mkSlice _ _ x y| .lookup _ _ _ _ x y| .delete _ _ x y| .append _ _ x y| .jG _ _ x y| .copy _ x y=>[x,y]
 | .dZ _ fs cs=>dQ fs cs
 | .slice _ x lo hi mx=>x::dQ (K6 lo) (dQ (K6 hi) (K6 mx))
 | .nE _ _ m k v=>[m,k,v]
 | .call f as| .jg f as=>f::as
 | .dO _ as=>as
 | .new _| .mkMap| .jv _| .recover=>[]
def vf:List Operand→List Nat
 |[]=>[]
 | .tmp t::l=>t::vf l
 |_::l=>vf l
def cC(o:aZ):List Nat:=
 match o.guard with
 |some (t,_)=>t::vf (cI o.op)
 |none=>vf (cI o.op)
def cu:AOp→Bool
 | .mov _| .pick .. | .build .. | .load .. | .bX _| .bin .. | .un .. | .ir .. | .dZ .. | .dg .. | .field .. | .cD .. | .aO .. | .rM .. | .iS .. | .lookup .. | .jH .. | .extract .. | .len .. | .jv _| .cap _| .dO .. =>true
 | .conv .toBytes _=>false
 | .conv _ _=>true
 | .slice .. =>true
 |_=>false
def kN:List Operand→Bool
 |[]=>true
 | .global _::_=>false
 |_::l=>kN l
def dw:AOp→Bool
 | .new _| .mkMap=>true
 | .box x=>kN [x]
 | .mkSlice _ _ l c=>kN [l,c]
 | .cT z n ps=>kN (ps.map (·.2.2))
 |_=>false
def ja(o:AOp):Bool:=cu o||dw o
inductive Rk
 |skip|quiet|made (b:Nat)
structure Rec where
 i:Nat
 o:aZ
 e:Env
 v:Value
 k:Rk
def pL(h:Heap)(base:Nat)(r:Rec):Bool:=
 match r.k with
 | .quiet=>match aop h base r.e r.o.op with
   |some (.val v' h2)=>jK r.v v'&&Nat.beq h2.next h.next
   |_=>false
 |_=>true
def mj(h:Heap)(base:Nat):List Rec→Bool
 |[]=>true
 |r::rs=>bif pL h base r then mj h base rs else false
def DO(log:List Nat)(r:Rec):Bool:=
 match r.k with
 | .made b=> !fu log b
 |_=>true
def vM(bf:List Nat)(i:Nat):List Nat→Bool
 |[]=>true
 |j::js=>match cm bf j with
  |some m=>bif Nat.testBit m i then vM bf i js else false
  |none=>false
def bB(h:Heap)(base:Nat)(log:List Nat)(mask:Nat):List Rec→Option (List Rec)
 |[]=>some []
 |r::rs=>bif Nat.testBit mask r.i then bB h base log mask rs else
  bif pL h base r&&DO log r then match bB h base log mask rs with
   |some rs'=>some (r::rs')
   |none=>none
  else none
def nZ(h:Heap):Option Nat→Bool
 |none=>true
 |some l=>match h.get l with
  |some (.loop _ _ _ _ _ _)=>true
  |_=>false
def notReady:Option bN→Bool
 |some (.loop _ _ _ _ 0 .normal)=>false
 |_=>true
def gp:Option ah→Bool
 |some (.code _ _)=>false
 |_=>true
abbrev Dfs:=List (Value×List Value)
def Dk(e2:Env):Env→Bool
 |[]=>true
 |(t,v)::e=>match geT e2 t with
  |some v'=>bif jK v v' then Dk e2 e else false
  |none=>false
def xQ(e:Env):Env→Bool
 |[]=>true
 |(t,v)::e2=>bif flat v then xQ e e2 else match geT e t with
  |some v'=>bif jK v v' then xQ e e2 else false
  |none=>false
def tq:Env→Env→Bool
 |[],[]=>true
 |(t,v)::e,(t',v')::e'=>bif Nat.beq t t' then bif jK v v' then tq e e' else false else false
 |_,_=>false
def KK(nxt:Nat)(e eo:Env)(x:bA)(e2:Env)(r:Option (bA×Env)):Option (Option (bA×Env)):=
 match x with
 | .normal=>bif Dk e2 e then some r else none
 | .panic _=>none
 | .exit i=>bif Nat.beq i nxt then(bif Dk e2 e then some r else none)else
   bif xQ eo e2 then match r with
    |none=>some (some (.exit i,e2))
    |some (.exit j,e3)=>bif Nat.beq i j&&tq e2 e3 then some r else none
    |_=>none
   else none
 | .ret=>bif xQ eo e2 then match r with
  |none=>some (some (.ret,e2))
  |some (.ret,e3)=>bif tq e2 e3 then some r else none
  |_=>none
   else none
def nC(fo:Env→Heap→Option (bA×Env×Dfs×Heap))(fe:Env→Heap→Option (bA×Env×Dfs×Heap))(nxt pr:Nat)(k2:List Nat)(e eo:Env)(h:Heap):List (Value×Value)→Option (Option (bA×Env))
 |[]=>some none
 |(k,v)::es=>match fo ((pr, .tuple #[k,v])::e) h with
  |some (.normal,e1,[],h1)=>match fe (bG e1 k2) h1 with
   |some (x,e2,[],h2)=>match h2.log with
    |[]=>match nC fo fe nxt pr k2 e eo h es with
     |some r=>KK nxt e eo x e2 r
     |none=>none
    |_::_=>none
   |_=>none
  |_=>none
def CD(out:Nat)(e0:Env)(h:Heap):Option (Option (bA×Env))→Option (bA×Env×Dfs×Heap)
 |some none=>some (.normal,e0,[],h)
 |some (some (.exit i,e'))=>bif Nat.beq i out then some (.normal,e',[],h)else some (.exit i,e',[],h)
 |some (some (.ret,e'))=>some (.ret,e',[],h)
 |_=>none
def roM(h:Heap)(m:Nat)(es:List (Value×Value)):Heap:={h with bM:=gW h.bM m (.sI es),log:=[]}
def itE(it:Nat)(h:Heap)(e:Env):Env:=(it, .pointer (some ⟨h.next,0,none⟩))::e
mutual
def bZ(T:Nat→Option ah):Nat→Nat→Option Nat→bn→Env→Dfs→Heap→Option (bA×Env×Dfs×Heap)
 |0,_,_,_,_,_,_=>none
 |n+1,base,rnd,c,e,ds,h=>
  match c with
  | .skip=>some (.normal,e,ds,h)
  | .region ops keep=>match gh T n base rnd ops e ds h with
    |some (.normal,e',ds',h')=>some (.normal,bG e' keep,ds',h')
    |r=>r
  | .draw ops order before keep=>match eH T n base ops order before [] e h with
    |some (.normal,e',h')=>some (.normal,bG e' keep,ds,h')
    |some (x,e',h')=>some (x,e',ds,h')
    |none=>none
  | .seq a b=>match bZ T n base rnd a e ds h with
    |some (.normal,e',ds',h')=>bZ T n base rnd b e' ds' h'
    |r=>r
  | .cond c a b=>match ev h e c with
    |some (.bool true)=>bZ T n base rnd a e ds h
    |some (.bool false)=>bZ T n base rnd b e ds h
    |_=>none
  | .block id b=>match bZ T n base rnd b e ds h with
    |some (.exit i,e',ds',h')=>bif Nat.beq i id then some (.normal,e',ds',h')else some (.exit i,e',ds',h')
    |r=>r
  | .loop b=>match bZ T n base rnd b e ds h with
    |some (.normal,e',ds',h')=>bZ T n base rnd (.loop b) e' ds' h'
    |r=>r
  | .scope b=>bZ T n base rnd b e ds h
  | .rangeFunc f ps asg body=>bif nZ h rnd then match ev h e f with
    |some (.func (.func g) first cap)=>bif gp (T g)then none else
     match iE T n g (dQ first.toList (dQ [.func (.yield h.next) #[] #[]] cap.toList)) {h.push (.loop e ps asg body 0 .normal)with log:=[]}with
     |some (.ret _,h2)=>match h2.get h.next with
      |some (.loop _ _ _ _ st gV)=>bif Nat.beq st 1 then none else
       some (gV,e,ds,Heap.wr {h2 with log:=aD base h.log h2.log} base h.next .dead)
      |_=>none
     |some (.panic v,h2)=>some (.panic v,e,ds,{h2 with log:=aD base h.log h2.log})
     |none=>none
    |_=>none
    else none
  | .rangeMap ops it x keep out nxt pr ops2 k2 body=>match gh T n base rnd ops e ds h with
    |some (.normal,e0,ds0,h0)=>match ds0 with
     |_::_=>none
     |[]=>match ev h0 e0 x with
      |some (.map none)=>some (.normal,bG e0 keep,[],h0)
      |some (.map (some m))=>match h0.get m with
       |some (.map es)=>CD out (bG e0 keep) h0 (nC (fun e h=>gh T n (h0.next+1) rnd ops2 e [] h) (fun e h=>bZ T n (h0.next+1) rnd body e [] h) nxt pr k2 (itE it h0 (bG e0 keep)) (bG e0 keep) ((roM h0 m es).push .dead) es)
       |_=>none
      |_=>none
    |r=>r
  | .exit id=>some (.exit id,e,ds,h)
  | .ret=>some (.ret,e,ds,h)
def gh(T:Nat→Option ah):Nat→Nat→Option Nat→List aZ→Env→Dfs→Heap→Option (bA×Env×Dfs×Heap)
 |0,_,_,_,_,_,_=>none
 |n+1,base,rnd,ops,e,ds,h=>
  match ops with
  |[]=>some (.normal,e,ds,h)
  |o::os=>match bJ e o.guard with
   |some false=>gh T n base rnd os (bO e o.dst (.tuple #[])) ds h
   |some true=>match aop h base e o.op with
    |some (.val v h')=>gh T n base rnd os (bO e o.dst v) ds h'
    |some (.call fn args h')=>match gU T n fn args {h' with log:=[]}with
     |some (.ret v,h2)=>gh T n base rnd os (bO e o.dst v) ds {h2 with log:=aD base h'.log h2.log}
     |some (.panic v,h2)=>some (.panic v,e,ds,{h2 with log:=aD base h'.log h2.log})
     |none=>none
    |some (.jg f args)=>match rnd with|some _=>none|none=>gh T n base rnd os (bO e o.dst (.tuple #[])) ((f,args)::ds) h
    |some (.panic v h')=>some (.panic v,e,ds,h')
    |_=>none
   |none=>none
def eH(T:Nat→Option ah):Nat→Nat→List aZ→List Nat→List Nat→List Rec→Env→Heap→Option (bA×Env×Heap)
 |0,_,_,_,_,_,_,_=>none
 |n+1,base,ops,order,before,rs,e,h=>
  match order with
  |[]=>some (.normal,e,h)
  |i::is=>match cm ops i,cm before i with
   |some o,some mask=>
    match bJ (bG e (cC o)) o.guard with
    |some false=>eH T n base ops is before (⟨i,o,bG e (cC o), .tuple #[], .skip⟩::rs) (bO e o.dst (.tuple #[])) h
    |some true=>
     bif ja o.op then
      match aop h base (bG e (cC o)) o.op with
      |some (.val v h')=>
       bif dw o.op then
        bif mj h' base rs then eH T n base ops is before (⟨i,o,bG e (cC o),v, .made h.next⟩::rs) (bO e o.dst v) h' else none
       else bif Nat.beq h'.next h.next then eH T n base ops is before (⟨i,o,bG e (cC o),v, .quiet⟩::rs) (bO e o.dst v) h
       else bif vM before i is then
        match aop {h with log:=[]} h.next (bG e (cC o)) o.op with
        |some (.val v h2)=>match bB {h2 with log:=aD base h.log h2.log} base h2.log mask rs with
         |some rs'=>eH T n base ops is before rs' (bO e o.dst v) {h2 with log:=aD base h.log h2.log}
         |none=>none
        |_=>none
       else none
      |_=>none
     else
      match aop {h with log:=[]} h.next (bG e (cC o)) o.op with
      |some (.val v h2)=>match bB {h2 with log:=aD base h.log h2.log} base h2.log mask rs with
       |some rs'=>eH T n base ops is before rs' (bO e o.dst v) {h2 with log:=aD base h.log h2.log}
       |none=>none
      |some (.call fn args _)=>match gU T n fn args {h with log:=[]}with
       |some (.ret v,h2)=>match bB {h2 with log:=aD base h.log h2.log} base h2.log mask rs with
        |some rs'=>eH T n base ops is before rs' (bO e o.dst v) {h2 with log:=aD base h.log h2.log}
        |none=>none
       |some (.panic v,h2)=>some (.panic v,[],{h2 with log:=aD base h.log h2.log})
       |none=>none
      |_=>none
    |none=>none
   |_,_=>none
def gU(T:Nat→Option ah):Nat→Fn→List Value→Heap→Option (Res×Heap)
 |0,_,_,_=>none
 |n+1,fn,args,h=>
  match fn with
  | .func f=>iE T n f args h
  | .yield l=>match h.get l with
    |some (.loop e ps asg body 0 .normal)=>match iP e ps args with
     |some e1=>match bZ T n h.next (some l) asg e1 [] h with
      |some (.normal,e2,ds2,h2)=>bif notReady (h2.get l)then none else match bZ T n h.next (some l) body e2 ds2 {h2 with bM:=gW h2.bM l (.loop e ps asg body 1 .normal)}with
       |some (.normal,_,_,h3)=>match h3.get l with
        |some (.loop _ _ _ _ 1 _)=>some (.ret (.bool true),gcA h {h3 with bM:=gW h3.bM l (.loop e ps asg body 0 .normal)} (.bool true))
        |_=>none
       |some (.exit i,_,_,h3)=>match h3.get l with
        |some (.loop _ _ _ _ 1 _)=>some (.ret (.bool false),h3.wr h.next l (.loop e ps asg body 2 (.exit i)))
        |_=>none
       |some (.ret,_,_,h3)=>match h3.get l with
        |some (.loop _ _ _ _ 1 _)=>some (.ret (.bool false),h3.wr h.next l (.loop e ps asg body 2 .ret))
        |_=>none
       |_=>none
      |_=>none
     |none=>none
    |_=>none
  |_=>none
def iE(T:Nat→Option ah):Nat→Nat→List Value→Heap→Option (Res×Heap)
 |0,_,_,_=>none
 |n+1,f,args,h=>
  match T f with
  |none=>none
  |some (.jV p)=>match p args h with
   |some (v,h')=>some (.ret v,h')
   |none=>none
  |some (.code code results)=>match bZ T n h.next none code (ez 0 args) [] h with
   |some (.panic v,e,ds,h1)=>nk T n results ds (some v) e h h1
   |some (.exit _,_,_,_)=>none
   |some (_,e,ds,h1)=>nk T n results ds none e h h1
   |none=>none
def nk(T:Nat→Option ah):Nat→List (Nat×Option (Option Nat))→Dfs→Option Value→Env→Heap→Heap→Option (Res×Heap)
 |0,_,_,_,_,_,_=>none
 |n+1,results,ds,pan,e,h,h1=>
  match ds with
  |[]=>match pan with
   |some v=>some (.panic v,h1)
   |none=>match cH h1 e results with
    |some vs=>some (.ret (fP vs),gcA h h1 (fP vs))
    |none=>none
  |(.func (.func g) first cap,args)::ds=>match jY T n g (dQ first.toList (dQ args cap.toList)) pan {h1 with log:=[]}with
   |some (pan',h2)=>nk T n results ds pan' e h {h2 with log:=aD h.next h1.log h2.log}
   |none=>none
  |_=>none
def jY(T:Nat→Option ah):Nat→Nat→List Value→Option Value→Heap→Option (Option Value×Heap)
 |0,_,_,_,_=>none
 |n+1,g,args,pan,h=>
  match T g with
  |some (.code code [])=>match iA T n h.next code (ez 0 args) pan h with
   |some (.normal,_,pan',h')=>some (pan',h')
   |some (.ret,_,pan',h')=>some (pan',h')
   |_=>none
  |_=>none
def iA(T:Nat→Option ah):Nat→Nat→bn→Env→Option Value→Heap→Option (bA×Env×Option Value×Heap)
 |0,_,_,_,_,_=>none
 |n+1,base,c,e,pan,h=>
  match c with
  | .skip=>some (.normal,e,pan,h)
  | .region ops keep=>match jh T n base ops e pan h with
    |some (.normal,e',pan',h')=>some (.normal,bG e' keep,pan',h')
    |r=>r
  | .seq a b=>match iA T n base a e pan h with
    |some (.normal,e',pan',h')=>iA T n base b e' pan' h'
    |r=>r
  | .cond c a b=>match ev h e c with
    |some (.bool true)=>iA T n base a e pan h
    |some (.bool false)=>iA T n base b e pan h
    |_=>none
  | .ret=>some (.ret,e,pan,h)
  |_=>none
def jh(T:Nat→Option ah):Nat→Nat→List aZ→Env→Option Value→Heap→Option (bA×Env×Option Value×Heap)
 |0,_,_,_,_,_=>none
 |n+1,base,ops,e,pan,h=>
  match ops with
  |[]=>some (.normal,e,pan,h)
  |o::os=>match bJ e o.guard with
   |some false=>jh T n base os (bO e o.dst (.tuple #[])) pan h
   |some true=>match aop h base e o.op with
    |some (.val v h')=>jh T n base os (bO e o.dst v) pan h'
    |some .recover=>match pan with
     |some v=>jh T n base os (bO e o.dst v) none h
     |none=>jh T n base os (bO e o.dst .nilIface) none h
    |_=>none
   |none=>none
end
def aG(P:Program):Operand→Bool
 | .const v=>cw v
 | .global g=>Nat.blt g P.globals.size
 |_=>true
def dM(P:Program)(t:TypeId):Option Nat:=(P.info? t).map (·.size)
def jq(P:Program)(t:TypeId):Option Nat:=(P.info? t).map (·.bytes)
def gK(P:Program)(t:TypeId):Option Value:=(P.info? t).bind (·.zero)
def tC(P:Program)(t:TypeId):Option (Option Nat):=
 match P.underlying t with
 |some (.struct _)|some (.array _ _)=>(dM P t).map some
 |some _=>some none
 |none=>none
def goL(P:Program)(lf:TypeId→Option (List dP)):Nat→List Field→Option (List dP)
 |_,[]=>some []
 |off,f::fs=>if f.name= "_" ∨f.offset≠off then none else match lf f.type,dM P f.type with
  |some l,some s=>if l.length=s then match goL P lf (off+s) fs with
   |some m=>some (dQ l m)
   |none=>none
   else none
  |_,_=>none
def dG(P:Program):Nat→TypeId→Option (List dP)
 |0,_=>none
 |d+1,t=>match P.underlying t with
  |some .bool=>some [.b]
  |some (.int k)=>some [.i k]
  |some .string=>some [.s]
  |some (.array n e)=>match dG P d e,dM P e with
   |some l,some s=>if l.length=s then some (eN n l)else none
   |_,_=>none
  |some (.struct fs)=>if P.stoodInHeld t then none else goL P (dG P d) 0 fs.toList
  |_=>none
def eU(P:Program)(t:TypeId):Bool:=
 match P.underlying t with
 |some (.struct _)|some (.array _ _)=>true
 |_=>false
def mg:Operand→Bool
 | .const _=>true
 |_=>false
def uM:BinOp→Option Bool
 | .eql=>some false
 | .neq=>some true
 |_=>none
def nQ(place:Nat→Option (Nat×Nat)):List (Nat×Operand)→Option (List (Nat×Nat×Operand))
 |[]=>some []
 |(i,x)::ps=>match place i,nQ place ps with
  |some (o,s),some l=>some ((o,s,x)::l)
  |_,_=>none
def fT(P:Program)(o:Op):Option AOp:=
 if o.operands.toList.all (aG P)then
 match o with
 | .move x| .assign x=>some (.mov x)
 | .pick c a b=>some (.pick c a b)
 | .alloc t=>match gK P t with
   |some z=>if cS (cellsOf z)then some (.new (cellsOf z))else none
   |none=>none
 | .box _ x=>some (.box x)
 | .build t ps=>match gK P t,P.underlying t with
   |some z,some (.struct fs)=>if cS (cellsOf z)∧fs.toList.all (fun f=>(dM P f.type).isSome)then(nQ (fun i=>(fs[i]?).map fun f=>(f.offset,P.cellsOf f.type)) ps.toList).map (.build (cellsOf z))else none
   |some z,some (.array _ e)=>match dM P e with
    |some s=>if cS (cellsOf z)then(nQ (fun i=>some (i*s,s)) ps.toList).map (.build (cellsOf z))else none
    |none=>none
   |_,_=>none
 | .buildSlice t n ps=>match P.underlying t with
   |some (.slice e)=>match dM P e,gK P e with
    |some s,some z=>if n*s≤2 ^ 24∧bR (cellsOf z)=s∧s≠0∧cS (cellsOf z)then(nQ (fun i=>some (i*s,s)) ps.toList).map (.cT (cellsOf z) n)else none
    |_,_=>none
   |_=>none
 | .load t a=>(tC P t).map fun n=> .load n a
 | .store t a v=>(dM P t).map fun n=> .store n a v
 | .nilCheck x=>some (.bX x)
 | .binOp op t x y _=>
   match P.underlying t with
   |some (.struct _)|some (.array _ _)=>match op,dG P 100 t with
    | .eql,some ls=>if P.eqGuardType P.depth t then none else some (.bin (.agg false ls) x y)
    | .neq,some ls=>if P.eqGuardType P.depth t then none else some (.bin (.agg true ls) x y)
    |_,_=>none
   |some (.interface _)=>if mg x||mg y then(uM op).map fun n=> .bin (.nil .iface n) x y else none
   |some (.pointer _)=>(uM op).map fun n=> .bin (.nil .ptr n) x y
   |some (.slice _)=>(uM op).map fun n=> .bin (.nil .sl n) x y
   |some (.map _ _)=>(uM op).map fun n=> .bin (.nil .map n) x y
   |some (.func _ _ _)=>(uM op).map fun n=> .bin (.nil .func n) x y
   |some .bool=>(uM op).map fun n=> .bin (.beq n) x y
   |some (.int _)=>some (.bin (.num op) x y)
   |some .string=>some (.bin (.num op) x y)
   |_=>none
 | .unOp op _ x=>some (.un op x)
 | .convert s d x=>match P.underlying s,P.underlying d with
   |some (.int _),some (.int k)=>some (.conv (.int k) x)
   |some .string,some .string=>some (.conv .same x)
   |some (.slice e),some .string=>match P.underlying e with
    |some (.int .u8)=>some (.conv .toStr x)
    |_=>none
   |some .string,some (.slice e)=>match P.underlying e with
    |some (.int .u8)=>some (.conv .toBytes x)
    |_=>none
   |_,_=>none
 | .makeInterface t x=>match P.underlying t with
   |some (.interface _)=>none
   |some _=>some (.ir t x)
   |none=>none
 | .makeFunc (.func f) fs cs=>some (.dZ (.func f) fs.toList cs.toList)
 | .makeMap _ none=>some .mkMap
 | .makeMap t (some (.const (.int _ _)))=>match P.underlying t with
   |some (.map _ _)=>some .mkMap
   |_=>none
 | .makeSlice t l c=>match P.underlying t with
   |some (.slice e)=>match dM P e,gK P e,jq P e with
    |some s,some z,some b=>if bR (cellsOf z)=s∧s≠0∧cS (cellsOf z)then some (.mkSlice (cellsOf z) b l c)else none
    |_,_,_=>none
   |_=>none
 | .slice t x lo hi mx=>if mx.isSome&&hi.isNone then none else match P.underlying t with
   |some .string=>match mx with
    |none=>some (.slice .str x lo hi none)
    |some _=>none
   |some (.slice e)=>(dM P e).map fun s=> .slice (.sl s) x lo hi mx
   |some (.array n e)=>if n<UNK then(dM P e).map fun s=> .slice (.arr n s) x lo hi mx else none
   |some (.pointer a)=>match P.underlying a with
    |some (.array n e)=>if n<UNK then(dM P e).map fun s=> .slice (.arr n s) x lo hi mx else none
    |_=>none
   |_=>none
 | .fieldAddr s x f=>match P.underlying s with
   |some (.struct fs)=>match fs[f]? with
    |some f=>match dM P f.type with
     |some (_+1)=>some (.dg f.offset x)
     |_=>none
    |none=>none
   |_=>none
 | .field s x f=>match P.underlying s with
   |some (.struct fs)=>match fs[f]? with
    |some f=>(tC P f.type).map fun n=> .field f.offset n x
    |none=>none
   |_=>none
 | .indexAddr t x i=>match P.underlying t with
   |some (.array n e)=>(dM P e).map fun s=> .cD n s x i
   |some (.slice e)=>(dM P e).map fun s=> .aO s x i
   |_=>none
 | .index t x i=>match P.underlying t with
   |some (.array n e)=>match dM P e,tC P e with
    |some s,some a=>some (.rM n s a x i)
    |_,_=>none
   |some .string=>some (.iS x i)
   |_=>none
 | .lookup t m k ok=>match P.underlying t with
   |some (.map kt e)=>match dG P 100 kt,gK P e with
    |some ls,some z=>if flat z then some (.lookup (eU P kt) ls z ok m k)else none
    |_,_=>none
   |_=>none
 | .mapUpdate t m k v=>match P.underlying t with
   |some (.map kt _)=>match dG P 100 kt with
    |some ls=>some (.nE (eU P kt) ls m k v)
    |none=>none
   |_=>none
 | .typeAssert x _ a ok=>match P.underlying a with
   |some (.interface _)=>none
   |some _=>match gK P a with
    |some z=>if flat z then some (.jH a ok z x)else none
    |none=>none
   |none=>none
 | .extract t i=>some (.extract t i)
 | .panic x=>some (.rP x)
 | .range t x=>match P.underlying t with
   |some .string=>some (.range x)
   |some (.map _ _)=>some (.lP x)
   |_=>none
 | .next x s=>some (.next x s)
 | .entry x=>some (.entry x)
 | .call c=>match c.callee with
   | .value f=>some (.call f c.args.toList)
   | .invoke _ _=>none
   | .builtin b=>match b,c.argTypes.toList,c.args.toList with
     | .len,[t],[x]=>match P.underlying t with
       |some .string=>some (.len 0 x)
       |some (.slice _)=>some (.len 1 x)
       |some (.map _ _)=>some (.len 2 x)
       |some (.array n _)=>some (.jv n)
       |some (.pointer a)=>match P.underlying a with
        |some (.array n _)=>some (.jv n)
        |_=>none
       |_=>none
     | .cap,[t],[x]=>match P.underlying t with
       |some (.slice _)=>some (.cap x)
       |_=>none
     | .append,[st,xt],[s,x]=>match P.underlying st,P.underlying xt with
       |some (.slice e),some (.int _)=>match gK P e,jq P e,dM P e with
        |some z,some b,some n=>if bR (cellsOf z)=n∧n≠0∧b≠0∧cS (cellsOf z)then some (.jG (cellsOf z) b s x)else none
        |_,_,_=>none
       |some (.slice e),some _=>match dM P e,jq P e,gK P e with
        |some n,some b,some z=>if bR (cellsOf z)=n∧n≠0∧b≠0∧cS (cellsOf z)then some (.append n b s x)else none
        |_,_,_=>none
       |_,_=>none
     | .copy,[dt,_],[d,s]=>match P.underlying dt with
       |some (.slice e)=>(dM P e).map fun n=> .copy n d s
       |_=>none
     | .max,_,args=>if 2≤c.args.size then some (.dO true args)else none
     | .min,_,args=>if 2≤c.args.size then some (.dO false args)else none
     | .delete,[mt,_],[m,k]=>match P.underlying mt with
       |some (.map kt _)=>match dG P 100 kt with
        |some ls=>some (.delete (eU P kt) ls m k)
        |none=>none
       |_=>none
     | .clear,[t],[x]=>match P.underlying t with
       |some (.slice e)=>match gK P e with
        |some z=>if cS (cellsOf z)then some (.clear (cellsOf z) x)else none
        |none=>none
       |_=>none
     | .recover,_,_=>some .recover
     |_,_,_=>none
 | .defer c=>match c.callee with
   | .value f=>some (.jg f c.args.toList)
   |_=>none
 |_=>none
 else none
def j6(nt:Nat):Option Nat→Bool
 |none=>true
 |some t=>Nat.blt t nt
def bS(P:Program)(nt:Nat)(ops:Array Oper):List Oper→Option (List aZ)
 |[]=>some []
 |o::os=>if j6 nt o.dst then match fT P o.op,bS P nt ops os with
  |some a,some as=>match o.guard with
   |none=>some (⟨o.dst,a,none⟩::as)
   |some (j,b)=>match(ops[j]?).bind (·.dst)with
    |some t=>some (⟨o.dst,a,some (t,b)⟩::as)
    |none=>none
  |_,_=>none else none
def Aw(ops:List Oper)(done:List Nat):Nat→List Oper→List Nat
 |_,[]=>[]
 |i,o::os=>
  if !fu done i&&(o.after.toList.all fun e=> !Region.binds .any e||fu done e.on)then i::Aw ops done (i+1) os else Aw ops done (i+1) os
def eager(ops:List Oper)(q:List Bool):Nat→List Nat→List Nat
 |0,done=>done.reverse
 |n+1,done=>
  let r:=Aw ops done 0 ops
  match r.find? (fun i=>(cm q i).getD false)with
  |some i=>eager ops q n (i::done)
  |none=>match r with
   |i::_=>eager ops q n (i::done)
   |[]=>done.reverse
def BC(o:Oper):List Nat:=(o.after.toList.filter (Region.binds .any)).map (·.on)
def iQ(ops:List Oper)(i:Nat):List Nat:=
 match cm ops i with
 |some o=>BC o
 |none=>[]
def topoOk(as:List aZ)(ops:List Oper)(done:List Nat):List Nat→Bool
 |[]=>true
 |i::is=>(iQ ops i).all (fu done)&& !fu done i&&
  (match cm as i with|some a=>ja a.op||is.all fun j=>(iQ ops j).any (fu (i::is))|none=>false)&&topoOk as ops (i::done) is
def Iy(as:List aZ)(ops:List Oper)(bf:List Nat)(n:Nat):Bool:=
 (List.range n).all fun j=>match cm as j with
   |some a=>(cC a).all fun t=>(List.range n).all fun p=>match cm as p with
    |some b=> !(b.dst==some t)||fu (iQ ops j) p||(match cm bf p with|some m=>Nat.testBit m j|none=>false)
    |none=>false
   |none=>false
def MV(as:List aZ)(n:Nat):Bool:=
 (List.range n).all fun j=>(List.range n).all fun p=>match cm as j,cm as p with
   |some a,some b=>Nat.beq j p|| !(a.dst==b.dst)||a.dst.isNone
   |_,_=>false
def J8(ops:List Oper)(bf:List Nat)(n:Nat):Bool:=
 (List.range n).all fun i=>(List.range n).all fun p=>match cm bf i with
   |some m=> !Nat.testBit m p||(iQ ops i).any fun q=>Nat.beq p q||(match cm bf q with|some mq=>Nat.testBit mq p|none=>false)
   |none=>false
def tI(as:List aZ)(ops:List Oper)(ord bf:List Nat):Bool:=
 Nat.beq ord.length ops.length&&ord.all (Nat.blt · ops.length)&&(List.range ops.length).all (fu ord)&&topoOk as ops [] ord&&Iy as ops bf ops.length&&MV as ops.length&&J8 ops bf ops.length&&
  as.all fun a=>match a.op with| .jg _ _=>false|_=>true
def sW{α:Type}:List α→Option (List α×α)
 |[]=>none
 |[x]=>some ([],x)
 |x::l=>match sW l with
  |some (l',y)=>some (x::l',y)
  |none=>none
def Kl(ops:List aZ)(keep:List Nat)(out nx it1 mo nx1 mo1 out1 nxt pr it2:Nat)(ops2:List aZ)(k2:List Nat)(body:bn):Option bn:=
 match sW ops with
 |some (ops0,⟨some it, .lP x,none⟩)=>
  if it1=it∧it2=it∧nx1=nx∧mo1=mo∧out1=out∧nx≠mo∧it≠nx∧it≠mo then
   some (.rangeMap ops0 it x (keep.filter fun t=> !(Nat.beq t it||Nat.beq t nx||Nat.beq t mo)) out nxt pr ops2 k2 body)
  else none
 |_=>none
def fuse? :bn→bn→Option bn
 | .region ops keep, .block out (.loop (.seq (.region [⟨some nx, .next (.tmp it1) false,none⟩,⟨some mo, .extract (.tmp nx1) 0,none⟩] _) (.seq (.cond (.tmp mo1) .skip (.exit out1)) (.block nxt (.seq (.region (⟨some pr, .entry (.tmp it2),none⟩::ops2) k2) body)))))=>
   Kl ops keep out nx it1 mo nx1 mo1 out1 nxt pr it2 ops2 k2 body
 |_,_=>none
def Nf(a b:bn):bn:=
 match fuse? a b with
 |some c=>c
 |none=> .seq a b
def comp(P:Program)(nt:Nat):Code→List (List Nat)→Option (bn×List (List Nat))
 | .skip,ks=>some (.skip,ks)
 | .region _ ops draw,ks=>match ks,bS P nt ops ops.toList with
   |k::ks,some as=>
    if draw then
     let ord:=eager ops.toList (as.map fun a=>ja a.op) ops.size []
     let bf:=(Region.before ops).toList
     if tI as ops.toList ord bf then some (.draw as ord bf k,ks)else none
    else some (.region as k,ks)
   |_,_=>none
 | .seq a b,ks=>match comp P nt a ks with
   |some (a',ks)=>match comp P nt b ks with
    |some (b',ks)=>some (Nf a' b',ks)
    |none=>none
   |none=>none
 | .cond c a b,ks=>if aG P c then match comp P nt a ks with
   |some (a',ks)=>match comp P nt b ks with
    |some (b',ks)=>some (.cond c a' b',ks)
    |none=>none
   |none=>none else none
 | .block id b,ks=>match comp P nt b ks with
   |some (b',ks)=>some (.block id b',ks)
   |none=>none
 | .loop b,ks=>match comp P nt b ks with
   |some (b',ks)=>some (.loop b',ks)
   |none=>none
 | .rangeFunc f ps a b,ks=>if aG P f&&ps.toList.all (Nat.blt · nt)then match comp P nt a ks with
   |some (a',ks)=>match comp P nt b ks with
    |some (b',ks)=>some (.rangeFunc f ps.toList a' b',ks)
    |none=>none
   |none=>none else none
 | .scope b,ks=>match comp P nt b ks with
   |some (b',ks)=>some (.scope b',ks)
   |none=>none
 | .label _,ks=>some (.skip,ks)
 | .exit id,ks=>some (.exit id,ks)
 | .ret,ks=>some (.ret,ks)
 |_,_=>none
def yy(P:Program):List ResultVar→Option (List (Nat×Option (Option Nat)))
 |[]=>some []
 | .tmp t::rs=>(yy P rs).map ((t,none):: ·)
 | .cell a t::rs=>match tC P t,yy P rs with
   |some n,some l=>some ((a,some n)::l)
   |_,_=>none
def aK(P:Program)(f:Func)(ks:List (List Nat)):Option ah:=
 match f.body with
 |some c=>if f.name= "runtime.NumGoroutine" then none else match comp P f.ntmps c ks,yy P f.results.toList with
  |some (ac,[]),some rs=>some (.code ac rs)
  |_,_=>none
 |none=>none
inductive Tr
 |nil|node (l:Tr) (k:Nat) (v:ah) (r:Tr)
def Tr.get:Tr→Nat→Option ah
 | .nil,_=>none
 | .node l k v r,n=>bif Nat.beq n k then some v else bif Nat.blt n k then l.get n else r.get n
def cL:bn→bn
 | .seq a _=>a
 |c=>c
def cR:bn→bn
 | .seq _ b=>b
 |c=>c
def codeOf:ah→bn
 | .code c _=>c
 |_=> .skip
end Go.A
