/- The machine: its heap, its operations, its runs, how it is made out of code; nothing of a law. -/
import Derived.CallsIn
import GoSem.Core.Region
import Derived.Lib.Join
set_option linter.all false
namespace Go.A
def UNK:Nat:=4611686018427387904
def bH{α:Type}:List α→Nat→Option α
 |[],_=>none
 |x::_,0=>some x
 |_::l,i+1=>bH l i
def pg{α:Type}:List α→Nat→α→List α
 |[],_,_=>[]
 |_::l,0,y=>y::l
 |x::l,i+1,y=>x::pg l i y
def cH{α:Type}:Nat→List α→List α
 |0,_=>[]
 |_+1,[]=>[]
 |n+1,x::l=>x::cH n l
def bW{α:Type}:Nat→List α→List α
 |0,l=>l
 |_+1,[]=>[]
 |n+1,_::l=>bW n l
def cO{α:Type}:List α→Nat→List α→List α
 |l,_,[]=>l
 |l,i,y::ys=>cO (pg l i y) (i+1) ys
def aT{α:Type}:Nat→α→List α
 |0,_=>[]
 |n+1,x=>x::aT n x
def fh:List Nat→Nat→Bool
 |[],_=>false
 |x::l,n=>bif Nat.beq x n then true else fh l n
def dI{α:Type}:List α→List α→List α
 |[],m=>m
 |x::l,m=>x::dI l m
def eE{α:Type}:Nat→List α→List α
 |0,_=>[]
 |n+1,z=>dI z (eE n z)
abbrev Env:=List (Nat×Value)
def geT:Env→Nat→Option Value
 |[],_=>none
 |(k,v)::e,t=>bif Nat.beq k t then some v else geT e t
def bE(e:Env):List Nat→Env
 |[]=>[]
 |t::ts=>match geT e t with
  |some v=>(t,v)::bE e ts
  |none=>bE e ts
inductive dM
 |b|i (k:IntKind)|s
 deriving Repr,DecidableEq,Inhabited
inductive Cv
 |int (k:IntKind)|same|toBytes|toStr|Qe
 deriving Repr,Inhabited
inductive NK
 |ptr|sl|map|func|iface
 deriving Repr,DecidableEq,Inhabited
inductive CQ
 |num (op:BinOp)
 |beq (neq:Bool)
 |nil (k:NK) (neq:Bool)
 |agg (neq:Bool) (ls:List dM)
 deriving Inhabited
inductive ASl
 |str|sl (size:Nat)|arr (n size:Nat)
 deriving Inhabited
inductive AOp
 |mov (x:Operand)
 |pick (c a b:Operand)
 |new (zero:List Value)
 |box (v:Operand)
 |build (zero:List Value) (parts:List (Nat×Nat×Operand))
 |cU (zero:List Value) (len:Nat) (parts:List (Nat×Nat×Operand))
 |load (n:Option Nat) (a:Operand)
 |store (n:Nat) (a v:Operand)
 |cg (x:Operand)
 |bin (op:CQ) (x y:Operand)
 |un (op:UnOp) (x:Operand)
 |conv (c:Cv) (x:Operand)
 |ig (t:TypeId) (x:Operand)
 |dY (fn:Fn) (first captured:List Operand)
 |mkMap
 |mkSlice (zero:List Value) (bytes:Nat) (len cap:Operand)
 |slice (k:ASl) (x:Operand) (lo hi mx:Option Operand)
 |dh (off:Nat) (x:Operand)
 |field (off:Nat) (n:Option Nat) (x:Operand)
 |cZ (len size:Nat) (x i:Operand)
 |aU (size:Nat) (x i:Operand)
 |rq (len size:Nat) (n:Option Nat) (x i:Operand)
 |iX (x i:Operand)
 |lookup (ag:Bool) (ls:List dM) (zero:Value) (commaOk:Bool) (m k:Operand)
 |kT (ag:Bool) (ls:List dM) (m k v:Operand)
 |jL (asserted:TypeId) (commaOk:Bool) (zero:Value) (x:Operand)
 |extract (t:Operand) (i:Nat)
 |call (f:Operand) (args:List Operand)
 |len (k:Nat) (x:Operand)
 |jC (n:Nat)
 |cap (x:Operand)
 |append (size bytes:Nat) (s x:Operand)
 |jI (zero:List Value) (bytes:Nat) (s n:Operand)
 |copy (size:Nat) (d s:Operand)
 |clear (z:List Value) (x:Operand)
 |ei (max:Bool) (args:List Operand)
 |delete (ag:Bool) (ls:List dM) (m k:Operand)
 |jo (f:Operand) (args:List Operand)
 |recover
 |rF (x:Operand)
 |range (x:Operand)
 |next (x:Operand) (str:Bool)
 |lC (x:Operand)
 |entry (x:Operand)
 deriving Inhabited
structure aW where
 dst:Option Nat
 op:AOp
 guard:Option (Nat×Bool)
 deriving Inhabited
inductive aY
 |skip
 |region (ops:List aW) (keep:List Nat)
 |draw (ops:List aW) (order:List Nat) (before:List Nat) (keep:List Nat)
 |seq (a b:aY)
 |cond (c:Operand) (a b:aY)
 |block (id:Nat) (b:aY)
 |loop (b:aY)
 |scope (b:aY)
 |rangeFunc (f:Operand) (params:List Nat) (assign body:aY)
 |rangeMap (ops:List aW) (it:Nat) (x:Operand) (keep:List Nat) (out nxt pr:Nat) (ops2:List aW) (keep2:List Nat) (body:aY)
 |exit (id:Nat)
 |ret
 deriving Inhabited
inductive bw
 |normal|exit (id:Nat)|ret|panic (v:Value)
 deriving Inhabited
inductive bJ
 |cells (vs:List Value) (own:Bool) (sz:Nat)
 |map (es:List (Value×Value))
 |sH (es:List (Value×Value))
 |loop (env:Env) (params:List Nat) (assign body:aY) (st:Nat) (gV:bw)
 |jZ (s:ByteArray) (pos:Nat)
 |dead
 deriving Inhabited
structure Heap where
 bR:List (Nat×bJ)
 next:Nat
 log:List Nat
 deriving Inhabited
inductive af
 |code (c:aY) (results:List (Nat×Option (Option Nat)))
 |jW (p:List Value→Heap→Option (Value×Heap))
 deriving Inhabited
def eR:List (Nat×bJ)→Nat→Option bJ
 |[],_=>none
 |(k,o)::l,b=>bif Nat.beq k b then some o else eR l b
def gZ:List (Nat×bJ)→Nat→bJ→List (Nat×bJ)
 |[],_,_=>[]
 |(k,o)::l,b,o'=>bif Nat.beq k b then(k,o')::l else(k,o)::gZ l b o'
def Heap.get(h:Heap)(b:Nat):Option bJ:=eR h.bR b
def u9:Option bJ→Option (List (Value×Value))
 |some (.map es)=>some es
 |some (.sH es)=>some es
 |_=>none
def Heap.push(h:Heap)(o:bJ):Heap:={h with bR:=(h.next,o)::h.bR,next:=h.next+1}
def Heap.wr(h:Heap)(base b:Nat)(o:bJ):Heap:=
 {h with bR:=gZ h.bR b o,log:=bif Nat.blt b base then(bif fh h.log b then h.log else b::h.log)else h.log}
def jS:Value→Bool
 | .bool _| .int _ _| .float _ _| .complex _ _ _| .string _| .nilFunc| .nilIface=>true
 | .pointer none| .slice none _ _| .map none| .chan none=>true
 | .func (.func _) f c=>Nat.beq f.toList.length 0&&Nat.beq c.toList.length 0
 |_=>false
def lD:Value→Bool
 | .iface _ v=>jS v
 |v=>jS v
def cS:List Value→Bool
 |[]=>true
 |v::l=>bif lD v then cS l else false
def flat:Value→Bool
 | .agg cs=>cS cs.toList
 | .iface _ (.agg cs)=>cS cs.toList
 |v=>lD v
def iS:List Value→Bool
 |[]=>true
 |v::l=>bif flat v then iS l else false
def cB:Value→Bool
 | .tuple cs=>iS cs.toList
 |v=>flat v
def cellsOf:Value→List Value
 | .agg cs=>cs.toList
 |v=>[v]
def bZ{α:Type}:List α→Nat
 |[]=>0
 |_::l=>bZ l+1
def fM(k:IntKind)(n:Int):Int:=
 match n with
 | .ofNat m=>bif Nat.blt m (match k with| .i8=>128| .i16=>32768| .i32=>2147483648| .i64=>9223372036854775808| .u8=>256| .u16=>65536| .u32=>4294967296| .u64=>18446744073709551616)then n else k.wrap n
 | .negSucc m=>bif Nat.blt m (match k with| .i8=>128| .i16=>32768| .i32=>2147483648| .i64=>9223372036854775808|_=>0)then n else k.wrap n
def iD:dM→Value→Value→Option Bool
 | .b, .bool a, .bool b=>some (a==b)
 | .i q, .int k a, .int k' b=>if k=q then if k'=q then some (a==b)else none else none
 | .s, .string a, .string b=>some (a.toList==b.toList)
 |_,_,_=>none
def bG:List dM→List Value→List Value→Option Bool
 |[],[],[]=>some true
 |l::ls,x::xs,y::ys=>match iD l x y with
  |some true=>bG ls xs ys
  |some false=>match bG ls xs ys with
   |some _=>some false
   |none=>none
  |none=>none
 |_,_,_=>none
def oW:Value→Bool
 | .agg _=>true
 |_=>false
def jr(ag:Bool)(ls:List dM)(k:Value):Bool:=
 match oW k==ag,bG ls (cellsOf k) (cellsOf k)with
 |true,some _=>true
 |_,_=>false
def nu(ag:Bool)(ls:List dM)(k k':Value):Option Bool:=
 match oW k'==ag with
 |true=>bG ls (cellsOf k) (cellsOf k')
 |false=>none
def gT:NK→Value→Option Bool
 | .ptr, .pointer none=>some true
 | .ptr, .pointer (some _)=>some false
 | .sl, .slice none _ _=>some true
 | .sl, .slice (some _) _ _=>some false
 | .map, .map none=>some true
 | .map, .map (some _)=>some false
 | .func, .nilFunc=>some true
 | .func, .func _ _ _=>some false
 | .iface, .nilIface=>some true
 | .iface, .iface _ _=>some false
 |_,_=>none
def nI(k:NK)(x y:Value):Option Bool:=
 match gT k x,gT k y with
 |some true,some b=>some b
 |some false,some true=>some false
 |_,_=>none
def lu(op:BinOp)(x y:Int):Option Value:=
 match op with
 | .eql=>some (.bool (x==y))
 | .neq=>some (.bool (x !=y))
 | .lss=>some (.bool (decide (x<y)))
 | .leq=>some (.bool (decide (x≤y)))
 | .gtr=>some (.bool (decide (x>y)))
 | .geq=>some (.bool (decide (x≥y)))
 |_=>none
def mj(op:BinOp)(k:IntKind)(x y:Int):Option Value:=
 let slow:Option Value:=
  let a:=BitVec.ofInt k.bits x
  let b:=BitVec.ofInt k.bits y
  match op with
  | .and=>some (.int k (k.wrap (a&&&b).toNat))
  | .or=>some (.int k (k.wrap (a|||b).toNat))
  | .xor=>some (.int k (k.wrap (a ^^^ b).toNat))
  | .andNot=>some (.int k (k.wrap (a&&& ~~~b).toNat))
  |_=>none
 match k,x,y with
 | .u64, .ofNat a, .ofNat b=>bif Nat.blt a 18446744073709551616&&Nat.blt b 18446744073709551616 then
  match op with
  | .and=>some (.int .u64 (.ofNat (Nat.land a b)))
  | .or=>some (.int .u64 (.ofNat (Nat.lor a b)))
  | .xor=>some (.int .u64 (.ofNat (Nat.xor a b)))
  | .andNot=>some (.int .u64 (.ofNat (Nat.xor a (Nat.land a b))))
  |_=>none
   else slow
 |_,_,_=>slow
def arith(op:BinOp)(k:IntKind)(x y:Int):Option Value:=
 match op with
 | .add=>some (.int k (fM k (x+y)))
 | .sub=>some (.int k (fM k (x-y)))
 | .mul=>some (.int k (fM k (x*y)))
 | .quo=>if y=0 then none else some (.int k (fM k (x.tdiv y)))
 | .rem=>if y=0 then none else some (.int k (x.tmod y))
 | .and| .or| .xor| .andNot=>mj op k x y
 |_=>lu op x y
def mK(op:BinOp)(k:IntKind)(x y:Int):Option Value:=
 match y with
 | .negSucc _=>none
 | .ofNat n=>match op with
   | .shl=>match k,x with
     | .u64, .ofNat a=>some (.int .u64 (.ofNat (Nat.mod (Nat.shiftLeft a (Nat.min n 64)) 18446744073709551616)))
     |_,_=>some (.int k (k.wrap (x*2 ^ (min n k.bits))))
   | .shr=>match k,x with
     | .u64, .ofNat a=>some (.int .u64 (.ofNat (Nat.shiftRight a (Nat.min n 64))))
     |_,_=>some (.int k (x.fdiv (2 ^ (min n k.bits))))
   |_=>none
def An(op:BinOp)(x y:ByteArray):Option Value:=
 match op with
 | .add=>bif Nat.blt (x.size+y.size) 9223372036854775808 then some (.string (x++y))else none
 | .eql=>some (.bool (x.toList==y.toList))
 | .neq=>some (.bool !(x.toList==y.toList))
 | .lss=>some (.bool (Op.bytesLess x.toList y.toList))
 | .leq=>some (.bool (Op.bytesLess x.toList y.toList||x.toList==y.toList))
 | .gtr=>some (.bool !(Op.bytesLess x.toList y.toList||x.toList==y.toList))
 | .geq=>some (.bool !(Op.bytesLess x.toList y.toList))
 |_=>none
def aA(op:BinOp)(x y:Value):Option Value:=
 match op,x,y with
 | .shl, .int k a, .int _ b=>mK .shl k a b
 | .shr, .int k a, .int _ b=>mK .shr k a b
 |op, .int k a, .int k' b=>if k=k' then arith op k a b else none
 |op, .string a, .string b=>An op a b
 |_,_,_=>none
def uR(op:UnOp)(x:Value):Option Value:=
 match op,x with
 | .neg, .int k n=>some (.int k (fM k (0-n)))
 | .xor, .int .u64 (.ofNat n)=>bif Nat.blt n 18446744073709551616 then some (.int .u64 (.ofNat (18446744073709551615-n)))else none
 | .not, .bool b=>some (.bool !b)
 |_,_=>none
def ev(h:Heap)(e:Env):Operand→Option Value
 | .tmp t=>geT e t
 | .const v=>some v
 | .global g=>match h.get g with
   |some _=>some (.pointer (some ⟨g,0,none⟩))
   |none=>none
 | .func f=>some (.func (.func f) #[] #[])
def evs(h:Heap)(e:Env):List Operand→Option (List Value)
 |[]=>some []
 |x::xs=>match ev h e x with
  |some v=>match evs h e xs with
   |some vs=>some (v::vs)
   |none=>none
  |none=>none
def iF(h:Heap)(e:Env)(z:List Value):List (Nat×Nat×Operand)→Option (List Value)
 |[]=>some z
 |(off,size,x)::ps=>match ev h e x with
  |some v=>bif Nat.beq (bZ (cellsOf v)) size&&Nat.ble (off+size) (bZ z)then iF h e (cO z off (cellsOf v)) ps else none
  |none=>none
inductive cI
 |val (v:Value) (h:Heap)
 |call (fn:Fn) (args:List Value) (h:Heap)
 |jo (f:Value) (args:List Value)
 |panic (v:Value) (h:Heap)
 |recover
 deriving Inhabited
def dR:List Value→Bool
 |[]=>true
 | .agg _::_=>false
 | .tuple _::_=>false
 |_::l=>dR l
def nD(h:Heap)(n:Option Nat):Value→Option Value
 | .pointer (some ⟨b,o,none⟩)=>match h.get b with
   |some (.cells vs _ _)=>match n with
    |none=>bH vs o
    |some n=>let l:=cH n (bW o vs);bif Nat.beq (bZ l) n then some (.agg l.toArray)else none
   |_=>none
 |_=>none
def pL(h:Heap)(base n:Nat)(v:Value):Value→Option Heap
 | .pointer (some ⟨b,o,none⟩)=>match h.get b with
   |some (.cells vs true sz)=>bif Nat.beq (bZ (cellsOf v)) n&&Nat.ble (o+n) (bZ vs)&&dR (cellsOf v)then some (h.wr base b (.cells (cO vs o (cellsOf v)) true sz))else none
   |_=>none
 |_=>none
def nH:Value→Option Nat
 | .int _ (.ofNat n)=>some n
 |_=>none
def bnd(h:Heap)(e:Env)(dflt:Nat):Option Operand→Option Nat
 |none=>some dflt
 |some x=>match ev h e x with
  |some v=>nH v
  |none=>none
def iu(h:Heap)(e:Env)(size:Nat)(a:Option Addr)(len cap:Nat)(lo hi mx:Option Operand):Option (Value×Heap):=
 match bnd h e 0 lo,bnd h e len hi with
 |some l,some u=>
  match mx with
  |some _=>match bnd h e 0 mx with
   |some m=>bif Nat.ble l u&&Nat.ble u m&&Nat.ble m (bif Nat.beq cap UNK then len else cap)&&Nat.blt m UNK then
    some (.slice (bif Nat.beq m l then a else match a with|some ⟨b,o,none⟩=>some ⟨b,o+l*size,none⟩|a=>a) (u-l) (m-l),h)
    else none
   |none=>none
  |none=>
   bif Nat.beq cap UNK then
    match a with
    |some ⟨b,o,none⟩=>match h.get b with
     |some (.cells vs _ sz)=>
      bif Nat.beq sz size&&Nat.ble l u&&(Nat.ble u len||Nat.ble (o+u*size) (bZ vs))then
       bif Nat.blt l len||Nat.blt l u then some (.slice (some ⟨b,o+l*size,none⟩) (u-l) UNK,h)
       else bif Nat.beq l 0 then some (.slice (some ⟨b,o,none⟩) 0 UNK,h)
       else some (.slice (some ⟨h.next,0,none⟩) 0 UNK,h.push (.cells [] false size))
      else none
     |_=>none
    |_=>none
   else bif Nat.ble l u&&Nat.ble u cap then
    some (.slice (bif Nat.beq cap l then a else match a with|some ⟨b,o,none⟩=>some ⟨b,o+l*size,none⟩|a=>a) (u-l) (cap-l),h)
    else none
 |_,_=>none
def cW(h:Heap)(size:Nat):Value→Option (List Value×Nat)
 | .slice none n _=>bif Nat.beq n 0 then some ([],0)else none
 | .slice (some ⟨b,o,none⟩) n _=>match h.get b with
   |some (.cells vs _ _)=>let l:=cH (n*size) (bW o vs);bif Nat.beq (bZ l) (n*size)then some (l,n)else none
   |_=>none
 | .string s=>bif Nat.beq size 1 then some (s.data.toList.map fun b=> .int .u8 b.toNat,s.size)else none
 |_=>none
def iJ(h:Heap)(base size bytes:Nat)(s:Value)(new:List Value)(n:Nat):Option (Value×Heap):=
 match s with
 | .slice a len cap=>
   bif Nat.beq n 0 then(bif Nat.ble len cap then some (s,h)else none)else
   bif Nat.ble ((2*(len+n)+768)*bytes) 281474976710656 then
    match a with
    |none=>bif Nat.beq len 0&&Nat.beq cap 0 then some (.slice (some ⟨h.next,0,none⟩) n UNK,h.push (.cells new true size))else none
    |some ⟨b,o,none⟩=>match h.get b with
     |some (.cells vs own sz)=>
      bif Nat.beq cap UNK then
       bif own&&Nat.beq sz size then
        bif Nat.ble (o+(len+n)*size) (bZ vs)&&dR new then
         some (.slice (some ⟨b,o,none⟩) (len+n) UNK,h.wr base b (.cells (cO vs (o+len*size) new) true sz))
        else bif Nat.beq o 0&&Nat.beq (len*size) (bZ vs)&&dR new then
         some (.slice (some ⟨h.next,0,none⟩) (len+n) UNK,(h.wr base b .dead).push (.cells (dI vs new) true size))
        else none
       else none
      else bif Nat.ble (len+n) cap then
       bif own&&Nat.ble (o+(len+n)*size) (bZ vs)&&dR new then
        some (.slice (some ⟨b,o,none⟩) (len+n) cap,h.wr base b (.cells (cO vs (o+len*size) new) true sz))
       else none
      else bif Nat.ble (o+len*size) (bZ vs)then
       some (.slice (some ⟨h.next,0,none⟩) (len+n) UNK,h.push (.cells (dI (cH (len*size) (bW o vs)) new) true size))
      else none
     |_=>none
    |_=>none
   else none
 |_=>none
def mR(ag:Bool)(ls:List dM)(k:Value):Nat→List (Value×Value)→Option (Option (Nat×Value))
 |_,[]=>some none
 |i,(k',v)::es=>match nu ag ls k k' with
  |some true=>some (some (i,v))
  |some false=>mR ag ls k (i+1) es
  |none=>none
def zC{α:Type}:List α→Nat→List α
 |[],_=>[]
 |_::l,0=>l
 |x::l,i+1=>x::zC l i
def mmA(mx:Bool)(x:Value):List Value→Option Value
 |[]=>some x
 |y::l=>match x,y with
  | .int k a, .int k' b=>if k=k' then mmA mx (.int k (if mx then(if b>a then b else a)else(if b<a then b else a))) l else none
  |_,_=>none
def bytesOf:List Value→Option (List UInt8)
 |[]=>some []
 | .int .u8 (.ofNat n)::l=>match bytesOf l with
   |some bs=>some (UInt8.ofNat n::bs)
   |none=>none
 |_=>none
def oK(h:Heap)(c:Cv)(x:Value):Option (Value×Heap):=
 match c,x with
 | .int k, .int _ n=>some (.int k (fM k n),h)
 | .same, .string s=>some (.string s,h)
 | .toStr, .slice a n c=>match cW h 1 (.slice a n c)with
   |some (l,_)=>match bytesOf l with
    |some bs=>some (.string ⟨bs.toArray⟩,h)
    |none=>none
   |none=>none
 | .toBytes, .string s=>some (.slice (some ⟨h.next,0,none⟩) s.size UNK,h.push (.cells (s.data.toList.map fun b=> .int .u8 b.toNat) true 1))
 |_,_=>none
def cF{α:Type}(x:Option Value)(k:Value→Option α):Option α:=
 match x with
 |some v=>k v
 |none=>none
def fD(x:Option (Value×Heap)):Option cI:=
 match x with
 |some (v,h)=>some (.val v h)
 |none=>none
def nj(f:Value)(args:List Value)(h:Heap):Option cI:=
 match f with
 | .func (.func g) first cap=>some (.call (.func g) (dI first.toList (dI args cap.toList)) h)
 | .func (.yield l) first cap=>match cap.toList with
   |[]=>some (.call (.yield l) (dI first.toList args) h)
   |_::_=>none
 |_=>none
def aop(h:Heap)(base:Nat)(e:Env):AOp→Option cI
 | .mov x=>cF (ev h e x) fun v=>some (.val v h)
 | .pick c a b=>match ev h e c with
   |some (.bool true)=>cF (ev h e a) fun v=>some (.val v h)
   |some (.bool false)=>cF (ev h e b) fun v=>some (.val v h)
   |_=>none
 | .new z=>some (.val (.pointer (some ⟨h.next,0,none⟩)) (h.push (.cells z true 1)))
 | .box x=>cF (ev h e x) fun v=>some (.val (.pointer (some ⟨h.next,0,none⟩)) (h.push (.cells (cellsOf v) true 1)))
 | .build z ps=>match iF h e z ps with
   |some cs=>some (.val (.agg cs.toArray) h)
   |none=>none
 | .cU z n ps=>match iF h e (eE n z) ps with
   |some cs=>some (.val (.slice (some ⟨h.next,0,none⟩) n n) (h.push (.cells cs true (bZ z))))
   |none=>none
 | .load n a=>cF (ev h e a) fun a=>cF (nD h n a) fun v=>some (.val v h)
 | .store n a v=>cF (ev h e a) fun a=>cF (ev h e v) fun v=>match pL h base n v a with
   |some h'=>some (.val (.tuple #[]) h')
   |none=>none
 | .cg x=>cF (ev h e x) fun v=>match v with
   | .pointer none| .nilIface| .nilFunc=>none
   | .func (.method _) _ _=>none
   |v=>some (.val v h)
 | .bin (.num op) x y=>cF (ev h e x) fun x=>cF (ev h e y) fun y=>cF (aA op x y) fun v=>some (.val v h)
 | .bin (.beq neq) x y=>match ev h e x,ev h e y with
   |some (.bool a),some (.bool b)=>some (.val (.bool (bif neq then !(a==b)else a==b)) h)
   |_,_=>none
 | .bin (.nil k neq) x y=>cF (ev h e x) fun x=>cF (ev h e y) fun y=>match nI k x y with
   |some b=>some (.val (.bool (bif neq then !b else b)) h)
   |none=>none
 | .bin (.agg neq ls) x y=>cF (ev h e x) fun x=>cF (ev h e y) fun y=>match x,y with
   | .agg xs, .agg ys=>match bG ls xs.toList ys.toList with
     |some b=>some (.val (.bool (bif neq then !b else b)) h)
     |none=>none
   |_,_=>none
 | .un op x=>cF (ev h e x) fun x=>cF (uR op x) fun v=>some (.val v h)
 | .conv c x=>cF (ev h e x) fun x=>fD (oK h c x)
 | .ig t x=>cF (ev h e x) fun v=>some (.val (.iface t v) h)
 | .dY fn fs cs=>match evs h e fs,evs h e cs with
   |some fs,some cs=>some (.val (.func fn fs.toArray cs.toArray) h)
   |_,_=>none
 | .mkMap=>some (.val (.map (some h.next)) (h.push (.map [])))
 | .mkSlice z bytes l c=>match ev h e l,ev h e c with
   |some l,some c=>match nH l,nH c with
    |some l,some c=>bif Nat.ble l c&&Nat.ble (bytes*c) 281474976710656&&Nat.blt c UNK then
     some (.val (.slice (some ⟨h.next,0,none⟩) l c) (h.push (.cells (eE c z) true (bZ z))))
     else none
    |_,_=>none
   |_,_=>none
 | .slice .str x lo hi none=>match ev h e x with
   |some (.string s)=>match bnd h e 0 lo,bnd h e s.size hi with
    |some l,some u=>bif Nat.ble l u&&Nat.ble u s.size then some (.val (.string (s.extract l u)) h)else none
    |_,_=>none
   |_=>none
 | .slice (.sl size) x lo hi mx=>match ev h e x with
   |some (.slice a len cap)=>fD (iu h e size a len cap lo hi mx)
   |_=>none
 | .slice (.arr n size) x lo hi mx=>match ev h e x with
   |some (.pointer (some a))=>fD (iu h e size (some a) n n lo hi mx)
   |_=>none
 | .slice .str _ _ _ (some _)=>none
 | .dh off x=>match ev h e x with
   |some (.pointer (some ⟨b,o,none⟩))=>some (.val (.pointer (some ⟨b,o+off,none⟩)) h)
   |_=>none
 | .field off n x=>match ev h e x with
   |some (.agg cs)=>match n with
    |none=>cF (bH cs.toList off) fun v=>some (.val v h)
    |some n=>let l:=cH n (bW off cs.toList);bif Nat.beq (bZ l) n then some (.val (.agg l.toArray) h)else none
   |_=>none
 | .cZ len size x i=>match ev h e x,ev h e i with
   |some (.pointer (some ⟨b,o,none⟩)),some (.int _ (.ofNat i))=>bif Nat.blt i len then some (.val (.pointer (some ⟨b,o+i*size,none⟩)) h)else none
   |_,_=>none
 | .aU size x i=>match ev h e x,ev h e i with
   |some (.slice (some ⟨b,o,none⟩) len _),some (.int _ (.ofNat i))=>bif Nat.blt i len then some (.val (.pointer (some ⟨b,o+i*size,none⟩)) h)else none
   |_,_=>none
 | .rq len size n x i=>match ev h e x,ev h e i with
   |some (.agg cs),some (.int _ (.ofNat i))=>bif Nat.blt i len then
    match n with
    |none=>cF (bH cs.toList (i*size)) fun v=>some (.val v h)
    |some n=>let l:=cH n (bW (i*size) cs.toList);bif Nat.beq (bZ l) n then some (.val (.agg l.toArray) h)else none
    else none
   |_,_=>none
 | .iX x i=>match ev h e x,ev h e i with
   |some (.string s),some (.int _ (.ofNat i))=>match bH s.data.toList i with
    |some b=>some (.val (.int .u8 b.toNat) h)
    |none=>none
   |_,_=>none
 | .lookup ag ls z ok m k=>match ev h e m,ev h e k with
   |some (.map none),some k=>bif jr ag ls k then some (.val (bif ok then .tuple #[z, .bool false]else z) h)else none
   |some (.map (some r)),some k=>match u9 (h.get r)with
    |some es=>bif jr ag ls k then match mR ag ls k 0 es with
     |some (some (_,v))=>some (.val (bif ok then .tuple #[v, .bool true]else v) h)
     |some none=>some (.val (bif ok then .tuple #[z, .bool false]else z) h)
     |none=>none else none
    |none=>none
   |_,_=>none
 | .kT ag ls m k v=>match ev h e m,ev h e k,ev h e v with
   |some (.map (some r)),some k,some v=>match h.get r with
    |some (.map es)=>bif jr ag ls k then match mR ag ls k 0 es with
     |some (some (i,_))=>some (.val (.tuple #[]) (h.wr base r (.map (pg es i (k,v)))))
     |some none=>some (.val (.tuple #[]) (h.wr base r (.map (dI es [(k,v)]))))
     |none=>none else none
    |_=>none
   |_,_,_=>none
 | .jL t ok z x=>match ev h e x with
   |some .nilIface=>bif ok then some (.val (.tuple #[z, .bool false]) h)else none
   |some (.iface t' v)=>if t'=t then some (.val (bif ok then .tuple #[v, .bool true]else v) h)
    else bif ok then some (.val (.tuple #[z, .bool false]) h)else none
   |_=>none
 | .extract t i=>match ev h e t with
   |some (.tuple vs)=>cF (bH vs.toList i) fun v=>some (.val v h)
   |_=>none
 | .call f args=>match ev h e f,evs h e args with
   |some f,some args=>nj f args h
   |_,_=>none
 | .len 0 x=>match ev h e x with
   |some (.string s)=>some (.val (.int .i64 s.size) h)
   |_=>none
 | .len 1 x=>match ev h e x with
   |some (.slice _ n _)=>some (.val (.int .i64 n) h)
   |_=>none
 | .len _ x=>match ev h e x with
   |some (.map none)=>some (.val (.int .i64 0) h)
   |some (.map (some r))=>match u9 (h.get r)with
    |some es=>some (.val (.int .i64 (bZ es)) h)
    |none=>none
   |_=>none
 | .jC n=>some (.val (.int .i64 n) h)
 | .cap x=>match ev h e x with
   |some (.slice _ _ c)=>bif Nat.beq c UNK then none else some (.val (.int .i64 c) h)
   |_=>none
 | .append size bytes s x=>match ev h e s,ev h e x with
   |some s,some x=>match cW h size x with
    |some (l,n)=>fD (iJ h base size bytes s l n)
    |none=>none
   |_,_=>none
 | .jI z bytes s n=>match ev h e s,ev h e n with
   |some s,some n=>match nH n with
    |some n=>bif Nat.blt n 9223372036854775808&&Nat.ble (n*bytes) 281474976710656 then fD (iJ h base (bZ z) bytes s (eE n z) n)else none
    |none=>none
   |_,_=>none
 | .copy size d s=>match ev h e d,ev h e s with
   |some (.slice a dl _),some s=>match cW h size s with
    |some (l,n)=>
     let m:=Nat.min n dl
     match a with
     |none=>some (.val (.int .i64 m) h)
     |some ⟨b,o,none⟩=>match h.get b with
      |some (.cells vs true sz)=>bif Nat.ble (o+m*size) (bZ vs)&&dR (cH (m*size) l)then
       some (.val (.int .i64 m) (h.wr base b (.cells (cO vs o (cH (m*size) l)) true sz)))
       else none
      |_=>none
     |_=>none
    |none=>none
   |_,_=>none
 | .clear z x=>match ev h e x with
   |some (.slice a n _)=>
    bif Nat.beq n 0 then some (.val (.tuple #[]) h)else
    match a with
    |none=>some (.val (.tuple #[]) h)
    |some ⟨b,o,none⟩=>match h.get b with
     |some (.cells vs true sz)=>bif Nat.ble (o+bZ (eE n z)) (bZ vs)&&dR (eE n z)then some (.val (.tuple #[]) (h.wr base b (.cells (cO vs o (eE n z)) true sz)))else none
     |_=>none
    |_=>none
   |_=>none
 | .ei mx args=>match evs h e args with
   |some (x::l)=>cF (mmA mx x l) fun v=>some (.val v h)
   |_=>none
 | .delete ag ls m k=>match ev h e m,ev h e k with
   |some (.map (some r)),some k=>match h.get r with
    |some (.map es)=>bif jr ag ls k then match mR ag ls k 0 es with
     |some (some (i,_))=>some (.val (.tuple #[]) (h.wr base r (.map (zC es i))))
     |some none=>some (.val (.tuple #[]) (h.wr base r (.map es)))
     |none=>none else none
    |_=>none
   |some (.map none),some k=>bif jr ag ls k then some (.val (.tuple #[]) h)else none
   |_,_=>none
 | .jo f args=>match ev h e f,evs h e args with
   |some (.func (.func g) first cap),some args=>some (.jo (.func (.func g) first cap) args)
   |_,_=>none
 | .recover=>some .recover
 | .rF x=>cF (ev h e x) fun v=>match v with
   | .iface _ _=>some (.panic v h)
   |_=>none
 | .range x=>match ev h e x with
   |some (.string s)=>some (.val (.pointer (some ⟨h.next,0,none⟩)) (h.push (.jZ s 0)))
   |_=>none
 | .next x true=>match ev h e x with
   |some (.pointer (some ⟨r,0,none⟩))=>match h.get r with
    |some (.jZ s pos)=>bif Nat.blt pos s.size then
     let d:=Utf8.decode s pos
     some (.val (.tuple #[.bool true, .int .i64 pos, .int .i32 d.1]) (h.wr base r (.jZ s (pos+d.2))))
     else some (.val (.tuple #[.bool false]) h)
    |_=>none
   |_=>none
 | .next _ false=>none
 | .lC _=>none
 | .entry _=>none
inductive Res
 |ret (v:Value)
 |panic (v:Value)
 deriving Inhabited
def dV:Nat→List Value→Env
 |_,[]=>[]
 |i,v::vs=>(i,v)::dV (i+1) vs
def bY(h:Heap)(e:Env):List (Nat×Option (Option Nat))→Option (List Value)
 |[]=>some []
 |(t,none)::rs=>match geT e t with
  |some v=>match bY h e rs with
   |some vs=>some (v::vs)
   |none=>none
  |none=>none
 |(t,some n)::rs=>match geT e t with
  |some a=>match nD h n a with
   |some v=>match bY h e rs with
    |some vs=>some (v::vs)
    |none=>none
   |none=>none
  |none=>none
def eS:List Value→Value
 |[v]=>v
 |vs=> .tuple vs.toArray
def aC(base:Nat)(l:List Nat):List Nat→List Nat
 |[]=>l
 |b::bs=>aC base (bif Nat.blt b base then(bif fh l b then l else b::l)else l) bs
def fE(h:Heap)(base:Nat):List Nat→Bool
 |[]=>true
 |b::bs=>bif Nat.blt b base then
   match h.get b with
   |some (.cells vs _ _)=>bif cS vs then fE h base bs else false
   |some (.map es)=>bif iS (es.map (·.1))&&iS (es.map (·.2))then fE h base bs else false
   |some .dead=>fE h base bs
   |some (.jZ _ _)=>fE h base bs
   |_=>false
  else fE h base bs
def mQ{α:Type}:Nat→List α→List α:=bW
def gcA(h0 h:Heap)(v:Value):Heap:=
 bif cB v&&fE h h0.next h.log then {h with bR:=mQ (h.next-h0.next) h.bR,next:=h0.next}else h
def ir(e:Env):List Nat→List Value→Option Env
 |[],[]=>some e
 |t::ts,v::vs=>ir ((t,v)::e) ts vs
 |_,_=>none
def bC(e:Env):Option (Nat×Bool)→Option Bool
 |none=>some true
 |some (t,b)=>match geT e t with
  |some (.bool x)=>some (x==b)
  |some _=>some false
  |none=>none
def bM(e:Env)(d:Option Nat)(v:Value):Env:=
 match d with
 |some t=>(t,v)::e
 |none=>e
def kJ:Value→Value→Bool
 | .bool a, .bool b=>a==b
 | .int k a, .int k' b=>k==k'&&a==b
 | .string a, .string b=>a.data.toList==b.data.toList
 | .pointer a, .pointer b=>a==b
 | .slice a l c, .slice b l' c'=>a==b&&l==l'&&c==c'
 | .map a, .map b=>a==b
 | .nilIface, .nilIface=>true
 | .nilFunc, .nilFunc=>true
 | .iface t (.int k a), .iface t' (.int k' b)=>t==t'&&k==k'&&a==b
 |_,_=>false
def jt:List Value→List Value→Bool
 |[],[]=>true
 |x::xs,y::ys=>bif kJ x y then jt xs ys else false
 |_,_=>false
def iz:Value→Value→Bool
 | .agg a, .agg b=>jt a.toList b.toList
 | .tuple a, .tuple b=>jt a.toList b.toList
 | .func (.func f) a' a, .func (.func g) b' b=>f==g&&(jt a'.toList b'.toList&&jt a.toList b.toList)
 |x,y=>kJ x y
def MY:Option Operand→List Operand
 |some x=>[x]
 |none=>[]
def cN:AOp→List Operand
 | .mov x| .box x| .load _ x| .cg x| .un _ x| .conv _ x| .ig _ x| .dh _ x| .field _ _ x| .jL _ _ _ x| .extract x _| .len _ x| .cap x| .rF x| .range x| .next x _| .lC x| .entry x| .clear _ x=>[x]
 | .pick c a b=>[c,a,b]
 | .build _ ps| .cU _ _ ps=>ps.map (·.2.2)
 | .store _ a v=>[a,v]
 | .bin _ x y| .cZ _ _ x y| .aU _ x y| .rq _ _ _ x y| .iX x y| .mkSlice _ _ x y| .lookup _ _ _ _ x y| .delete _ _ x y| .append _ _ x y| .jI _ _ x y| .copy _ x y=>[x,y]
 | .dY _ fs cs=>dI fs cs
 | .slice _ x lo hi mx=>x::dI (MY lo) (dI (MY hi) (MY mx))
 | .kT _ _ m k v=>[m,k,v]
 | .call f as| .jo f as=>f::as
 | .ei _ as=>as
 | .new _| .mkMap| .jC _| .recover=>[]
def wq:List Operand→List Nat
 |[]=>[]
 | .tmp t::l=>t::wq l
 |_::l=>wq l
def bS(o:aW):List Nat:=
 match o.guard with
 |some (t,_)=>t::wq (cN o.op)
 |none=>wq (cN o.op)
def cE:AOp→Bool
 | .mov _| .pick .. | .build .. | .load .. | .cg _| .bin .. | .un .. | .ig .. | .dY .. | .dh .. | .field .. | .cZ .. | .aU .. | .rq .. | .iX .. | .lookup .. | .jL .. | .extract .. | .len .. | .jC _| .cap _| .ei .. =>true
 | .conv .toBytes _=>false
 | .conv _ _=>true
 | .slice .. =>true
 |_=>false
def kG:List Operand→Bool
 |[]=>true
 | .global _::_=>false
 |_::l=>kG l
def dn:AOp→Bool
 | .new _| .mkMap=>true
 | .box x=>kG [x]
 | .mkSlice _ _ l c=>kG [l,c]
 | .cU z n ps=>kG (ps.map (·.2.2))
 |_=>false
def jc(o:AOp):Bool:=cE o||dn o
inductive Rk
 |skip|quiet|made (b:Nat)
structure Rec where
 i:Nat
 o:aW
 e:Env
 v:Value
 k:Rk
def pG(h:Heap)(base:Nat)(r:Rec):Bool:=
 match r.k with
 | .quiet=>match aop h base r.e r.o.op with
   |some (.val v' h2)=>iz r.v v'&&Nat.beq h2.next h.next
   |_=>false
 |_=>true
def lY(h:Heap)(base:Nat):List Rec→Bool
 |[]=>true
 |r::rs=>bif pG h base r then lY h base rs else false
def D6(log:List Nat)(r:Rec):Bool:=
 match r.k with
 | .made b=> !fh log b
 |_=>true
def vn(bf:List Nat)(i:Nat):List Nat→Bool
 |[]=>true
 |j::js=>match bH bf j with
  |some m=>bif Nat.testBit m i then vn bf i js else false
  |none=>false
def aZ(h:Heap)(base:Nat)(log:List Nat)(mask:Nat):List Rec→Option (List Rec)
 |[]=>some []
 |r::rs=>bif Nat.testBit mask r.i then aZ h base log mask rs else
  bif pG h base r&&D6 log r then match aZ h base log mask rs with
   |some rs'=>some (r::rs')
   |none=>none
  else none
def mJ(h:Heap):Option Nat→Bool
 |none=>true
 |some l=>match h.get l with
  |some (.loop _ _ _ _ _ _)=>true
  |_=>false
def notReady:Option bJ→Bool
 |some (.loop _ _ _ _ 0 .normal)=>false
 |_=>true
def fS:Option af→Bool
 |some (.code _ _)=>false
 |_=>true
abbrev Dfs:=List (Value×List Value)
def Eh(e2:Env):Env→Bool
 |[]=>true
 |(t,v)::e=>match geT e2 t with
  |some v'=>bif iz v v' then Eh e2 e else false
  |none=>false
def xF(e:Env):Env→Bool
 |[]=>true
 |(t,v)::e2=>bif flat v then xF e e2 else match geT e t with
  |some v'=>bif iz v v' then xF e e2 else false
  |none=>false
def uJ:Env→Env→Bool
 |[],[]=>true
 |(t,v)::e,(t',v')::e'=>bif Nat.beq t t' then bif iz v v' then uJ e e' else false else false
 |_,_=>false
def LC(nxt:Nat)(e eo:Env)(x:bw)(e2:Env)(r:Option (bw×Env)):Option (Option (bw×Env)):=
 match x with
 | .normal=>bif Eh e2 e then some r else none
 | .panic _=>none
 | .exit i=>bif Nat.beq i nxt then(bif Eh e2 e then some r else none)else
   bif xF eo e2 then match r with
    |none=>some (some (.exit i,e2))
    |some (.exit j,e3)=>bif Nat.beq i j&&uJ e2 e3 then some r else none
    |_=>none
   else none
 | .ret=>bif xF eo e2 then match r with
  |none=>some (some (.ret,e2))
  |some (.ret,e3)=>bif uJ e2 e3 then some r else none
  |_=>none
   else none
def mW(fo:Env→Heap→Option (bw×Env×Dfs×Heap))(fe:Env→Heap→Option (bw×Env×Dfs×Heap))(nxt pr:Nat)(k2:List Nat)(e eo:Env)(h:Heap):List (Value×Value)→Option (Option (bw×Env))
 |[]=>some none
 |(k,v)::es=>match fo ((pr, .tuple #[k,v])::e) h with
  |some (.normal,e1,[],h1)=>match fe (bE e1 k2) h1 with
   |some (x,e2,[],h2)=>match h2.log with
    |[]=>match mW fo fe nxt pr k2 e eo h es with
     |some r=>LC nxt e eo x e2 r
     |none=>none
    |_::_=>none
   |_=>none
  |_=>none
def Da(out:Nat)(e0:Env)(h:Heap):Option (Option (bw×Env))→Option (bw×Env×Dfs×Heap)
 |some none=>some (.normal,e0,[],h)
 |some (some (.exit i,e'))=>bif Nat.beq i out then some (.normal,e',[],h)else some (.exit i,e',[],h)
 |some (some (.ret,e'))=>some (.ret,e',[],h)
 |_=>none
def roM(h:Heap)(m:Nat)(es:List (Value×Value)):Heap:={h with bR:=gZ h.bR m (.sH es),log:=[]}
def itE(it:Nat)(h:Heap)(e:Env):Env:=(it, .pointer (some ⟨h.next,0,none⟩))::e
mutual
def cu(T:Nat→Option af):Nat→Nat→Option Nat→aY→Env→Dfs→Heap→Option (bw×Env×Dfs×Heap)
 |0,_,_,_,_,_,_=>none
 |n+1,base,rnd,c,e,ds,h=>
  match c with
  | .skip=>some (.normal,e,ds,h)
  | .region ops keep=>match gh T n base rnd ops e ds h with
    |some (.normal,e',ds',h')=>some (.normal,bE e' keep,ds',h')
    |r=>r
  | .draw ops order before keep=>match ew T n base ops order before [] e h with
    |some (.normal,e',h')=>some (.normal,bE e' keep,ds,h')
    |some (x,e',h')=>some (x,e',ds,h')
    |none=>none
  | .seq a b=>match cu T n base rnd a e ds h with
    |some (.normal,e',ds',h')=>cu T n base rnd b e' ds' h'
    |r=>r
  | .cond c a b=>match ev h e c with
    |some (.bool true)=>cu T n base rnd a e ds h
    |some (.bool false)=>cu T n base rnd b e ds h
    |_=>none
  | .block id b=>match cu T n base rnd b e ds h with
    |some (.exit i,e',ds',h')=>bif Nat.beq i id then some (.normal,e',ds',h')else some (.exit i,e',ds',h')
    |r=>r
  | .loop b=>match cu T n base rnd b e ds h with
    |some (.normal,e',ds',h')=>cu T n base rnd (.loop b) e' ds' h'
    |r=>r
  | .scope b=>cu T n base rnd b e ds h
  | .rangeFunc f ps asg body=>bif mJ h rnd then match ev h e f with
    |some (.func (.func g) first cap)=>bif fS (T g)then none else
     match iE T n g (dI first.toList (dI [.func (.yield h.next) #[] #[]] cap.toList)) {h.push (.loop e ps asg body 0 .normal)with log:=[]}with
     |some (.ret _,h2)=>match h2.get h.next with
      |some (.loop _ _ _ _ st gV)=>bif Nat.beq st 1 then none else
       some (gV,e,ds,Heap.wr {h2 with log:=aC base h.log h2.log} base h.next .dead)
      |_=>none
     |some (.panic v,h2)=>some (.panic v,e,ds,{h2 with log:=aC base h.log h2.log})
     |none=>none
    |_=>none
    else none
  | .rangeMap ops it x keep out nxt pr ops2 k2 body=>match gh T n base rnd ops e ds h with
    |some (.normal,e0,ds0,h0)=>match ds0 with
     |_::_=>none
     |[]=>match ev h0 e0 x with
      |some (.map none)=>some (.normal,bE e0 keep,[],h0)
      |some (.map (some m))=>match h0.get m with
       |some (.map es)=>Da out (bE e0 keep) h0 (mW (fun e h=>gh T n (h0.next+1) rnd ops2 e [] h) (fun e h=>cu T n (h0.next+1) rnd body e [] h) nxt pr k2 (itE it h0 (bE e0 keep)) (bE e0 keep) ((roM h0 m es).push .dead) es)
       |_=>none
      |_=>none
    |r=>r
  | .exit id=>some (.exit id,e,ds,h)
  | .ret=>some (.ret,e,ds,h)
def gh(T:Nat→Option af):Nat→Nat→Option Nat→List aW→Env→Dfs→Heap→Option (bw×Env×Dfs×Heap)
 |0,_,_,_,_,_,_=>none
 |n+1,base,rnd,ops,e,ds,h=>
  match ops with
  |[]=>some (.normal,e,ds,h)
  |o::os=>match bC e o.guard with
   |some false=>gh T n base rnd os (bM e o.dst (.tuple #[])) ds h
   |some true=>match aop h base e o.op with
    |some (.val v h')=>gh T n base rnd os (bM e o.dst v) ds h'
    |some (.call fn args h')=>match fT T n fn args {h' with log:=[]}with
     |some (.ret v,h2)=>gh T n base rnd os (bM e o.dst v) ds {h2 with log:=aC base h'.log h2.log}
     |some (.panic v,h2)=>some (.panic v,e,ds,{h2 with log:=aC base h'.log h2.log})
     |none=>none
    |some (.jo f args)=>match rnd with|some _=>none|none=>gh T n base rnd os (bM e o.dst (.tuple #[])) ((f,args)::ds) h
    |some (.panic v h')=>some (.panic v,e,ds,h')
    |_=>none
   |none=>none
def ew(T:Nat→Option af):Nat→Nat→List aW→List Nat→List Nat→List Rec→Env→Heap→Option (bw×Env×Heap)
 |0,_,_,_,_,_,_,_=>none
 |n+1,base,ops,order,before,rs,e,h=>
  match order with
  |[]=>some (.normal,e,h)
  |i::is=>match bH ops i,bH before i with
   |some o,some mask=>
    match bC (bE e (bS o)) o.guard with
    |some false=>ew T n base ops is before (⟨i,o,bE e (bS o), .tuple #[], .skip⟩::rs) (bM e o.dst (.tuple #[])) h
    |some true=>
     bif jc o.op then
      match aop h base (bE e (bS o)) o.op with
      |some (.val v h')=>
       bif dn o.op then
        bif lY h' base rs then ew T n base ops is before (⟨i,o,bE e (bS o),v, .made h.next⟩::rs) (bM e o.dst v) h' else none
       else bif Nat.beq h'.next h.next then ew T n base ops is before (⟨i,o,bE e (bS o),v, .quiet⟩::rs) (bM e o.dst v) h
       else bif vn before i is then
        match aop {h with log:=[]} h.next (bE e (bS o)) o.op with
        |some (.val v h2)=>match aZ {h2 with log:=aC base h.log h2.log} base h2.log mask rs with
         |some rs'=>ew T n base ops is before rs' (bM e o.dst v) {h2 with log:=aC base h.log h2.log}
         |none=>none
        |_=>none
       else none
      |_=>none
     else
      match aop {h with log:=[]} h.next (bE e (bS o)) o.op with
      |some (.val v h2)=>match aZ {h2 with log:=aC base h.log h2.log} base h2.log mask rs with
       |some rs'=>ew T n base ops is before rs' (bM e o.dst v) {h2 with log:=aC base h.log h2.log}
       |none=>none
      |some (.call fn args _)=>match fT T n fn args {h with log:=[]}with
       |some (.ret v,h2)=>match aZ {h2 with log:=aC base h.log h2.log} base h2.log mask rs with
        |some rs'=>ew T n base ops is before rs' (bM e o.dst v) {h2 with log:=aC base h.log h2.log}
        |none=>none
       |some (.panic v,h2)=>some (.panic v,[],{h2 with log:=aC base h.log h2.log})
       |none=>none
      |_=>none
    |none=>none
   |_,_=>none
def fT(T:Nat→Option af):Nat→Fn→List Value→Heap→Option (Res×Heap)
 |0,_,_,_=>none
 |n+1,fn,args,h=>
  match fn with
  | .func f=>iE T n f args h
  | .yield l=>match h.get l with
    |some (.loop e ps asg body 0 .normal)=>match ir e ps args with
     |some e1=>match cu T n h.next (some l) asg e1 [] h with
      |some (.normal,e2,ds2,h2)=>bif notReady (h2.get l)then none else match cu T n h.next (some l) body e2 ds2 {h2 with bR:=gZ h2.bR l (.loop e ps asg body 1 .normal)}with
       |some (.normal,_,_,h3)=>match h3.get l with
        |some (.loop _ _ _ _ 1 _)=>some (.ret (.bool true),gcA h {h3 with bR:=gZ h3.bR l (.loop e ps asg body 0 .normal)} (.bool true))
        |_=>none
       |some (.exit i,_,_,h3)=>match h3.get l with
        |some (.loop _ _ _ _ 1 _)=>some (.ret (.bool false),h3.wr h.next l (.loop e ps asg body 2 (.exit i)))
        |_=>none
       |some (.ret,_,_,h3)=>match h3.get l with
        |some (.loop _ _ _ _ 1 _)=>some (.ret (.bool false),h3.wr h.next l (.loop e ps asg body 2 .ret))
        |_=>none
       |_=>none
      |_=>none
     |none=>none
    |_=>none
  |_=>none
def iE(T:Nat→Option af):Nat→Nat→List Value→Heap→Option (Res×Heap)
 |0,_,_,_=>none
 |n+1,f,args,h=>
  match T f with
  |none=>none
  |some (.jW p)=>match p args h with
   |some (v,h')=>some (.ret v,h')
   |none=>none
  |some (.code code results)=>match cu T n h.next none code (dV 0 args) [] h with
   |some (.panic v,e,ds,h1)=>mY T n results ds (some v) e h h1
   |some (.exit _,_,_,_)=>none
   |some (_,e,ds,h1)=>mY T n results ds none e h h1
   |none=>none
def mY(T:Nat→Option af):Nat→List (Nat×Option (Option Nat))→Dfs→Option Value→Env→Heap→Heap→Option (Res×Heap)
 |0,_,_,_,_,_,_=>none
 |n+1,results,ds,pan,e,h,h1=>
  match ds with
  |[]=>match pan with
   |some v=>some (.panic v,h1)
   |none=>match bY h1 e results with
    |some vs=>some (.ret (eS vs),gcA h h1 (eS vs))
    |none=>none
  |(.func (.func g) first cap,args)::ds=>match jU T n g (dI first.toList (dI args cap.toList)) pan {h1 with log:=[]}with
   |some (pan',h2)=>mY T n results ds pan' e h {h2 with log:=aC h.next h1.log h2.log}
   |none=>none
  |_=>none
def jU(T:Nat→Option af):Nat→Nat→List Value→Option Value→Heap→Option (Option Value×Heap)
 |0,_,_,_,_=>none
 |n+1,g,args,pan,h=>
  match T g with
  |some (.code code [])=>match iA T n h.next code (dV 0 args) pan h with
   |some (.normal,_,pan',h')=>some (pan',h')
   |some (.ret,_,pan',h')=>some (pan',h')
   |_=>none
  |_=>none
def iA(T:Nat→Option af):Nat→Nat→aY→Env→Option Value→Heap→Option (bw×Env×Option Value×Heap)
 |0,_,_,_,_,_=>none
 |n+1,base,c,e,pan,h=>
  match c with
  | .skip=>some (.normal,e,pan,h)
  | .region ops keep=>match jq T n base ops e pan h with
    |some (.normal,e',pan',h')=>some (.normal,bE e' keep,pan',h')
    |r=>r
  | .seq a b=>match iA T n base a e pan h with
    |some (.normal,e',pan',h')=>iA T n base b e' pan' h'
    |r=>r
  | .cond c a b=>match ev h e c with
    |some (.bool true)=>iA T n base a e pan h
    |some (.bool false)=>iA T n base b e pan h
    |_=>none
  | .ret=>some (.ret,e,pan,h)
  |_=>none
def jq(T:Nat→Option af):Nat→Nat→List aW→Env→Option Value→Heap→Option (bw×Env×Option Value×Heap)
 |0,_,_,_,_,_=>none
 |n+1,base,ops,e,pan,h=>
  match ops with
  |[]=>some (.normal,e,pan,h)
  |o::os=>match bC e o.guard with
   |some false=>jq T n base os (bM e o.dst (.tuple #[])) pan h
   |some true=>match aop h base e o.op with
    |some (.val v h')=>jq T n base os (bM e o.dst v) pan h'
    |some .recover=>match pan with
     |some v=>jq T n base os (bM e o.dst v) none h
     |none=>jq T n base os (bM e o.dst .nilIface) none h
    |_=>none
   |none=>none
end
def aF(P:Program):Operand→Bool
 | .const v=>cB v
 | .global g=>Nat.blt g P.globals.size
 |_=>true
def dK(P:Program)(t:TypeId):Option Nat:=(P.info? t).map (·.size)
def jv(P:Program)(t:TypeId):Option Nat:=(P.info? t).map (·.bytes)
def gM(P:Program)(t:TypeId):Option Value:=(P.info? t).bind (·.zero)
def tj(P:Program)(t:TypeId):Option (Option Nat):=
 match P.underlying t with
 |some (.struct _)|some (.array _ _)=>(dK P t).map some
 |some _=>some none
 |none=>none
def goL(P:Program)(lf:TypeId→Option (List dM)):Nat→List Field→Option (List dM)
 |_,[]=>some []
 |off,f::fs=>if f.name= "_" ∨f.offset≠off then none else match lf f.type,dK P f.type with
  |some l,some s=>if l.length=s then match goL P lf (off+s) fs with
   |some m=>some (dI l m)
   |none=>none
   else none
  |_,_=>none
def dF(P:Program):Nat→TypeId→Option (List dM)
 |0,_=>none
 |d+1,t=>match P.underlying t with
  |some .bool=>some [.b]
  |some (.int k)=>some [.i k]
  |some .string=>some [.s]
  |some (.array n e)=>match dF P d e,dK P e with
   |some l,some s=>if l.length=s then some (eE n l)else none
   |_,_=>none
  |some (.struct fs)=>if P.stoodInHeld t then none else goL P (dF P d) 0 fs.toList
  |_=>none
def eN(P:Program)(t:TypeId):Bool:=
 match P.underlying t with
 |some (.struct _)|some (.array _ _)=>true
 |_=>false
def lN:Operand→Bool
 | .const _=>true
 |_=>false
def uc:BinOp→Option Bool
 | .eql=>some false
 | .neq=>some true
 |_=>none
def nN(place:Nat→Option (Nat×Nat)):List (Nat×Operand)→Option (List (Nat×Nat×Operand))
 |[]=>some []
 |(i,x)::ps=>match place i,nN place ps with
  |some (o,s),some l=>some ((o,s,x)::l)
  |_,_=>none
def fU(P:Program)(o:Op):Option AOp:=
 if o.operands.toList.all (aF P)then
 match o with
 | .move x| .assign x=>some (.mov x)
 | .pick c a b=>some (.pick c a b)
 | .alloc t=>match gM P t with
   |some z=>if cS (cellsOf z)then some (.new (cellsOf z))else none
   |none=>none
 | .box _ x=>some (.box x)
 | .build t ps=>match gM P t,P.underlying t with
   |some z,some (.struct fs)=>if cS (cellsOf z)∧fs.toList.all (fun f=>(dK P f.type).isSome)then(nN (fun i=>(fs[i]?).map fun f=>(f.offset,P.cellsOf f.type)) ps.toList).map (.build (cellsOf z))else none
   |some z,some (.array _ e)=>match dK P e with
    |some s=>if cS (cellsOf z)then(nN (fun i=>some (i*s,s)) ps.toList).map (.build (cellsOf z))else none
    |none=>none
   |_,_=>none
 | .buildSlice t n ps=>match P.underlying t with
   |some (.slice e)=>match dK P e,gM P e with
    |some s,some z=>if n*s≤2 ^ 24∧bZ (cellsOf z)=s∧s≠0∧cS (cellsOf z)then(nN (fun i=>some (i*s,s)) ps.toList).map (.cU (cellsOf z) n)else none
    |_,_=>none
   |_=>none
 | .load t a=>(tj P t).map fun n=> .load n a
 | .store t a v=>(dK P t).map fun n=> .store n a v
 | .nilCheck x=>some (.cg x)
 | .binOp op t x y _=>
   match P.underlying t with
   |some (.struct _)|some (.array _ _)=>match op,dF P 100 t with
    | .eql,some ls=>if P.eqGuardType P.depth t then none else some (.bin (.agg false ls) x y)
    | .neq,some ls=>if P.eqGuardType P.depth t then none else some (.bin (.agg true ls) x y)
    |_,_=>none
   |some (.interface _)=>if lN x||lN y then(uc op).map fun n=> .bin (.nil .iface n) x y else none
   |some (.pointer _)=>(uc op).map fun n=> .bin (.nil .ptr n) x y
   |some (.slice _)=>(uc op).map fun n=> .bin (.nil .sl n) x y
   |some (.map _ _)=>(uc op).map fun n=> .bin (.nil .map n) x y
   |some (.func _ _ _)=>(uc op).map fun n=> .bin (.nil .func n) x y
   |some .bool=>(uc op).map fun n=> .bin (.beq n) x y
   |some (.int _)=>some (.bin (.num op) x y)
   |some .string=>some (.bin (.num op) x y)
   |_=>none
 | .unOp op _ x=>some (.un op x)
 | .convert s d x=>match P.underlying s,P.underlying d with
   |some (.int _),some (.int k)=>some (.conv (.int k) x)
   |some .string,some .string=>some (.conv .same x)
   |some (.slice e),some .string=>match P.underlying e with
    |some (.int .u8)=>some (.conv .toStr x)
    |_=>none
   |some .string,some (.slice e)=>match P.underlying e with
    |some (.int .u8)=>some (.conv .toBytes x)
    |_=>none
   |_,_=>none
 | .makeInterface t x=>match P.underlying t with
   |some (.interface _)=>none
   |some _=>some (.ig t x)
   |none=>none
 | .makeFunc (.func f) fs cs=>some (.dY (.func f) fs.toList cs.toList)
 | .makeMap _ none=>some .mkMap
 | .makeMap t (some (.const (.int _ _)))=>match P.underlying t with
   |some (.map _ _)=>some .mkMap
   |_=>none
 | .makeSlice t l c=>match P.underlying t with
   |some (.slice e)=>match dK P e,gM P e,jv P e with
    |some s,some z,some b=>if bZ (cellsOf z)=s∧s≠0∧cS (cellsOf z)then some (.mkSlice (cellsOf z) b l c)else none
    |_,_,_=>none
   |_=>none
 | .slice t x lo hi mx=>if mx.isSome&&hi.isNone then none else match P.underlying t with
   |some .string=>match mx with
    |none=>some (.slice .str x lo hi none)
    |some _=>none
   |some (.slice e)=>(dK P e).map fun s=> .slice (.sl s) x lo hi mx
   |some (.array n e)=>if n<UNK then(dK P e).map fun s=> .slice (.arr n s) x lo hi mx else none
   |some (.pointer a)=>match P.underlying a with
    |some (.array n e)=>if n<UNK then(dK P e).map fun s=> .slice (.arr n s) x lo hi mx else none
    |_=>none
   |_=>none
 | .fieldAddr s x f=>match P.underlying s with
   |some (.struct fs)=>match fs[f]? with
    |some f=>match dK P f.type with
     |some (_+1)=>some (.dh f.offset x)
     |_=>none
    |none=>none
   |_=>none
 | .field s x f=>match P.underlying s with
   |some (.struct fs)=>match fs[f]? with
    |some f=>(tj P f.type).map fun n=> .field f.offset n x
    |none=>none
   |_=>none
 | .indexAddr t x i=>match P.underlying t with
   |some (.array n e)=>(dK P e).map fun s=> .cZ n s x i
   |some (.slice e)=>(dK P e).map fun s=> .aU s x i
   |_=>none
 | .index t x i=>match P.underlying t with
   |some (.array n e)=>match dK P e,tj P e with
    |some s,some a=>some (.rq n s a x i)
    |_,_=>none
   |some .string=>some (.iX x i)
   |_=>none
 | .lookup t m k ok=>match P.underlying t with
   |some (.map kt e)=>match dF P 100 kt,gM P e with
    |some ls,some z=>if flat z then some (.lookup (eN P kt) ls z ok m k)else none
    |_,_=>none
   |_=>none
 | .mapUpdate t m k v=>match P.underlying t with
   |some (.map kt _)=>match dF P 100 kt with
    |some ls=>some (.kT (eN P kt) ls m k v)
    |none=>none
   |_=>none
 | .typeAssert x _ a ok=>match P.underlying a with
   |some (.interface _)=>none
   |some _=>match gM P a with
    |some z=>if flat z then some (.jL a ok z x)else none
    |none=>none
   |none=>none
 | .extract t i=>some (.extract t i)
 | .panic x=>some (.rF x)
 | .range t x=>match P.underlying t with
   |some .string=>some (.range x)
   |some (.map _ _)=>some (.lC x)
   |_=>none
 | .next x s=>some (.next x s)
 | .entry x=>some (.entry x)
 | .call c=>match c.callee with
   | .value f=>some (.call f c.args.toList)
   | .invoke _ _=>none
   | .builtin b=>match b,c.argTypes.toList,c.args.toList with
     | .len,[t],[x]=>match P.underlying t with
       |some .string=>some (.len 0 x)
       |some (.slice _)=>some (.len 1 x)
       |some (.map _ _)=>some (.len 2 x)
       |some (.array n _)=>some (.jC n)
       |some (.pointer a)=>match P.underlying a with
        |some (.array n _)=>some (.jC n)
        |_=>none
       |_=>none
     | .cap,[t],[x]=>match P.underlying t with
       |some (.slice _)=>some (.cap x)
       |_=>none
     | .append,[st,xt],[s,x]=>match P.underlying st,P.underlying xt with
       |some (.slice e),some (.int _)=>match gM P e,jv P e,dK P e with
        |some z,some b,some n=>if bZ (cellsOf z)=n∧n≠0∧b≠0∧cS (cellsOf z)then some (.jI (cellsOf z) b s x)else none
        |_,_,_=>none
       |some (.slice e),some _=>match dK P e,jv P e,gM P e with
        |some n,some b,some z=>if bZ (cellsOf z)=n∧n≠0∧b≠0∧cS (cellsOf z)then some (.append n b s x)else none
        |_,_,_=>none
       |_,_=>none
     | .copy,[dt,_],[d,s]=>match P.underlying dt with
       |some (.slice e)=>(dK P e).map fun n=> .copy n d s
       |_=>none
     | .max,_,args=>if 2≤c.args.size then some (.ei true args)else none
     | .min,_,args=>if 2≤c.args.size then some (.ei false args)else none
     | .delete,[mt,_],[m,k]=>match P.underlying mt with
       |some (.map kt _)=>match dF P 100 kt with
        |some ls=>some (.delete (eN P kt) ls m k)
        |none=>none
       |_=>none
     | .clear,[t],[x]=>match P.underlying t with
       |some (.slice e)=>match gM P e with
        |some z=>if cS (cellsOf z)then some (.clear (cellsOf z) x)else none
        |none=>none
       |_=>none
     | .recover,_,_=>some .recover
     |_,_,_=>none
 | .defer c=>match c.callee with
   | .value f=>some (.jo f c.args.toList)
   |_=>none
 |_=>none
 else none
def jY(nt:Nat):Option Nat→Bool
 |none=>true
 |some t=>Nat.blt t nt
def bV(P:Program)(nt:Nat)(ops:Array Oper):List Oper→Option (List aW)
 |[]=>some []
 |o::os=>if jY nt o.dst then match fU P o.op,bV P nt ops os with
  |some a,some as=>match o.guard with
   |none=>some (⟨o.dst,a,none⟩::as)
   |some (j,b)=>match(ops[j]?).bind (·.dst)with
    |some t=>some (⟨o.dst,a,some (t,b)⟩::as)
    |none=>none
  |_,_=>none else none
def By(ops:List Oper)(done:List Nat):Nat→List Oper→List Nat
 |_,[]=>[]
 |i,o::os=>
  if !fh done i&&(o.after.toList.all fun e=> !Region.binds .any e||fh done e.on)then i::By ops done (i+1) os else By ops done (i+1) os
def eager(ops:List Oper)(q:List Bool):Nat→List Nat→List Nat
 |0,done=>done.reverse
 |n+1,done=>
  let r:=By ops done 0 ops
  match r.find? (fun i=>(bH q i).getD false)with
  |some i=>eager ops q n (i::done)
  |none=>match r with
   |i::_=>eager ops q n (i::done)
   |[]=>done.reverse
def Bi(o:Oper):List Nat:=(o.after.toList.filter (Region.binds .any)).map (·.on)
def iU(ops:List Oper)(i:Nat):List Nat:=
 match bH ops i with
 |some o=>Bi o
 |none=>[]
def topoOk(as:List aW)(ops:List Oper)(done:List Nat):List Nat→Bool
 |[]=>true
 |i::is=>(iU ops i).all (fh done)&& !fh done i&&
  (match bH as i with|some a=>jc a.op||is.all fun j=>(iU ops j).any (fh (i::is))|none=>false)&&topoOk as ops (i::done) is
def KA(as:List aW)(ops:List Oper)(bf:List Nat)(n:Nat):Bool:=
 (List.range n).all fun j=>match bH as j with
   |some a=>(bS a).all fun t=>(List.range n).all fun p=>match bH as p with
    |some b=> !(b.dst==some t)||fh (iU ops j) p||(match bH bf p with|some m=>Nat.testBit m j|none=>false)
    |none=>false
   |none=>false
def Md(as:List aW)(n:Nat):Bool:=
 (List.range n).all fun j=>(List.range n).all fun p=>match bH as j,bH as p with
   |some a,some b=>Nat.beq j p|| !(a.dst==b.dst)||a.dst.isNone
   |_,_=>false
def JJ(ops:List Oper)(bf:List Nat)(n:Nat):Bool:=
 (List.range n).all fun i=>(List.range n).all fun p=>match bH bf i with
   |some m=> !Nat.testBit m p||(iU ops i).any fun q=>Nat.beq p q||(match bH bf q with|some mq=>Nat.testBit mq p|none=>false)
   |none=>false
def tG(as:List aW)(ops:List Oper)(ord bf:List Nat):Bool:=
 Nat.beq ord.length ops.length&&ord.all (Nat.blt · ops.length)&&(List.range ops.length).all (fh ord)&&topoOk as ops [] ord&&KA as ops bf ops.length&&Md as ops.length&&JJ ops bf ops.length&&
  as.all fun a=>match a.op with| .jo _ _=>false|_=>true
def uS{α:Type}:List α→Option (List α×α)
 |[]=>none
 |[x]=>some ([],x)
 |x::l=>match uS l with
  |some (l',y)=>some (x::l',y)
  |none=>none
def Lz(ops:List aW)(keep:List Nat)(out nx it1 mo nx1 mo1 out1 nxt pr it2:Nat)(ops2:List aW)(k2:List Nat)(body:aY):Option aY:=
 match uS ops with
 |some (ops0,⟨some it, .lC x,none⟩)=>
  if it1=it∧it2=it∧nx1=nx∧mo1=mo∧out1=out∧nx≠mo∧it≠nx∧it≠mo then
   some (.rangeMap ops0 it x (keep.filter fun t=> !(Nat.beq t it||Nat.beq t nx||Nat.beq t mo)) out nxt pr ops2 k2 body)
  else none
 |_=>none
def fuse? :aY→aY→Option aY
 | .region ops keep, .block out (.loop (.seq (.region [⟨some nx, .next (.tmp it1) false,none⟩,⟨some mo, .extract (.tmp nx1) 0,none⟩] _) (.seq (.cond (.tmp mo1) .skip (.exit out1)) (.block nxt (.seq (.region (⟨some pr, .entry (.tmp it2),none⟩::ops2) k2) body)))))=>
   Lz ops keep out nx it1 mo nx1 mo1 out1 nxt pr it2 ops2 k2 body
 |_,_=>none
def O4(a b:aY):aY:=
 match fuse? a b with
 |some c=>c
 |none=> .seq a b
def comp(P:Program)(nt:Nat):Code→List (List Nat)→Option (aY×List (List Nat))
 | .skip,ks=>some (.skip,ks)
 | .region _ ops draw,ks=>match ks,bV P nt ops ops.toList with
   |k::ks,some as=>
    if draw then
     let ord:=eager ops.toList (as.map fun a=>jc a.op) ops.size []
     let bf:=(Region.before ops).toList
     if tG as ops.toList ord bf then some (.draw as ord bf k,ks)else none
    else some (.region as k,ks)
   |_,_=>none
 | .seq a b,ks=>match comp P nt a ks with
   |some (a',ks)=>match comp P nt b ks with
    |some (b',ks)=>some (O4 a' b',ks)
    |none=>none
   |none=>none
 | .cond c a b,ks=>if aF P c then match comp P nt a ks with
   |some (a',ks)=>match comp P nt b ks with
    |some (b',ks)=>some (.cond c a' b',ks)
    |none=>none
   |none=>none else none
 | .block id b,ks=>match comp P nt b ks with
   |some (b',ks)=>some (.block id b',ks)
   |none=>none
 | .loop b,ks=>match comp P nt b ks with
   |some (b',ks)=>some (.loop b',ks)
   |none=>none
 | .rangeFunc f ps a b,ks=>if aF P f&&ps.toList.all (Nat.blt · nt)then match comp P nt a ks with
   |some (a',ks)=>match comp P nt b ks with
    |some (b',ks)=>some (.rangeFunc f ps.toList a' b',ks)
    |none=>none
   |none=>none else none
 | .scope b,ks=>match comp P nt b ks with
   |some (b',ks)=>some (.scope b',ks)
   |none=>none
 | .label _,ks=>some (.skip,ks)
 | .exit id,ks=>some (.exit id,ks)
 | .ret,ks=>some (.ret,ks)
 |_,_=>none
def Ac(P:Program):List ResultVar→Option (List (Nat×Option (Option Nat)))
 |[]=>some []
 | .tmp t::rs=>(Ac P rs).map ((t,none):: ·)
 | .cell a t::rs=>match tj P t,Ac P rs with
   |some n,some l=>some ((a,some n)::l)
   |_,_=>none
def aO(P:Program)(f:Func)(ks:List (List Nat)):Option af:=
 match f.body with
 |some c=>if f.name= "runtime.NumGoroutine" then none else match comp P f.ntmps c ks,Ac P f.results.toList with
  |some (ac,[]),some rs=>some (.code ac rs)
  |_,_=>none
 |none=>none
inductive Tr
 |nil|node (l:Tr) (k:Nat) (v:af) (r:Tr)
def Tr.get:Tr→Nat→Option af
 | .nil,_=>none
 | .node l k v r,n=>bif Nat.beq n k then some v else bif Nat.blt n k then l.get n else r.get n
def cL:aY→aY
 | .seq a _=>a
 |c=>c
def cR:aY→aY
 | .seq _ b=>b
 |c=>c
def codeOf:af→aY
 | .code c _=>c
 |_=> .skip
end Go.A
